/-
  Kt7: texts joined: Cv1 Cv2 Cv3 Cv4 Tp2 Zk2 Zk3 Zk5 Ks1 Ks2 Ks3 Ks4 Ks5 Kc1. Own work.
-/
import Derived.Test.YtlahcgdnieenpaaGreatDoorKt6
import Derived.Test.YtlahcgdnieenpaaGreatDoorProg
import GoSem.ClaimGoes
import Derived.ProofKit
import Derived.Shelf.Spec.TrailingZeros
set_option linter.all false
set_option linter.unusedSimpArgs false
set_option linter.unusedVariables false
set_option linter.unusedSectionVars false

set_option maxRecDepth 100000
namespace Go.Proofs.YtlahcgdnieenpaaGreatDoor.Facts
open Go Go.AM
def nxT : List (List (List Nat)) := [[[],[],[1],[6,7,7,8,9,8,10,11],[11,12,13,13,14,15,16,16,17,9,17,9,17,9,17,18,10,17,9,19,17,17,20,10,10,10,11],[21,11,22,11,23,24,23,25,12,26,27,9,10,11],[28],[29,29,30],[],[31,32,33,34,35],[],[36,37],[],[],[38,39],[38,41,40,39],[],[],[42],[38,39,39,43],[44,32,28,28,43],[45],[46,47],[45,45,48,49,50],[51,52,53,53],[54,54],[31,33,33,55],[]],
 [[44,56,57,9],[59,58],[],[44,56,61,60],[60,63,64,60],[],[],[],[66,67],[68,69,70,9,28,20,20,6,26,26,71,72,73,75,74,76,77,78,79,79,79,80,81,75],[82,83],[84,85,86,87,88],[89],[90,91],[],[],[92,65,60],[95,95,96],[97,99,98,52],[100,101,103,102],[95],[104],[],[46,94,93,53],[105,105],[],[],[106,107,34,108]],
 [[],[],[109],[],[110],[62],[65],[],[65],[111,98],[112,113],[114,115,115,116,117,118,119,120,121,122,123,123,124,125,126,127,127,127],[128],[128],[],[31,33,34,107,33,35,129,130],[31,65,131],[31,57,133,132],[31,65,65,131,135,135],[],[31,65,33,33,136],[31,33,33,137],[31,138,60,130,33,33,33,33,34,108],[],[79],[],[139,140,141],[]],
 [[142],[143],[],[],[144],[],[],[],[94,93,43],[145,146],[147],[],[50],[148,149,149,150,149,151,52,152],[153],[],[154],[155],[],[53,100],[],[],[],[108],[156],[],[],[]],
 [[157,158],[159,159,159,160,161,162,162,163,163,164,164,165,166,167,168,169,170,170,171,171,172,171,171],[173],[174],[175,176],[175],[175],[174,177,178,176],[179,180,177,178,176],[174,181,182,184,183],[174,186],[174,187,187],[174,187],[188,188,189,190],[191,191,192],[],[],[194,193],[195],[],[],[57,134,132],[131,135,135],[],[106,107,34,107,34,56,34,107],[106,107,34,108],[62],[140,140,151]],
 [[196,98],[197],[144],[],[],[198],[194,199],[],[149],[200,58],[201],[202],[203],[],[204],[],[],[205,206],[207,208,208,209,210,211,211,212,213,214,215,216,216,217,218,219,220,221,222,222,223,222],[],[224,225],[224,226,90],[227,228,229,60],[230,231,146],[227,232],[224,233,233],[230,235,234],[238,230,239,234]],
 [[230,241,242,236,232],[224,228],[227,238,233],[],[243,243,244],[],[179,181,180],[174,178],[],[245,246],[245,181],[181,181,181],[],[247,98],[],[153],[185],[],[248,185,249,249,91],[177,178,176,245],[],[],[],[188,188,192],[250,250,250],[251,252,253,254,255,256,257,258,193,193],[259,260],[261,261]],
 [[],[],[],[262,263,264,265,266,267,268,269,270,199,199],[],[],[],[],[271,272],[273,274],[275,276,277,277,278,279,279,280,281,282,283,284,285,286,286,287,288,289,290,291,292,290,293],[294,294,294,295,295,295,295,295],[296,297],[298,299,300,302,301],[303,304,305],[303,306,307,308],[306,296,307,307],[296,309,307],[296,309,310,310],[311,313,312],[303,304,308,308],[296,305,314,314],[306,296,310,307,307],[296,305,315,316],[317,317,318],[220],[],[222]],
 [[319,320],[321],[225],[224,238],[40,238],[],[227,232],[322],[226],[226],[232],[237,236],[],[],[328,98],[240,236],[],[],[],[329,329],[330],[],[331],[],[],[],[],[]],
 [[332,332],[333,334],[335,335,335,336],[],[],[],[],[],[],[],[268],[337,337],[333,334],[338,338,338,339],[],[268,268,268],[261,261],[268,268],[268,268,268,268],[],[],[340,341],[342,343,344,345,346,347,349,348,349,348,350,351,351,352,353,354,355,356],[357,357,357,357],[275,357],[358,359],[358,360],[361,363,362]],
 [[358,364,365,58],[358,366,98,367],[361,363,362,146],[361,363,362,90,369,368,362],[358,364,365,58],[370,371],[370,372,372,373,360],[370,371,371,374],[375,375,377,376],[],[],[],[378,378,379,377,377,377,377],[380],[],[],[303,304],[305],[381,300,301],[],[382,98],[383],[],[298,384],[307],[385],[300,141],[387,387]],
 [[388,389],[390],[307,307,307],[298,391,312],[392],[],[],[],[],[393,393],[393],[238,238,238,320,394],[],[],[236,323,234,325,226,326,327],[324],[],[],[],[],[],[330],[],[395],[],[194],[],[336]],
 [[396,396,396],[268,268],[339],[397,397,397],[398,399],[400,401,402,403,404,51,51,22,22,405,406,407,408,409,24,410,410,410,411,412,411,411],[413],[414],[414],[414],[414],[415,416],[415,417],[],[415,418,417,419],[415,420,421,421],[415,421],[415,422,423,197],[424,424,425],[],[],[289,289],[426,427],[],[365],[358,363],[429,428,90,430,368],[359]],
 [[372],[],[359],[],[153],[],[358],[373,431,432,433],[434,58],[363,435,436,437],[360,373,363,438,428],[378,378],[377],[],[439,439],[],[376],[306],[],[],[309,387,387,309,388,387,387],[386],[387,440,386],[],[441],[],[],[300]],
 [[],[],[],[],[],[268],[442,443,444],[445,446,447,448,449,450,450,451,452,452,453,454,455,456,457,458,460,459,461,462,463],[464,464,464,464],[400],[46,465],[46,466],[46,154,466],[46,100],[46,149,154,467,98],[468,101,53,100],[468,152,100],[46,469],[],[],[411],[],[415,470,423],[471,472],[473,474,475],[419,477,476,478],[478],[]],
 [[479,58],[474],[480],[],[482,482,482],[],[483,484],[],[],[],[365],[485],[360,360],[],[],[194,486],[],[487],[],[],[],[],[488,489,490,491,492,493,493,494,494,495,495,496,496,497,498,499,500,500,501,501,502],[503,14,14,19,19,505,505,504,505,504,506,507,508,509,510,15,511,512,513,514,514,514,515,514,514,514],[516,516,518,517,518,517,519,520,521,521,522,518,518,523,524,525,518,526,7,7,528,528,528,527,529,530,529,531,529,528],[460,460],[532,533],[532,534]],
 [[535,536],[535,537],[532,538,536],[532,539,540],[532,539,541,540],[532,542,541,543,541,543],[532,542,542,538,536,544,536,197],[532,545],[533,533,533,546],[532,547,98,537],[548,548,549,550],[],[],[],[463],[],[410],[],[],[],[46,100],[53,101,203],[241],[551,552],[475,473],[474],[],[141,553,554,555,476,556,368]],
 [[],[478],[],[],[481],[141,481],[],[372,372],[557],[],[558,559,560,561,562,563,564,565,566,486,486],[],[567,567,567,568,568,568,568],[488],[569,570],[571,572],[569,573,574,576,576,576,572],[571,572,577],[569,570,579,579],[571,580],[571,581,141],[569,582,581],[569,583,98,141,584],[571,570,141,141,585,141],[],[],[501],[]],
 [[38,90,586,587,43],[],[38,84,85],[38,84,85,88],[38,39,140,588],[38,39,588,91],[38,39,589],[38,84,84,85,590,39,86,87,88,88],[19,83,591,591,592],[593,593,594,514],[],[514],[595,595,528,528,528,528,528],[596,597,598,599],[],[596,597,600],[596,601,602,599],[603,604,605,606],[603,610,601,609],[596,612,611,613,611,598,601],[596,601,614,599],[596,615],[603,598,610,601,610,601,610,601],[29,616],[],[],[],[617,617,618,619,619]],
 [[620,621],[622,58],[],[532,542,241],[537],[623],[624,625,541,626,91],[543],[],[],[],[627,540,629,628],[631],[624,625],[633,533,634],[542],[635],[636],[637],[420],[638],[],[],[],[],[],[564],[639,639]],
 [[333,334],[640,640,640,641],[],[564,564,564],[642,642],[564,564],[564,564,564,564],[],[500],[643,578],[],[569,570,570],[],[644,58],[575],[],[645],[578,572],[582,582,647,646,648,646],[649,582,651,650],[582,585,585,652,650],[585,146],[653],[570],[572],[654],[140,140,140,588],[655,656]],
 [[144,144,144,144],[657],[144],[90,658,659,660,39,197],[90,587,661],[662,662,662],[663,664,665,665],[],[666,667],[],[668,668],[204],[669],[],[],[596,670,98,602,601],[671],[194,672],[608,607],[],[642,642],[601,601],[601],[673],[597],[598],[204,615,614,614,674,674],[]],
 [[29,29],[675],[],[],[546],[623,676],[],[],[626,541,540,537],[541,537],[],[630,630],[],[630],[623],[632],[141,632],[533,533],[677],[],[],[678],[],[564,564],[641],[679,679,679],[],[680,681,573,682,683,576]],
 [[],[],[684],[],[],[648,648],[],[646],[],[],[582,584],[],[685,686],[588,144],[587],[],[588],[],[687,687,663],[],[688,688],[],[689,29,29,690,616],[600,598],[692,691],[598],[597],[602,610,694,693,601]],
 [[695,696,697,698,699,700,701,702,672,672],[],[703,704],[],[],[],[],[564],[573,573],[573],[705],[706],[],[],[707],[],[],[29,29],[708],[],[],[709,710],[711],[],[712,712],[333,334],[713,713,713,714],[]],
 [[],[],[],[],[],[],[],[91,91,91],[],[715],[194,716],[],[],[714],[717,717,717],[],[718,719,720,721,722,723,724,725,726,716,716],[],[724],[727,727],[333,334],[728,728,728,729],[],[724,724,724],[730,730],[724,724],[724,724,724,724],[724,724]],
 [[729],[731,731,731],[],[724],[],[],[],[],[],[],[],[],[],[],[],[],[],[],[],[],[],[],[],[],[]]]
def nx (i:Nat):List Nat:=(nxT.getD (i / 28) []).getD (i % 28) []
def gvT (i:Nat):List Nat:=(bif Nat.beq i 752 then [0,1] else (bif Nat.beq i 272 then [1] else (bif Nat.beq i 271 then [0] else [])))
noncomputable def ipT (i:Nat):Option String:=bif Nat.beq i 685 then some Tryz.f685.name else none
def qdR (P:Program) (i:Nat):Bool:=((P.funcs[i]?).elim [] P.leadsTo==nx i)&&(((P.funcs[i]?).bind (·.body)).elim [] Code.globalsNamed==gvT i) && !((P.funcs[i]?).any Func.goes)
noncomputable def qeE (P : Program) (i : Nat) : Bool := (((P.funcs[i]?).bind fun fn => if fn.ours || fn.body.isNone || fn.name == "runtime.NumGoroutine" then some fn.name else none) == ipT i) && (((P.funcs[i]?).bind fun fn => if fn.body.isNone then entryReads.lookup fn.name else none) == none)
end Go.Proofs.YtlahcgdnieenpaaGreatDoor.Facts

set_option maxRecDepth 100000
namespace Go.Proofs.YtlahcgdnieenpaaGreatDoor.Facts
open Go Go.AM
theorem kf0:(List.range' 0 100).all (qdR Tryz.prog)=true:=by kernel_rfl
theorem kg0:(List.range' 2 98).all (qeE Tryz.prog)=true:=by kernel_rfl
theorem qAc:(List.range' 100 100).all (qdR Tryz.prog)=true:=by kernel_rfl
theorem qAj:(List.range' 100 100).all (qeE Tryz.prog)=true:=by kernel_rfl
theorem qAd:(List.range' 200 100).all (qdR Tryz.prog)=true:=by kernel_rfl
theorem qAk:(List.range' 200 100).all (qeE Tryz.prog)=true:=by kernel_rfl
theorem qAe:(List.range' 300 100).all (qdR Tryz.prog)=true:=by kernel_rfl
theorem qAl:(List.range' 300 100).all (qeE Tryz.prog)=true:=by kernel_rfl
end Go.Proofs.YtlahcgdnieenpaaGreatDoor.Facts

set_option maxRecDepth 100000
namespace Go.Proofs.YtlahcgdnieenpaaGreatDoor.Facts
open Go Go.AM
theorem qAf:(List.range' 400 100).all (qdR Tryz.prog)=true:=by kernel_rfl
theorem qAm:(List.range' 400 100).all (qeE Tryz.prog)=true:=by kernel_rfl
theorem qAg:(List.range' 500 100).all (qdR Tryz.prog)=true:=by kernel_rfl
theorem qAn:(List.range' 500 100).all (qeE Tryz.prog)=true:=by kernel_rfl
theorem qAh:(List.range' 600 100).all (qdR Tryz.prog)=true:=by kernel_rfl
theorem qAo:(List.range' 600 100).all (qeE Tryz.prog)=true:=by kernel_rfl
theorem qAi:(List.range' 700 53).all (qdR Tryz.prog)=true:=by kernel_rfl
theorem qAp:(List.range' 700 32).all (qeE Tryz.prog)=true:=by kernel_rfl
end Go.Proofs.YtlahcgdnieenpaaGreatDoor.Facts

set_option maxRecDepth 100000
namespace Go.Proofs.YtlahcgdnieenpaaGreatDoor.Facts
open Go Go.AM
theorem zY {f:Nat->Bool} {a n:Nat} (h:(List.range' a n).all f=true) {t:Nat} (h1:a<=t) (h2:t<a+n):f t=true:=List.all_eq_true.1 h t (List.mem_range'_1.2 ⟨h1,h2⟩)
theorem fsz:Tryz.prog.funcs.size=753:=by kernel_rfl
theorem kf {i:Nat} (h:i<753):qdR Tryz.prog i=true:=by
 by_cases h1:i<100;· exact zY kf0 (by omega) (by omega)
 by_cases h101:i<200;· exact zY qAc (by omega) (by omega)
 by_cases h201:i<300;· exact zY qAd (by omega) (by omega)
 by_cases h301:i<400;· exact zY qAe (by omega) (by omega)
 by_cases h401:i<500;· exact zY qAf (by omega) (by omega)
 by_cases h501:i<600;· exact zY qAg (by omega) (by omega)
 by_cases h601:i<700;· exact zY qAh (by omega) (by omega)
 exact zY qAi (by omega) (by omega)
theorem kg {i:Nat} (h0:2<=i) (h:i<732):qeE Tryz.prog i=true:=by
 by_cases h1:i<100;· exact zY kg0 (by omega) (by omega)
 by_cases h101:i<200;· exact zY qAj (by omega) (by omega)
 by_cases h201:i<300;· exact zY qAk (by omega) (by omega)
 by_cases h301:i<400;· exact zY qAl (by omega) (by omega)
 by_cases h401:i<500;· exact zY qAm (by omega) (by omega)
 by_cases h501:i<600;· exact zY qAn (by omega) (by omega)
 by_cases h601:i<700;· exact zY qAo (by omega) (by omega)
 exact zY qAp (by omega) (by omega)
theorem qkd {α:Type} {l:List α} {i:Nat} {d:α} (h:l.length<=i):l.getD i d=d:=by rw [List.getD_eq_getElem?_getD,List.getElem?_eq_none h];rfl
theorem qrQ {f:Nat} (h:753<=f):nx f=[]:=by
 unfold nx;rcases Nat.lt_or_ge (f / 28) 27 with h1 | h1
 . have e : f / 28 = 26 := by omega
   rw [e,qkd (by rw [show (nxT.getD 26 []).length=25 by kernel_rfl];omega)]
 rw [qkd (l:=nxT) (by rw [show nxT.length=27 by kernel_rfl];exact h1)];rfl
theorem qrP (f:Nat):(Tryz.prog.funcs[f]?).elim [] Tryz.prog.leadsTo=nx f:=by
 rcases Nat.lt_or_ge f 753 with h | h
 . have:=kf h;unfold qdR at this;rw [Bool.and_eq_true,Bool.and_eq_true] at this;exact eq_of_beq this.1.1
 rw [Array.getElem?_eq_none (by rw [fsz];exact h),qrQ h];rfl
theorem qz0 {f:Nat} (h:f<753):((Tryz.prog.funcs[f]?).bind (·.body)).elim [] Code.globalsNamed=gvT f:=by have:=kf h;unfold qdR at this;rw [Bool.and_eq_true,Bool.and_eq_true] at this;exact eq_of_beq this.1.2
theorem qfq (f:Nat):(Tryz.prog.funcs[f]?).any Func.goes=false:=by
 rcases Nat.lt_or_ge f 753 with h | h
 . have:=kf h;unfold qdR at this;rw [Bool.and_eq_true,Bool.not_eq_true'] at this;exact this.2
 rw [Array.getElem?_eq_none (by rw [fsz];exact h)];rfl
theorem qz8 {f : Nat} (h0 : 2 ≤ f) (h : f < 732) : ((Tryz.prog.funcs[f]?).bind fun fn => if fn.ours || fn.body.isNone || fn.name == "runtime.NumGoroutine" then some fn.name else none) = ipT f := by
 have:=kg h0 h;unfold qeE at this;rw [Bool.and_eq_true] at this;exact eq_of_beq this.1
theorem qzT {f:Nat} (h0:2<=f) (h:f<732):((Tryz.prog.funcs[f]?).bind fun fn=>if fn.body.isNone then entryReads.lookup fn.name else none)=none:=by have:=kg h0 h;unfold qeE at this;rw [Bool.and_eq_true] at this;exact eq_of_beq this.2
theorem qfI:Tryz.prog.funcs.toList.map Tryz.prog.leadsTo=(List.range 753).map nx:=by
 refine List.ext_getElem? fun i=>?_;have e:=qrP i;rw [List.getElem?_map,List.getElem?_map,Array.getElem?_toList];rcases Nat.lt_or_ge i 753 with h | h
 . rw [List.getElem?_range h];cases hq:Tryz.prog.funcs[i]? with
   | none=>rw [Array.getElem?_eq_none_iff,fsz] at hq;omega
   | some g=>rw [hq] at e;exact congrArg some e
 rw [Array.getElem?_eq_none (by rw [fsz];exact h),List.getElem?_eq_none (by rw [List.length_range];exact h)];rfl
theorem jM:1+(Tryz.prog.funcs.toList.map fun g=>(Tryz.prog.leadsTo g).length+1).sum=2292:=by
 have e:(Tryz.prog.funcs.toList.map fun g=>(Tryz.prog.leadsTo g).length+1)=(Tryz.prog.funcs.toList.map Tryz.prog.leadsTo).map fun l=>l.length+1:=by rw [List.map_map];rfl
 rw [e,qfI];show 1+(((List.range 753).map nx).map fun l=>l.length+1).sum=2292
 kernel_rfl
theorem qc9 {f:Nat} {L:List Nat} (h:cvP nx 2292 [f] 0 [] (fun acc=>okP (acc.reverse==L) True)=True):Tryz.prog.closure f=L:=by unfold Program.closure;rw [jM];have h:cvP nx 2292 [f] 0 [] (fun acc=>okP (acc.reverse==L) True):=of_eq_true h;rw [qeI qrP _ _ _ _ _ fun g=>by rw [Nat.zero_testBit];rfl] at h;have:=eq_of_beq (qj h).1;rwa [List.reverse_reverse] at this
theorem qnk:Tryz.prog.funcs.any Func.goes=false:=by rw [Array.any_eq_false];intro i hi hg;have:=qfq i;rw [Array.getElem?_eq_getElem hi] at this;exact absurd hg (by simpa using this)
theorem qid (f:FuncId):Tryz.prog.goes f=false:=by unfold Program.goes;rw [qnk,Bool.and_false,Bool.or_false,List.any_eq_false];exact fun g _=>by rw [qfq];exact Bool.false_ne_true
end Go.Proofs.YtlahcgdnieenpaaGreatDoor.Facts

set_option maxRecDepth 100000
set_option maxHeartbeats 0
namespace Go.AM
open Go.RowKit Go.Proofs
def topZ:CZ:=(.seq (.rgnF [9,10,11,12] [[13]] [⟨none,[(.op (.mv 13 (.k (.sl true 0 []))))]⟩] [9,10,11,12,13]) (.seq (.seq (.rgnF [9,10,11,12,13] [[14]] [⟨none,[(.op (.mv 14 (.k (I 0))))]⟩] [9,10,11,12,13,14]) (.block 0 (.loop (.seq (.seq (.rgnF [9,10,11,12,13,14] [[48,49,50]] [⟨none,[(.op (.mv 48 (.t 14))),(.op (.mv 49 (.t 9))),(.op (.bin 50 .lss (.t 48) (.t 49)))]⟩] [9,10,11,12,13,14,50]) (.cond (.t 50) .skip (.exit 0))) (.seq (.block 1 (.rgnF [9,10,11,12,13,14] [[53,54,55,56,57,58,59,13]] [⟨none,[(.op (.mv 53 (.t 13))),(.op (.mv 54 (.t 14))),(.op (.bin 55 .add (.t 54) (.k (I 1)))),(.op (.mv 56 (.t 9))),(.op (.bin 57 .rem (.t 55) (.t 56))),(.op (.bsl 58 1 1 [(I 0)] [(0,(.t 57))])),(.op (.app 59 1 8 (.t 53) (.t 58))),(.op (.mv 13 (.t 59)))]⟩] [9,10,11,12,13,14])) (.rgnF [9,10,11,12,13,14] [[51,52,14]] [⟨none,[(.op (.mv 51 (.t 14))),(.op (.bin 52 .add (.t 51) (.k (I 1)))),(.op (.mv 14 (.t 52)))]⟩] [9,10,11,12,13,14])))))) (.seq (.seq (.rgnF [9,10,11,12,13] [[15]] [⟨none,[(.op (.mv 15 (.k (I 0))))]⟩] [9,10,11,12,13,15]) (.block 2 (.loop (.seq (.seq (.rgnF [9,10,11,12,13,15] [[60,61,62]] [⟨none,[(.op (.mv 60 (.t 15))),(.op (.mv 61 (.t 10))),(.op (.bin 62 .lss (.t 60) (.t 61)))]⟩] [9,10,11,12,13,15,62]) (.cond (.t 62) .skip (.exit 2))) (.seq (.block 3 (.rgnF [9,10,11,12,13,15] [[65,66,67,68,69,70,71,72,73,13]] [⟨none,[(.op (.mv 65 (.t 13))),(.op (.mv 66 (.t 9))),(.op (.mv 67 (.t 15))),(.op (.bin 68 .add (.t 67) (.k (I 1)))),(.op (.mv 69 (.t 10))),(.op (.bin 70 .rem (.t 68) (.t 69))),(.op (.bin 71 .add (.t 66) (.t 70))),(.op (.bsl 72 1 1 [(I 0)] [(0,(.t 71))])),(.op (.app 73 1 8 (.t 65) (.t 72))),(.op (.mv 13 (.t 73)))]⟩] [9,10,11,12,13,15])) (.rgnF [9,10,11,12,13,15] [[63,64,15]] [⟨none,[(.op (.mv 63 (.t 15))),(.op (.bin 64 .add (.t 63) (.k (I 1)))),(.op (.mv 15 (.t 64)))]⟩] [9,10,11,12,13,15])))))) (.seq (.rgnF [9,10,11,12,13] [[74,75,76,77,78,79,16]] [⟨none,[(.op (.mv 74 (.t 9))),(.op (.mv 75 (.t 10))),(.op (.bin 76 .add (.t 74) (.t 75))),(.op (.mv 77 (.t 13))),(.op (.bsl 78 1 1 [(.sl true 0 [])] [(0,(.t 77))])),(.op (.bld 79 [(I 0),(.sl true 0 [])] [(0,1,(.t 76)),(1,1,(.t 78))])),(.op (.al 16 [(I 0),(.sl true 0 [])])),(.op (.st 2 (.t 16) (.t 79)))]⟩] [9,10,11,12,16]) (.seq (.rgnF [9,10,11,12,16] [[81,82,83,80,84,85,17,18]] [⟨none,[(.op (.ld 81 true 2 (.t 16))),(.op (.bsl 82 1 1 [(I 0)] [(0,(.k (I 0)))])),(.op (.call 83 6 [(.t 81),(.t 82)])),(.op (.mv 80 (.t 83))),(.op (.ext 84 (.t 80) 0)),(.op (.ext 85 (.t 80) 1)),(.op (.mv 17 (.t 84))),(.op (.mv 18 (.t 85)))]⟩] [9,10,11,12,16,17,18]) (.seq (.rgnF [9,10,11,12,16,17,18] [[87,88,89,86,90,91,92,19,20,21]] [⟨none,[(.op (.mv 87 (.t 9))),(.op (.mv 88 (.t 10))),(.op (.call 89 7 [(.t 87),(.t 88),(.k (I 0)),(.k (I 0))])),(.op (.mv 86 (.t 89))),(.op (.ext 90 (.t 86) 0)),(.op (.ext 91 (.t 86) 1)),(.op (.ext 92 (.t 86) 2)),(.op (.mv 19 (.t 90))),(.op (.mv 20 (.t 91))),(.op (.mv 21 (.t 92)))]⟩] [9,10,11,12,16,17,18,19,20,21]) (.seq (.rgnF [9,10,11,12,16,17,18,19,20,21] [[94,95,96,97,98,93,99,100,101,22,23,24]] [⟨none,[(.op (.mv 94 (.t 9))),(.op (.mv 95 (.t 10))),(.op (.mv 96 (.t 11))),(.op (.mv 97 (.t 12))),(.op (.call 98 7 [(.t 94),(.t 95),(.t 96),(.t 97)])),(.op (.mv 93 (.t 98))),(.op (.ext 99 (.t 93) 0)),(.op (.ext 100 (.t 93) 1)),(.op (.ext 101 (.t 93) 2)),(.op (.mv 22 (.t 99))),(.op (.mv 23 (.t 100))),(.op (.mv 24 (.t 101)))]⟩] [9,10,11,12,16,17,18,19,20,21,22,23,24]) (.seq (.seq (.rgnF [9,10,11,12,16,17,18,19,20,21,22,23,24] [[102,103,104],[105,106],[107,108],[109,110],[111,112],[113,114,115],[116,117],[118,119,120],[121,122],[123],[124,125],[126,127,128],[129,130,131],[132],[133,134],[135,136],[137,138],[139,140],[141]] [⟨none,[(.op (.mv 102 (.t 18))),(.op (.bin 103 .neq (.t 102) (.k (I 0)))),(.op (.mv 104 (.t 103)))]⟩,⟨(some (104,false)),[(.op (.mv 105 (.t 21))),(.op (.bin 106 .neq (.t 105) (.k (I 0))))]⟩,⟨none,[(.op (.pick 107 (.t 104) (.k (B true)) (.t 106))),(.op (.mv 108 (.t 107)))]⟩,⟨(some (108,false)),[(.op (.mv 109 (.t 19))),(.op (.bin 110 .neq (.t 109) (.k (I 0))))]⟩,⟨none,[(.op (.pick 111 (.t 108) (.k (B true)) (.t 110))),(.op (.mv 112 (.t 111)))]⟩,⟨(some (112,false)),[(.op (.mv 113 (.t 20))),(.op (.mv 114 (.t 17))),(.op (.bin 115 .neq (.t 113) (.t 114)))]⟩,⟨none,[(.op (.pick 116 (.t 112) (.k (B true)) (.t 115))),(.op (.mv 117 (.t 116)))]⟩,⟨(some (117,false)),[(.op (.mv 118 (.t 24))),(.op (.bin 119 .neq (.t 118) (.k (I 0)))),(.op (.mv 120 (.t 119)))]⟩,⟨(some (120,true)),[(.op (.mv 121 (.t 24))),(.op (.bin 122 .neq (.t 121) (.k (I 5))))]⟩,⟨(some (117,false)),[(.op (.pick 123 (.t 120) (.t 122) (.k (B false))))]⟩,⟨none,[(.op (.pick 124 (.t 117) (.k (B true)) (.t 123))),(.op (.mv 125 (.t 124)))]⟩,⟨(some (125,false)),[(.op (.mv 126 (.t 24))),(.op (.bin 127 .eql (.t 126) (.k (I 0)))),(.op (.mv 128 (.t 127)))]⟩,⟨(some (128,true)),[(.op (.mv 129 (.t 23))),(.op (.mv 130 (.t 20))),(.op (.bin 131 .neq (.t 129) (.t 130)))]⟩,⟨(some (125,false)),[(.op (.pick 132 (.t 128) (.t 131) (.k (B false))))]⟩,⟨none,[(.op (.pick 133 (.t 125) (.k (B true)) (.t 132))),(.op (.mv 134 (.t 133)))]⟩,⟨(some (134,false)),[(.op (.mv 135 (.t 17))),(.op (.bin 136 .lss (.t 135) (.k (I 1))))]⟩,⟨none,[(.op (.pick 137 (.t 134) (.k (B true)) (.t 136))),(.op (.mv 138 (.t 137)))]⟩,⟨(some (138,false)),[(.op (.mv 139 (.t 17))),(.op (.bin 140 .gtr (.t 139) (.k (I 6))))]⟩,⟨none,[(.op (.pick 141 (.t 138) (.k (B true)) (.t 140)))]⟩] [9,10,11,12,16,17,22,24,141]) (.cond (.t 141) (.seq (.rgnF [] [[8]] [⟨none,[(.op (.mv 8 (.k (B false))))]⟩] [8]) .ret) .skip)) (.seq (.rgnF [9,10,11,12,16,17,22,24] [[142,143,25]] [⟨none,[(.op (.ld 142 true 2 (.t 16))),(.op (.call 143 8 [(.t 142)])),(.op (.mv 25 (.t 143)))]⟩] [9,10,11,12,16,17,22,24,25]) (.seq (.seq (.rgnF [9,10,11,12,16,17,22,24,25] [[26]] [⟨none,[(.op (.mv 26 (.k (I 0))))]⟩] [9,10,11,12,16,17,22,24,25,26]) (.block 4 (.loop (.seq (.seq (.rgnF [9,10,11,12,16,17,22,24,25,26] [[144,145,146]] [⟨none,[(.op (.mv 144 (.t 26))),(.op (.mv 145 (.t 17))),(.op (.bin 146 .lss (.t 144) (.t 145)))]⟩] [9,10,11,12,16,17,22,24,25,26,146]) (.cond (.t 146) .skip (.exit 4))) (.seq (.block 5 (.seq (.rgnF [9,10,11,12,16,17,22,24,25,26] [[149,150,151,152,153,154],[155,156,157,158,159,160,161,162],[163,27]] [⟨none,[(.op (.mv 149 (.t 25))),(.op (.ia 150 1 (.t 149) (.k (I 0)))),(.op (.ld 151 false 1 (.t 150))),(.op (.mv 152 (.t 11))),(.op (.bin 153 .eql (.t 151) (.t 152))),(.op (.mv 154 (.t 153)))]⟩,⟨(some (154,true)),[(.op (.mv 155 (.t 25))),(.op (.mv 156 (.t 9))),(.op (.ia 157 1 (.t 155) (.t 156))),(.op (.ld 158 false 1 (.t 157))),(.op (.mv 159 (.t 9))),(.op (.mv 160 (.t 12))),(.op (.bin 161 .add (.t 159) (.t 160))),(.op (.bin 162 .eql (.t 158) (.t 161)))]⟩,⟨none,[(.op (.pick 163 (.t 154) (.t 162) (.k (B false)))),(.op (.mv 27 (.t 163)))]⟩] [9,10,11,12,16,17,22,24,25,26,27]) (.seq (.seq (.rgnF [9,10,11,12,16,17,22,24,25,26,27] [[164,165,166,167],[168,169,170],[171,172]] [⟨none,[(.op (.mv 164 (.t 27))),(.op (.mv 165 (.t 24))),(.op (.bin 166 .eql (.t 165) (.k (I 0)))),(.op (.mv 167 (.t 166)))]⟩,⟨(some (167,true)),[(.op (.mv 168 (.t 22))),(.op (.mv 169 (.t 26))),(.op (.bin 170 .eql (.t 168) (.t 169)))]⟩,⟨none,[(.op (.pick 171 (.t 167) (.t 170) (.k (B false)))),(.op (.eqk 172 true (false,[.bool]) (.t 164) (.t 171)))]⟩] [9,10,11,12,16,17,22,24,25,26,172]) (.cond (.t 172) (.seq (.rgnF [] [[8]] [⟨none,[(.op (.mv 8 (.k (B false))))]⟩] [8]) .ret) .skip)) (.seq (.frz 25 (.rgnF [9,10,11,12,16,17,22,24,25,26] [[174,175,176,177,173,178,179,28,29]] [⟨none,[(.op (.ld 174 true 2 (.t 16))),(.op (.mv 175 (.t 25))),(.op (.bsl 176 1 1 [(I 0)] [(0,(.k (I 0)))])),(.op (.call 177 9 [(.t 174),(.t 175),(.t 176)])),(.op (.mv 173 (.t 177))),(.op (.ext 178 (.t 173) 0)),(.op (.ext 179 (.t 173) 1)),(.op (.mv 28 (.t 178))),(.op (.mv 29 (.t 179)))]⟩] [9,10,11,12,16,17,22,24,26,28,29])) (.seq (.seq (.rgnF [9,10,11,12,16,17,22,24,26,28,29] [[180,181,182],[183,184,185,186,187,188],[189]] [⟨none,[(.op (.mv 180 (.t 29))),(.op (.bin 181 .neq (.t 180) (.k (I 0)))),(.op (.mv 182 (.t 181)))]⟩,⟨(some (182,false)),[(.op (.mv 183 (.t 28))),(.op (.len 184 (.t 183))),(.op (.mv 185 (.t 9))),(.op (.mv 186 (.t 10))),(.op (.bin 187 .add (.t 185) (.t 186))),(.op (.bin 188 .neq (.t 184) (.t 187)))]⟩,⟨none,[(.op (.pick 189 (.t 182) (.k (B true)) (.t 188)))]⟩] [9,10,11,12,16,17,22,24,26,28,189]) (.cond (.t 189) (.seq (.rgnF [] [[8]] [⟨none,[(.op (.mv 8 (.k (B false))))]⟩] [8]) .ret) .skip)) (.rgnF [9,10,11,12,16,17,22,24,26,28] [[190,25]] [⟨none,[(.op (.mv 190 (.t 28))),(.op (.mv 25 (.t 190)))]⟩] [9,10,11,12,16,17,22,24,25,26])))))) (.rgnF [9,10,11,12,16,17,22,24,25,26] [[147,148,26]] [⟨none,[(.op (.mv 147 (.t 26))),(.op (.bin 148 .add (.t 147) (.k (I 1)))),(.op (.mv 26 (.t 148)))]⟩] [9,10,11,12,16,17,22,24,25,26])))))) (.seq (.rgnF [16,25] [[191,192,193,194,195],[196],[197,8]] [⟨none,[(.op (.mv 191 (.t 25))),(.op (.ld 192 true 2 (.t 16))),(.op (.call 193 8 [(.t 192)])),(.op (.call 194 10 [(.t 191),(.t 193)])),(.op (.mv 195 (.t 194)))]⟩,⟨(some (195,true)),[(.op (.call 196 11 []))]⟩,⟨none,[(.op (.pick 197 (.t 195) (.t 196) (.k (B false)))),(.op (.mv 8 (.t 197)))]⟩] [8]) .ret)))))))))))
theorem qjw:qJ Tryz.prog Tryz.f3 [8]=some (.seq qCh (.seq qCi (.seq qCj (.seq qCk topZ.ac)))):=by kernel_rfl
theorem qol:Q7 Tryz.prog Tryz.f3.results.toList=some [(8,none)]:=by kernel_rfl
theorem qom:topZ.ok=true:=by kernel_rfl
def qEO {cv:CT} (n:NF (cCZ topZ) cv:=by exact nfC) (hc:cCZ topZ=cv:=by kernel_rfl):{c:CT // cCZ topZ=c}:=⟨cv,hc⟩
def qD4:{c:CT // cCZ topZ=c}:=qEO
end Go.AM

set_option maxRecDepth 100000
namespace Go.AM
open Go.RowKit Go.Proofs
def qEt:Kn := .law (qyt 8 [I 0])
theorem qm0:qdO Tryz.prog 655 (qyt 8 [I 0]):=qoz Tryz.func655 (by kernel_rfl) (by kernel_rfl) (by decide +kernel) rfl
def qEu:Kn := .law (qyu 8)
theorem qm1 : qdO Tryz.prog 656 (qyu 8) := qoA (z := [I 0]) (xf := 685) (rf := 686) Tryz.func656 (by kernel_rfl) (by kernel_rfl) (by decide +kernel) rfl (by decide +kernel)
 (fun g m ys hys h id' off' n' c' bs hb=>qms Tryz.func685 (by kernel_rfl) (by kernel_rfl) (by kernel_rfl) (tS:=22) (tR:=4) (by kernel_rfl) Tryz.underlying22 (agg:=false) (sz:=1) (by kernel_rfl) (by omega) hb (.inr ⟨_,rfl⟩))
end Go.AM

set_option maxRecDepth 100000
namespace Go.AM
open Go.RowKit Go.Shelf Go.Proofs
def tzL_ren:Go.Shelf.Ren:=⟨fun | 29=>272 | n=>n,fun | 22=>304 | 25=>90 | 54=>367 | n=>n,fun | 1=>1 | n=>n⟩
theorem tzL : Go.Proofs.Lays7.n29 Tryz.prog tzL_ren := {
 mixed:=by kernel_rfl,
 f29:=Tryz.func272.trans (congrArg some (by kernel_rfl)),
 t0:=Tryz.underlying0,
 a0:=Tryz.isAgg0,
 z0:=Tryz.sizeOf0,
 v0:=Tryz.zeroValue0,
 i0:=by kernel_rfl,
 t3:=Tryz.underlying3,
 a3:=Tryz.isAgg3,
 z3:=Tryz.sizeOf3,
 v3:=Tryz.zeroValue3,
 i3:=by kernel_rfl,
 t4:=Tryz.underlying4,
 a4:=Tryz.isAgg4,
 z4:=Tryz.sizeOf4,
 v4:=Tryz.zeroValue4,
 i4:=by kernel_rfl,
 t5:=Tryz.underlying5,
 a5:=Tryz.isAgg5,
 z5:=Tryz.sizeOf5,
 v5:=Tryz.zeroValue5,
 i5:=by kernel_rfl,
 t22:=Tryz.underlying304,
 a22:=Tryz.isAgg304,
 z22:=Tryz.sizeOf304,
 v22:=Tryz.zeroValue304,
 i22:=by kernel_rfl,
 t25:=Tryz.underlying90,
 a25:=Tryz.isAgg90,
 z25:=Tryz.sizeOf90,
 v25:=Tryz.zeroValue90,
 i25:=by kernel_rfl,
 t54:=Tryz.underlying367,
 a54:=Tryz.isAgg367,
 z54:=Tryz.sizeOf367,
 g1:=by kernel_rfl }
theorem qeg (x:Nat) (hx:x<2 ^ 60):z8 Tryz.prog 272 [.v (.int .u64 (x:Int))] (I ((Lib.ctz 64 x:Nat):Int)):=by
 intro ro n w g vs hok hvs hrep;have r0:=hrep 0 (by simp)
 have hv:vs=#[.int .u64 x]:=by
  have hs:vs.size=1:=hvs;apply Array.ext
  . simp [hs]
  intro i h1 h2;have:i=0:=by simp at h2;omega
  subst this;have:=zu r0;rw [Array.getD_eq_getD_getElem?,Array.getElem?_eq_getElem h1] at this;exact this
 subst hv;have hT:TabAt (tzL_ren.g 1) Lib.deBruijn64tab w:=fun j hj=>by obtain ⟨_,v,h1,h2⟩:=(hok.tab _ (List.mem_singleton.2 rfl)).2 j hj;have h2:v=Value.int IntKind.u8 ↑(Lib.deBruijn64tab.getD j 0):=h2;rw [<-h2];exact h1
 have main:=Any7.bits_TrailingZeros64 tzL x (by omega) w (fun _=>hT);have main2:CallsIn Fence.wide n Tryz.prog 272 #[.int .u64 x] w _:=callsIn_wide.2 main;refine CallsIn.mono (F:=W ro) main2 ?_;rintro e w' ⟨rfl,rfl⟩;exact ⟨_,g,rfl,.v _ _,hok,.refl _ _ _⟩
def gTz (ys:List AV):Option AV:=match ys with
 | [.v (.int .u64 (.ofNat n))]=>bif Nat.blt n (2 ^ 60) then some (I ((Lib.ctz 64 n:Nat):Int)) else none
 | _=>none
def kTz:Kn := .pure gTz
theorem qrA:∀ ys r,gTz ys=some r->z8 Tryz.prog 272 ys r:=fun ys r h=>by
 unfold gTz at h;split at h
 . rename_i n;cases e:Nat.blt n (2 ^ 60) with
   | false=>rw [e] at h;cases h
   | true=>rw [e] at h;cases h;exact qeg n (zd e)
 cases h
end Go.AM

set_option maxRecDepth 100000
namespace Go.AM
open Go.RowKit Go.Proofs
def qEr:Kn := .law (qyr 8)
theorem qmY:qdO Tryz.prog 90 (qyr 8):=qox Tryz.func90 (by kernel_rfl) (by kernel_rfl) (by decide +kernel)
end Go.AM

set_option maxRecDepth 100000
namespace Go.AM
open Go.RowKit Go.Proofs
abbrev W64 (n:Nat):AV := .v (.int .u64 (n:Int))
def qjW:AC:=(.seq (.rgn [⟨none,[(.mv 2 (.k (B false)))]⟩] [0]) (.seq (.rgn [⟨none,[(.mv 3 (.t 0)),(.mv 4 (.t 0)),(.bin 5 .neq (.t 3) (.t 4)),(.mv 2 (.t 5))]⟩] [2]) .ret))
theorem qfh:qJ Tryz.prog Tryz.f730 [2]=some qjW:=by kernel_rfl
theorem qjb:qN Tryz.f730.results.toList=some [2]:=by decide +kernel
def qjV:AC:=(.seq (.rgn [⟨none,[(.mv 4 (.k (B false)))]⟩] [0,1]) (.seq (.rgn [⟨none,[(.mv 5 (.t 0)),(.call 6 730 [(.t 5)]),(.mv 7 (.t 6))]⟩,⟨(some (7,true)),[(.mv 8 (.t 1)),(.call 9 730 [(.t 8)]),(.un 10 .not (.t 9))]⟩,⟨none,[(.pick 11 (.t 7) (.t 10) (.k (B false))),(.mv 12 (.t 11))]⟩,⟨(some (12,false)),[(.mv 13 (.t 0)),(.mv 14 (.t 1)),(.bin 15 .lss (.t 13) (.t 14))]⟩,⟨none,[(.pick 16 (.t 12) (.k (B true)) (.t 15)),(.mv 4 (.t 16))]⟩] [4]) .ret))
theorem qfg:qJ Tryz.prog Tryz.f724 [4]=some qjV:=by kernel_rfl
theorem qja:qN Tryz.f724.results.toList=some [4]:=by decide +kernel
def qjU:AC:=(.seq (.rgn [⟨none,[(.mv 8 (.t 1)),(.bin 9 .add (.t 8) (.k (I 1))),(.mv 6 (.t 9))]⟩] [0,1,2,6]) (.block 0 (.loop (.seq (.seq (.rgn [⟨none,[(.mv 10 (.t 6)),(.mv 11 (.t 2)),(.bin 12 .lss (.t 10) (.t 11))]⟩] [0,1,2,6,12]) (.cond (.t 12) .skip (.exit 0))) (.seq (.block 1 (.seq (.rgn [⟨none,[(.mv 15 (.t 6)),(.mv 7 (.t 15))]⟩] [0,1,2,6,7]) (.block 2 (.loop (.seq (.seq (.drw [⟨none,[(.mv 16 (.t 7)),(.mv 17 (.t 1)),(.bin 18 .gtr (.t 16) (.t 17)),(.mv 19 (.t 18))]⟩,⟨(some (19,true)),[(.mv 20 (.t 0)),(.mv 21 (.t 7)),(.ia 22 1 (.t 20) (.t 21)),(.ld 23 false 1 (.t 22)),(.mv 24 (.t 0)),(.mv 25 (.t 7)),(.bin 26 .sub (.t 25) (.k (I 1))),(.ia 27 1 (.t 24) (.t 26)),(.ld 28 false 1 (.t 27)),(.call 29 724 [(.t 23),(.t 28)])]⟩,⟨none,[(.pick 30 (.t 19) (.t 29) (.k (B false)))]⟩] [(7,12)] [0,1,2,6,7,30]) (.cond (.t 30) .skip (.exit 2))) (.seq (.block 3 (.drw [⟨none,[(.mv 33 (.t 0)),(.mv 34 (.t 7)),(.mv 35 (.t 0)),(.mv 36 (.t 7)),(.bin 37 .sub (.t 36) (.k (I 1))),(.mv 38 (.t 0)),(.mv 39 (.t 7)),(.bin 40 .sub (.t 39) (.k (I 1))),(.ia 41 1 (.t 38) (.t 40)),(.ld 42 false 1 (.t 41)),(.mv 43 (.t 0)),(.mv 44 (.t 7)),(.ia 45 1 (.t 43) (.t 44)),(.ld 46 false 1 (.t 45)),(.ia 47 1 (.t 33) (.t 34)),(.st 1 (.t 47) (.t 42)),(.ia 48 1 (.t 35) (.t 37)),(.st 1 (.t 48) (.t 46))]⟩] [(9,13)] [0,1,2,6,7])) (.rgn [⟨none,[(.mv 31 (.t 7)),(.bin 32 .sub (.t 31) (.k (I 1))),(.mv 7 (.t 32))]⟩] [0,1,2,6,7]))))))) (.rgn [⟨none,[(.mv 13 (.t 6)),(.bin 14 .add (.t 13) (.k (I 1))),(.mv 6 (.t 14))]⟩] [0,1,2,6]))))))
theorem qff:qJ Tryz.prog Tryz.f718 []=some qjU:=by kernel_rfl
theorem qi9:qN Tryz.f718.results.toList=some []:=by decide +kernel
def qjT:AC:=(.seq (.rgn [⟨none,[(.mv 8 (.k (B true)))]⟩] [0,1,2,3,8]) (.seq (.rgn [⟨none,[(.mv 9 (.k (B true)))]⟩] [0,1,2,3,8,9]) (.block 0 (.loop (.block 1 (.seq (.rgn [⟨none,[(.mv 19 (.t 2)),(.mv 20 (.t 1)),(.bin 21 .sub (.t 19) (.t 20)),(.mv 10 (.t 21))]⟩] [0,1,2,3,8,9,10]) (.seq (.seq (.rgn [⟨none,[(.mv 22 (.t 10)),(.bin 23 .leq (.t 22) (.k (I 12)))]⟩] [0,1,2,3,8,9,10,23]) (.cond (.t 23) (.seq (.rgn [⟨none,[(.mv 24 (.t 0)),(.mv 25 (.t 1)),(.mv 26 (.t 2)),(.call 27 718 [(.t 24),(.t 25),(.t 26)])]⟩] []) .ret) .skip)) (.seq (.seq (.rgn [⟨none,[(.mv 28 (.t 3)),(.bin 29 .eql (.t 28) (.k (I 0)))]⟩] [0,1,2,3,8,9,10,29]) (.cond (.t 29) (.seq (.rgn [⟨none,[(.mv 30 (.t 0)),(.mv 31 (.t 1)),(.mv 32 (.t 2)),(.call 33 719 [(.t 30),(.t 31),(.t 32)])]⟩] []) .ret) .skip)) (.seq (.seq (.rgn [⟨none,[(.mv 34 (.t 8)),(.un 35 .not (.t 34))]⟩] [0,1,2,3,8,9,10,35]) (.cond (.t 35) (.seq (.rgn [⟨none,[(.mv 36 (.t 0)),(.mv 37 (.t 1)),(.mv 38 (.t 2)),(.call 39 720 [(.t 36),(.t 37),(.t 38)])]⟩] [0,1,2,3,8,9,10]) (.rgn [⟨none,[(.mv 40 (.t 3)),(.bin 41 .sub (.t 40) (.k (I 1))),(.mv 3 (.t 41))]⟩] [0,1,2,3,8,9,10])) .skip)) (.seq (.rgn [⟨none,[(.mv 43 (.t 0)),(.mv 44 (.t 1)),(.mv 45 (.t 2)),(.call 46 721 [(.t 43),(.t 44),(.t 45)]),(.mv 42 (.t 46)),(.ext 47 (.t 42) 0),(.ext 48 (.t 42) 1),(.mv 11 (.t 47)),(.mv 12 (.t 48))]⟩] [0,1,2,3,8,9,10,11,12]) (.seq (.seq (.rgn [⟨none,[(.mv 49 (.t 12)),(.bin 50 .eql (.t 49) (.k (I 2)))]⟩] [0,1,2,3,8,9,10,11,12,50]) (.cond (.t 50) (.seq (.rgn [⟨none,[(.mv 51 (.t 0)),(.mv 52 (.t 1)),(.mv 53 (.t 2)),(.call 54 722 [(.t 51),(.t 52),(.t 53)])]⟩] [0,1,2,3,8,9,10,11]) (.seq (.rgn [⟨none,[(.mv 55 (.t 2)),(.bin 56 .sub (.t 55) (.k (I 1))),(.mv 57 (.t 11)),(.mv 58 (.t 1)),(.bin 59 .sub (.t 57) (.t 58)),(.bin 60 .sub (.t 56) (.t 59)),(.mv 11 (.t 60))]⟩] [0,1,2,3,8,9,10,11]) (.rgn [⟨none,[(.mv 12 (.k (I 1)))]⟩] [0,1,2,3,8,9,10,11,12]))) .skip)) (.seq (.seq (.rgn [⟨none,[(.mv 61 (.t 8)),(.mv 62 (.t 61))]⟩,⟨(some (62,true)),[(.mv 63 (.t 9))]⟩,⟨none,[(.pick 64 (.t 62) (.t 63) (.k (B false))),(.mv 65 (.t 64))]⟩,⟨(some (65,true)),[(.mv 66 (.t 12)),(.bin 67 .eql (.t 66) (.k (I 1)))]⟩,⟨none,[(.pick 68 (.t 65) (.t 67) (.k (B false)))]⟩] [0,1,2,3,8,9,10,11,68]) (.cond (.t 68) (.seq (.rgn [⟨none,[(.mv 69 (.t 0)),(.mv 70 (.t 1)),(.mv 71 (.t 2)),(.call 72 723 [(.t 69),(.t 70),(.t 71)])]⟩] [0,1,2,3,8,9,10,11,72]) (.cond (.t 72) .ret .skip)) .skip)) (.seq (.seq (.drw [⟨none,[(.mv 73 (.t 1)),(.bin 74 .gtr (.t 73) (.k (I 0))),(.mv 75 (.t 74))]⟩,⟨(some (75,true)),[(.mv 76 (.t 0)),(.mv 77 (.t 1)),(.bin 78 .sub (.t 77) (.k (I 1))),(.ia 79 1 (.t 76) (.t 78)),(.ld 80 false 1 (.t 79)),(.mv 81 (.t 0)),(.mv 82 (.t 11)),(.ia 83 1 (.t 81) (.t 82)),(.ld 84 false 1 (.t 83)),(.call 85 724 [(.t 80),(.t 84)]),(.un 86 .not (.t 85))]⟩,⟨none,[(.pick 87 (.t 75) (.t 86) (.k (B false)))]⟩] [(7,11)] [0,1,2,3,8,9,10,11,87]) (.cond (.t 87) (.seq (.rgn [⟨none,[(.mv 88 (.t 0)),(.mv 89 (.t 1)),(.mv 90 (.t 2)),(.mv 91 (.t 11)),(.call 92 725 [(.t 88),(.t 89),(.t 90),(.t 91)]),(.mv 13 (.t 92))]⟩] [0,2,3,8,9,13]) (.seq (.rgn [⟨none,[(.mv 93 (.t 13)),(.mv 1 (.t 93))]⟩] [0,1,2,3,8,9]) (.exit 1))) .skip)) (.seq (.rgn [⟨none,[(.mv 95 (.t 0)),(.mv 96 (.t 1)),(.mv 97 (.t 2)),(.mv 98 (.t 11)),(.call 99 726 [(.t 95),(.t 96),(.t 97),(.t 98)]),(.mv 94 (.t 99)),(.ext 100 (.t 94) 0),(.ext 101 (.t 94) 1),(.mv 14 (.t 100)),(.mv 15 (.t 101))]⟩] [0,1,2,3,10,14,15]) (.seq (.rgn [⟨none,[(.mv 102 (.t 15)),(.mv 9 (.t 102))]⟩] [0,1,2,3,9,10,14]) (.seq (.rgn [⟨none,[(.mv 103 (.t 14)),(.mv 104 (.t 1)),(.bin 105 .sub (.t 103) (.t 104)),(.mv 106 (.t 2)),(.mv 107 (.t 14)),(.bin 108 .sub (.t 106) (.t 107)),(.mv 16 (.t 105)),(.mv 17 (.t 108))]⟩] [0,1,2,3,9,10,14,16,17]) (.seq (.rgn [⟨none,[(.mv 109 (.t 10)),(.bin 110 .quo (.t 109) (.k (I 8))),(.mv 18 (.t 110))]⟩] [0,1,2,3,9,14,16,17,18]) (.seq (.rgn [⟨none,[(.mv 111 (.t 16)),(.mv 112 (.t 17)),(.bin 113 .lss (.t 111) (.t 112))]⟩] [0,1,2,3,9,14,16,17,18,113]) (.cond (.t 113) (.seq (.rgn [⟨none,[(.mv 114 (.t 16)),(.mv 115 (.t 18)),(.bin 116 .geq (.t 114) (.t 115)),(.mv 8 (.t 116))]⟩] [0,1,2,3,8,9,14]) (.seq (.rgn [⟨none,[(.mv 117 (.t 0)),(.mv 118 (.t 1)),(.mv 119 (.t 14)),(.mv 120 (.t 3)),(.call 121 716 [(.t 117),(.t 118),(.t 119),(.t 120)])]⟩] [0,2,3,8,9,14]) (.rgn [⟨none,[(.mv 122 (.t 14)),(.bin 123 .add (.t 122) (.k (I 1))),(.mv 1 (.t 123))]⟩] [0,1,2,3,8,9]))) (.seq (.rgn [⟨none,[(.mv 124 (.t 17)),(.mv 125 (.t 18)),(.bin 126 .geq (.t 124) (.t 125)),(.mv 8 (.t 126))]⟩] [0,1,2,3,8,9,14]) (.seq (.rgn [⟨none,[(.mv 127 (.t 0)),(.mv 128 (.t 14)),(.bin 129 .add (.t 128) (.k (I 1))),(.mv 130 (.t 2)),(.mv 131 (.t 3)),(.call 132 716 [(.t 127),(.t 129),(.t 130),(.t 131)])]⟩] [0,1,3,8,9,14]) (.rgn [⟨none,[(.mv 133 (.t 14)),(.mv 2 (.t 133))]⟩] [0,1,2,3,8,9]))))))))))))))))))))))
theorem qfe:qJ Tryz.prog Tryz.f716 []=some qjT:=by kernel_rfl
theorem qi8:qN Tryz.f716.results.toList=some []:=by decide +kernel
def cW (l:List Nat):List AV:=l.map fun n=>W64 n
def gN (l:List Nat) (i:Nat):Nat:=l.getD i 0
theorem qes {l}:(cW l).length=l.length:=by simp [cW]
theorem qp9 {l:List Nat} {i:Nat} (h:i<l.length):qfT (cW l) i=some (W64 (gN l i)):=by rw [Vn,gN,cW,List.getElem?_map,List.getElem?_eq_getElem h,List.getD_eq_getElem?_getD,List.getElem?_eq_getElem h];rfl
theorem qj4 {l:List Nat} {i v:Nat} (h:i<l.length):(cW l).take i++W64 v::(cW l).drop (i+1)=cW (l.set i v):=by
 have:(cW l).set i (W64 v)=cW (l.set i v):=by refine List.ext_getElem (by simp [cW]) fun k h1 h2=>?_;simp only [cW,List.getElem_set,List.getElem_map];split <;> rfl
 rw [<-this,List.set_eq_take_append_cons_drop,if_pos (by rw [qes];exact h)]
def swN (l:List Nat) (i j:Nat):List Nat:=(l.set i (gN l j)).set j (gN l i)
theorem qaw {l:List Nat} {i j:Nat} (hi:i<l.length) (hj:j<l.length):(swN l i j).Perm l:=by
 unfold swN gN;rw [List.perm_iff_count];intro x;have gi:l.getD i 0=l[i]:=by rw [List.getD_eq_getElem?_getD,List.getElem?_eq_getElem hi];rfl
 have gj:l.getD j 0=l[j]:=by rw [List.getD_eq_getElem?_getD,List.getElem?_eq_getElem hj];rfl
 rw [gi,gj];have mi:=List.count_pos_iff.2 (List.getElem_mem hi);have mj:=List.count_pos_iff.2 (List.getElem_mem hj);by_cases e:i=j
 . subst e;rw [List.set_set,List.set_getElem_self]
 rw [List.count_set (by simpa using hj),List.count_set hi,List.getElem_set_ne e];by_cases e1:l[i]=x <;> by_cases e2:l[j]=x
 . subst e1;simp only [e2,beq_self_eq_true,if_true];omega
 . subst e1;have:(l[j]==l[i])=false:=by rw [beq_eq_false_iff_ne];exact e2
   simp only [beq_self_eq_true,if_true,this,Bool.false_eq_true,if_false];omega
 . subst e2;have:(l[i]==l[j])=false:=by rw [beq_eq_false_iff_ne];exact e1
   simp only [beq_self_eq_true,if_true,this,Bool.false_eq_true,if_false];omega
 have h1:(l[i]==x)=false:=by rw [beq_eq_false_iff_ne];exact e1
 have h2:(l[j]==x)=false:=by rw [beq_eq_false_iff_ne];exact e2
 simp only [h1,h2,Bool.false_eq_true,if_false];omega
structure Sw (hp:List HObj) (id:Nat) (l:List Nat) (H:List HObj) (Q:List Nat):Prop where
 len:hp.length<=H.length
 oth:∀ j,j<hp.length->j≠id->qz H j=qz hp j
 at':qz H id=some (.cells (cW Q))
 perm:Q.Perm l
theorem Sw.refl {hp id l} (h:qz hp id=some (.cells (cW l))):Sw hp id l hp l:=⟨Nat.le_refl _,fun _ _ _=>rfl,h,.refl _⟩
theorem Sw.trans {hp id l H Q H' Q'} (h:Sw hp id l H Q) (h':Sw H id Q H' Q'):Sw hp id l H' Q' :=
 ⟨Nat.le_trans h.len h'.len,fun j hj hn=>by rw [h'.oth j (Nat.lt_of_lt_of_le hj h.len) hn,h.oth j hj hn],h'.at',h'.perm.trans h.perm⟩
theorem Sw.qlen {hp id l H Q} (h:Sw hp id l H Q):Q.length=l.length:=h.perm.length_eq
theorem qmb {l:List Nat} {i j:Nat} {v:Nat} (h:j<l.length):(cW (l.set i v)).take j++W64 (gN l i)::(cW (l.set i v)).drop (j+1)=cW ((l.set i v).set j (gN l i)):=qj4 (by simpa using h)
theorem Sw.swap {hp id l H Q} (h:Sw hp id l H Q) {i j:Nat} (hi:i<l.length) (hj:j<l.length):Sw hp id l (H.set id (.cells (cW ((Q.set i (gN Q j)).set j (gN Q i))))) (swN Q i j):=by have lt:=qL h.at';have hq:=h.qlen;exact ⟨by simp only [List.length_set];exact h.len,fun k hk hn=>by rw [qX (Ne.symm hn),h.oth k hk hn],qS lt,(qaw (by omega) (by omega)).trans h.perm⟩
theorem qre {l:List Nat} {i:Nat} (h:i<l.length):gN l i=l[i]:=by unfold gN;rw [List.getD_eq_getElem?_getD,List.getElem?_eq_getElem h];rfl
theorem qkb {l:List Nat} {i j:Nat} {v:Nat} (h:i<l.length):gN (l.set i v) j=if j=i then v else gN l j:=by
 unfold gN;rw [List.getD_eq_getElem?_getD,List.getElem?_set];by_cases e:i=j
 . subst e;rw [if_pos rfl,if_pos rfl,if_pos h];rfl
 rw [if_neg e,if_neg (fun h=>e h.symm),<-List.getD_eq_getElem?_getD]
theorem qdI {Q:List Nat} {k:Nat} (hk:k+1<Q.length):List.Perm ((Q.set (k+1) (gN Q k)).set k (gN Q (k+1))) Q:=qaw hk (by omega)
structure InsN (R Q:List Nat) (i k:Nat):Prop where
 perm:List.Perm Q R
 srt:∀ j m,j<m->m<=i->j≠k->m≠k->(gN Q j)<=(gN Q m)
 rest:∀ m,k<m->m<=i->(gN Q k)<=(gN Q m)
theorem InsN.swap {R Q:List Nat} {i k:Nat} (h:InsN R Q i (k+1)) (hk:k+1<=i) (hi:i<R.length) (hf:(gN Q (k+1))<(gN Q k)):InsN R ((Q.set (k+1) (gN Q k)).set k (gN Q (k+1))) i k:=by
 have hl:=h.perm.length_eq;have g:∀ j,gN ((Q.set (k+1) (gN Q k)).set k (gN Q (k+1))) j=if j=k then gN Q (k+1) else if j=k+1 then gN Q k else gN Q j:=fun j=>by rw [qkb (by simp;omega),qkb (by omega)]
 refine ⟨(qdI (by omega)).trans h.perm,fun j m a1 a2 a3 a4=>?_,fun m a1 a2=>?_⟩
 . rw [g, g, if_neg a3, if_neg a4];by_cases e1:j=k+1
   . rw [if_pos e1,if_neg (by omega)];exact h.srt k m (by omega) a2 (by omega) (by omega)
   rw [if_neg e1];by_cases e2:m=k+1
   . rw [if_pos e2];exact h.srt j k (by omega) (by omega) (by omega) (by omega)
   rw [if_neg e2];exact h.srt j m a1 a2 e1 e2
 rw [g,g,if_pos rfl,if_neg (by omega)];by_cases e2:m=k+1
 . rw [if_pos e2];omega
 rw [if_neg e2];exact h.rest m (by omega) a2
theorem InsN.stop {R Q:List Nat} {i k:Nat} (h:InsN R Q i k) (hk:k<=i) (hi:i<R.length) (hf:k=0\/¬ (gN Q k)<(gN Q (k - 1))):InsN R Q (i+1) (i+1):=by
 have below : ∀ j, j < k -> (gN Q j) <= (gN Q k) := fun j hj => by
  rcases hf with hf | hf
  . omega
  by_cases e:j=k - 1
  . rw [e];omega
  have:=h.srt j (k - 1) (by omega) (by omega) (by omega) (by omega);omega
 refine ⟨h.perm,fun j m a1 a2 a3 a4=>?_,fun m a1 a2=>by omega⟩;by_cases e1:j=k
 . rw [e1];exact h.rest m (by omega) (by omega)
 by_cases e2:m=k
 . rw [e2];exact below j (by omega)
 exact h.srt j m a1 (by omega) e1 e2
theorem InsN.one {R:List Nat}:InsN R R 1 1:=⟨List.Perm.refl _,fun j m a1 a2 a3 a4=>by omega,fun m a1 a2=>by omega⟩
def qpm (R Q:List Nat):Prop:=List.Perm Q R/\Q.Pairwise fun a b=>a<=b
theorem InsN.fin {R Q:List Nat} {i:Nat} (h:InsN R Q i i) (hi:R.length<=i):qpm R Q:=by refine ⟨h.perm,?_⟩;rw [List.pairwise_iff_getElem];intro j m hj hm hjm;have hl:=h.perm.length_eq;have:=h.srt j m hjm (by omega) (by omega) (by omega);rw [qre hj,qre hm] at this;exact this
theorem InsN.fin' {R Q:List Nat} {i:Nat} (h:InsN R Q i i) (hi:R.length<=i) (_:0<=i):qpm R Q:=h.fin hi
theorem qru (x:Nat):z8 Tryz.prog 730 [W64 x] (B false):=by refine J8 (qdL Tryz.func730 qfh qjb (by show 1<=_;decide) ?_);simp -implicitDefEqProofs (disch:=omega)[qjW,qb]
theorem qAs (x y:Nat):z8 Tryz.prog 724 [W64 x,W64 y] (B (decide (x<y))):=by refine J8 (qdL Tryz.func724 qfg qja (by show 2<=_;decide) ?_);simp -implicitDefEqProofs (disch:=omega)[qjV,qb];refine QU rfl (qru x) ?_;simp -implicitDefEqProofs (disch:=omega)[qb]
set_option maxHeartbeats 4000000 in
theorem qrt {hp : List HObj} {id a b n : Nat} {l : List Nat} {K : AV -> List HObj -> Prop} (hd : qz hp id = some (.cells (cW l))) (hn : n = l.length) (hl : l.length <= 5000) (ha : a = 0) (hb : b = n)
 (hK:∀ H Q,Sw hp id l H Q->qpm l Q->K (.tup []) H):qw Tryz.prog 718 [.ms id 0 n 1,I (a:Int),I (b:Int)] hp K:=by
 subst hn;refine qdL Tryz.func718 qff qi9 (by show 3<=_;decide) ?_;simp -implicitDefEqProofs (disch:=omega)[qjU,qb]
 refine ZI (fun q : Nat × List HObj × List Nat => ⟨[(0,.ms id 0 l.length 1),(1,I (a : Int)),(2,I (b : Int)),(6,I (q.1 : Int))],q.2.1⟩)
  (fun q=>a+1<=q.1/\q.1<=max (a+1) b/\Sw hp id l q.2.1 q.2.2/\InsN l q.2.2 q.1 q.1) (fun q=>max (a+1) b - q.1) (a+1,hp,l) ⟨Nat.le_refl _,by simp only;omega,.refl hd,by subst ha;exact .one⟩ (by simp) ?_
 rintro ⟨i,H1,Q1⟩ ⟨c0,c1,c2,c3⟩;simp only at c0 c1 c2 c3 ⊢;refine Jq fun K0 hK0=>?_;simp -implicitDefEqProofs (disch:=omega)[qb];refine Zk (fun hc=>?_) (fun hc=>?_)
 . have hi : i < b := by simpa using hc
   have ix:((i:Int)+1)=((i+1:Nat):Int):=by omega
   simp -implicitDefEqProofs (disch:=omega)[qb]
   refine ZI (fun q : Nat × List HObj × List Nat => ⟨[(0,.ms id 0 l.length 1),(1,I (a : Int)),(2,I (b : Int)),(6,I (i : Int)),(7,I (q.1 : Int))],q.2.1⟩)
    (fun q=>a<=q.1/\q.1<=i/\Sw hp id l q.2.1 q.2.2/\InsN l q.2.2 i q.1) (fun q=>q.1) (i,H1,Q1) ⟨by simp only;omega,Nat.le_refl _,c2,c3⟩ rfl ?_
   clear c2 c3;rintro ⟨k,H2,Q⟩ ⟨d0,d1,d2,d3⟩;simp only at d0 d1 d2 d3 ⊢;have lQ:=d2.qlen;refine Jq fun K1 hK1=>?_;by_cases hk:a<k
   . obtain ⟨k,rfl⟩ : ∃ k',k = k' + 1 := ⟨k - 1,by omega⟩;have kx:(((k+1:Nat):Int) - 1)=(k:Int):=by omega
     obtain ⟨m,hm⟩:∃ m:Int,((k+1:Nat):Int)=m:=⟨_,rfl⟩;rw [hm] at kx;have mn:m.toNat=k+1:=by omega
     have m0:((a:Int)<m)=True:=by simp only [eq_iff_iff,iff_true];omega
     have mr:m<l.length:=by omega
     have kr:k<l.length:=by omega
     have e1:=qp9 (l:=Q) (i:=k+1) (by omega);have e0:=qp9 (l:=Q) (i:=k) (by omega);have la:=qL d2.at';simp only [hm];simp -implicitDefEqProofs (disch:=omega)[qb,m0,d2.at',mn,kx,e1,e0,mr,kr,qes,lQ];have s3:∀ o,qz (H2.set id o) id=some o:=fun o=>qS la;have p1:=qj4 (l:=Q) (i:=k+1) (v:=gN Q k) (by omega);have p2:=qmb (l:=Q) (i:=k+1) (j:=k) (v:=gN Q k) (by omega);have sw:=d2.swap (i:=k+1) (j:=k) (by omega) (by omega);refine ⟨by omega,qiY rfl (qAs _ _) ?_⟩;cases hf:decide (gN Q (k+1)<gN Q k) with
     | true =>simp -implicitDefEqProofs (disch:=omega)[qb,qqk,qdV,d2.at',mn,kx,e1,e0,mr,kr,qes,lQ,la,s3,p1,p2];refine ⟨by omega,by omega,by omega,?_⟩;rw [hK1];exact J1 (k,_,_) ⟨by simp only;omega,by simp only;omega,sw,d3.swap (by omega) (by omega) (by simpa using hf)⟩ (by simp only;omega) (by simp only)
     | false =>subst hK1;simp -implicitDefEqProofs (disch:=omega)[qb,qqk,qdV];rw [hK0];refine J1 (i+1,H2,Q) ⟨by simp only;omega,by simp only;omega,d2,d3.stop (by omega) (by omega) (.inr (by simpa using hf))⟩ (by simp only;omega) (by simp only [ix])
   have m0:((a:Int)<(k:Int))=False:=by simp only [eq_iff_iff,iff_false];omega
   subst hK1;simp -implicitDefEqProofs (disch:=omega)[qb,m0,qqk,qdV];rw [hK0];refine J1 (i+1,H2,Q) ⟨by simp only;omega,by simp only;omega,d2,d3.stop (by omega) (by omega) (.inl (by omega))⟩ (by simp only;omega) (by simp only [ix])
 subst hK0;simp -implicitDefEqProofs (disch:=omega)[qb];have hi:l.length<=i:=by simp at hc;omega
 exact hK _ _ c2 (c3.fin' hi (by omega))
end Go.AM

set_option maxRecDepth 100000
namespace Go.AM
open Go.RowKit Go.Proofs
theorem qcK {P:Program} {F:Nat->AV} {hp:List HObj} {K:AV->List (Nat × HObj)->Prop} {d:Nat} {x i:Opd} {s:ByteArray} {k:IntKind} {j:Nat} {b:UInt8} (hx:evF F x = .v (.string s)) (hi:evF F i = .v (.int k (j:Int))) (hb:s[j]?=some b) (h:K (.v (.int .u8 b.toNat)) []):(AOp.ids d x i).wp P F hp K:=by refine ⟨_,[],?_,h⟩;simp only [AOp.sem,hx,hi];exact ⟨by omega,⟨b,by simpa using hb,rfl⟩,trivial⟩
def lenT:ByteArray:=⟨#[0,1,2,2,3,3,3,3,4,4,4,4,4,4,4,4,5,5,5,5,5,5,5,5,5,5,5,5,5,5,5,5,6,6,6,6,6,6,6,6,6,6,6,6,6,6,6,6,6,6,6,6,6,6,6,6,6,6,6,6,6,6,6,6,7,7,7,7,7,7,7,7,7,7,7,7,7,7,7,7,7,7,7,7,7,7,7,7,7,7,7,7,7,7,7,7,7,7,7,7,7,7,7,7,7,7,7,7,7,7,7,7,7,7,7,7,7,7,7,7,7,7,7,7,7,7,7,7,8,8,8,8,8,8,8,8,8,8,8,8,8,8,8,8,8,8,8,8,8,8,8,8,8,8,8,8,8,8,8,8,8,8,8,8,8,8,8,8,8,8,8,8,8,8,8,8,8,8,8,8,8,8,8,8,8,8,8,8,8,8,8,8,8,8,8,8,8,8,8,8,8,8,8,8,8,8,8,8,8,8,8,8,8,8,8,8,8,8,8,8,8,8,8,8,8,8,8,8,8,8,8,8,8,8,8,8,8,8,8,8,8,8,8,8,8,8,8,8,8,8,8,8,8,8,8,8]⟩
theorem X7:lenT.size=256:=by decide +kernel
theorem qeh (S:ByteArray) (n:Nat) (h:n<S.size):S.data[n]?.getD 0=S[n]:=by have h2:n<S.data.size:=h;rw [Array.getElem?_eq_getElem h2];rfl
def qdo (n:Nat):Nat:=(lenT.data[n]?.getD 0).toNat
theorem qiA:(List.range 256).all (fun n=>decide (qdo n<=8)&&(decide (n=0) || decide (2 ^ qdo n<=2*n))&&decide (n<2 ^ qdo n))=true:=by decide +kernel
theorem qfJ {n:Nat} (h:n<256):qdo n<=8/\(0<n->2 ^ qdo n<=2*n)/\n<2 ^ qdo n:=by have:=List.all_eq_true.1 qiA n (List.mem_range.2 h);simp only [Bool.and_eq_true,Bool.or_eq_true,decide_eq_true_eq] at this;exact ⟨this.1.1,fun h0=>by rcases this.1.2 with h | h <;> omega,this.2⟩
def qm6 (n:Nat):Nat:=if n<256 then qdo n else qdo (n / 256)+8
theorem qgW {n:Nat} (h:n<256):IntKind.u8.wrap (n:Int)=n:=by simp [IntKind.wrap,IntKind.bits,IntKind.signed];omega
theorem qcL {n:Nat} (h:n<1000000):IntKind.u64.wrap (n:Int)=n:=by simp [IntKind.wrap,IntKind.bits,IntKind.signed];omega
def qd0:AC:=(.seq (.rgn [⟨none,[(.mv 2 (.k (I 0)))]⟩] [0,2]) (.seq (.seq (.rgn [⟨none,[(.mv 3 (.t 0)),(.bin 4 .geq (.t 3) (.k (.v (.int .u64 4294967296))))]⟩] [0,2,4]) (.cond (.t 4) (.seq (.rgn [⟨none,[(.mv 5 (.t 0)),(.bin 6 .shr (.t 5) (.k (.v (.int .u64 32)))),(.mv 0 (.t 6))]⟩] [0]) (.rgn [⟨none,[(.mv 2 (.k (I 32)))]⟩] [0,2])) .skip)) (.seq (.seq (.rgn [⟨none,[(.mv 7 (.t 0)),(.bin 8 .geq (.t 7) (.k (.v (.int .u64 65536))))]⟩] [0,2,8]) (.cond (.t 8) (.seq (.rgn [⟨none,[(.mv 9 (.t 0)),(.bin 10 .shr (.t 9) (.k (.v (.int .u64 16)))),(.mv 0 (.t 10))]⟩] [0,2]) (.rgn [⟨none,[(.mv 11 (.t 2)),(.bin 12 .add (.t 11) (.k (I 16))),(.mv 2 (.t 12))]⟩] [0,2])) .skip)) (.seq (.seq (.rgn [⟨none,[(.mv 13 (.t 0)),(.bin 14 .geq (.t 13) (.k (.v (.int .u64 256))))]⟩] [0,2,14]) (.cond (.t 14) (.seq (.rgn [⟨none,[(.mv 15 (.t 0)),(.bin 16 .shr (.t 15) (.k (.v (.int .u64 8)))),(.mv 0 (.t 16))]⟩] [0,2]) (.rgn [⟨none,[(.mv 17 (.t 2)),(.bin 18 .add (.t 17) (.k (I 8))),(.mv 2 (.t 18))]⟩] [0,2])) .skip)) (.seq (.rgn [⟨none,[(.mv 19 (.t 2)),(.mv 20 (.t 0)),(.cnv 21 .u8 (.t 20)),(.ids 22 (.k (.v (.string lenT))) (.t 21)),(.cnv 23 .i64 (.t 22)),(.bin 24 .add (.t 19) (.t 23)),(.mv 2 (.t 24))]⟩] [2]) .ret)))))
theorem qe6:qJ Tryz.prog Tryz.f260 [2]=some qd0:=by kernel_rfl
theorem qi0:qN Tryz.f260.results.toList=some [2]:=by decide +kernel
def qjM:AC:=(.seq (.rgn [⟨none,[(.mv 2 (.k (I 0)))]⟩] [0]) (.seq (.cond (.k (B false)) (.seq (.rgn [⟨none,[(.mv 3 (.t 0)),(.cnv 4 .u32 (.t 3)),(.call 5 259 [(.t 4)]),(.mv 2 (.t 5))]⟩] [2]) .ret) .skip) (.seq (.rgn [⟨none,[(.mv 6 (.t 0)),(.call 7 260 [(.t 6)]),(.mv 2 (.t 7))]⟩] [2]) .ret)))
theorem qe5:qJ Tryz.prog Tryz.f194 [2]=some qjM:=by kernel_rfl
theorem qiZ:qN Tryz.f194.results.toList=some [2]:=by decide +kernel
def qjR:AC:=(.seq (.rgn [⟨none,[(.mv 3 (.t 0)),(.len 4 (.t 3)),(.mv 2 (.t 4))]⟩] [0,2]) (.rgn [⟨none,[(.mv 5 (.t 0)),(.mv 6 (.t 2)),(.mv 7 (.t 2)),(.cnv 8 .u64 (.t 7)),(.call 9 194 [(.t 8)]),(.call 10 716 [(.t 5),(.k (I 0)),(.t 6),(.t 9)])]⟩] []))
theorem qfb:qJ Tryz.prog Tryz.f710 []=some qjR:=by kernel_rfl
theorem qi5:qN Tryz.f710.results.toList=some []:=by decide +kernel
set_option maxRecDepth 100000 in
theorem qcW (n:Nat) (hn:n<65536):z8 Tryz.prog 260 [W64 n] (I (qm6 n:Nat)):=by
 have c1:((4294967296:Int)<=(n:Int))=False:=by simp only [eq_iff_iff,iff_false];omega
 have c2:((65536:Int)<=(n:Int))=False:=by simp only [eq_iff_iff,iff_false];omega
 refine J8 (qdL Tryz.func260 qe6 qi0 (by show 1<=_;decide) ?_);by_cases h256:n<256
 . have c3 : ((256 : Int) <= (n : Int)) = False := by simp only [eq_iff_iff,iff_false]; omega
   have c4:IntKind.u8.wrap (n:Int)=n:=qgW h256;have hs:n<lenT.size:=by rw [X7];exact h256
   have e1:lenT[n]=lenT.data[n]?.getD 0:=(qeh lenT n hs).symm;have eL:qm6 n=qdo n:=by unfold qm6;rw [if_pos h256]
   have l8:=(qfJ h256).1;rw [eL];generalize hr:((qdo n:Nat):Int)=r;have r8:0<=r/\r<=8:=by omega
   simp -implicitDefEqProofs (disch:=omega)[qd0,qb,c1,c2,c3,c4];refine qcK (s:=lenT) (j:=n) (b:=lenT[n]) (k := .u8) rfl rfl (getElem?_pos lenT n hs) ?_;have e2:((lenT[n]).toNat:Int)=r:=by rw [e1,<-hr];rfl
   rw [e2];simp -implicitDefEqProofs (disch:=omega)[qb]
 have c3:((256:Int)<=(n:Int))=True:=by simp only [eq_iff_iff,iff_true];omega
 have hq:n / 256<256:=by omega
 have c4:IntKind.u8.wrap ((n / 256:Nat):Int)=(n / 256:Nat):=qgW hq;have c5:IntKind.u64.wrap ((n / 256:Nat):Int)=(n / 256:Nat):=qcL (by omega);have hs:n / 256<lenT.size:=by rw [X7];exact hq
 have eL:qm6 n=qdo (n / 256)+8:=by unfold qm6;rw [if_neg h256]
 have l8:=(qfJ hq).1;have fd:((n:Int)).fdiv (2 ^ min 8 IntKind.u64.bits)=((n / 256:Nat):Int):=by rw [show (2:Int) ^ min 8 IntKind.u64.bits=256 from rfl,Int.fdiv_eq_ediv_of_nonneg _ (by omega)];rfl
 rw [eL];obtain ⟨r,hr⟩:∃ r:Int,((qdo (n / 256):Nat):Int)=r:=⟨_,rfl⟩;have r8:0<=r/\r<=8:=by omega
 have eR:((qdo (n / 256)+8:Nat):Int)=8+r:=by omega
 rw [eR];obtain ⟨x,hx⟩:∃ x,n / 256=x:=⟨_,rfl⟩;rw [hx] at hq c4 c5 hs fd hr;simp -implicitDefEqProofs (disch:=omega)[qd0,qb,c1,c2,c3,c4,c5,fd];refine qcK (s:=lenT) (j:=x) (b:=lenT[x]'hs) (k := .u8) rfl rfl (getElem?_pos lenT x hs) ?_;have e2:((lenT[x]'hs).toNat:Int)=r:=by have e1:=qeh lenT x hs;rw [<-hr,<-e1];rfl
 rw [e2];simp -implicitDefEqProofs (disch:=omega)[qb]
theorem qhs (n:Nat) (hn:n<65536):z8 Tryz.prog 194 [W64 n] (I (qm6 n:Nat)):=by refine J8 (qdL Tryz.func194 qe5 qiZ (by show 1<=_;decide) ?_);simp -implicitDefEqProofs (disch:=omega)[qjM,qb];refine QU rfl (qcW n hn) ?_;simp -implicitDefEqProofs (disch:=omega)[qb]
set_option maxHeartbeats 4000000 in
theorem qrT {hp : List HObj} {id n : Nat} {lim : Nat} {l : List Nat} {K : AV -> List HObj -> Prop} (hd : qz hp id = some (.cells (cW l))) (hn : n = l.length) (h12 : l.length <= 12)
 (hK:∀ H Q,Sw hp id l H Q->qpm l Q->K (.tup []) H):qw Tryz.prog 716 [.ms id 0 n 1,I 0,I (n:Int),I (lim:Int)] hp K:=by
 subst hn;refine qdL Tryz.func716 qfe qi8 (by show 4<=_;decide) ?_;simp -implicitDefEqProofs (disch:=omega)[qjT,qb];refine ZI (fun q:Unit=>⟨[(0,.ms id 0 l.length 1),(1,I 0),(2,I (l.length:Int)),(3,I (lim:Int)),(8,B true),(9,B true)],hp⟩) (fun q=>True) (fun q=>0) () trivial (by simp) ?_;rintro ⟨⟩ _;refine Jq fun K0 hK0=>?_;have hle:((l.length:Int)<=12)=True:=by simp only [eq_iff_iff,iff_true];omega
 simp -implicitDefEqProofs (disch:=omega)[qb,hle];refine qrt hd rfl (by omega) rfl rfl fun H' Q' s' t'=>?_;subst hK0;simp -implicitDefEqProofs (disch:=omega)[qb];exact hK _ _ s' t'
set_option maxHeartbeats 2000000 in
theorem qob {hp : List HObj} {id n : Nat} {l : List Nat} {K : AV -> List HObj -> Prop} (hd : qz hp id = some (.cells (cW l))) (hn : n = l.length) (h0 : 0 < n) (h12 : l.length <= 12)
 (hK:∀ H Q,Sw hp id l H Q->qpm l Q->K (.tup []) H):qw Tryz.prog 710 [.ms id 0 n 1] hp K:=by
 have c1:IntKind.u64.wrap (n:Int)=n:=qcL (by omega);refine qdL Tryz.func710 qfb qi5 (by show 1<=_;decide) ?_;simp -implicitDefEqProofs (disch:=omega)[qjR,qb,c1];refine QU rfl (qhs n (by omega)) ?_;simp -implicitDefEqProofs (disch:=omega)[qb];refine qrT (lim:=qm6 n) hd hn h12 fun H Q s t=>?_;simp -implicitDefEqProofs (disch:=omega)[qb];exact hK _ _ s t
end Go.AM

set_option maxRecDepth 100000
namespace Go.AM
open Go.RowKit Go.Proofs
def qd1:AC:=(.seq (.rgn [⟨none,[(.ld 4 false 1 (.t 1)),(.rng 5 (.t 4))]⟩] [0,5]) (.block 0 (.loop (.seq (.rgn [⟨none,[(.nxt 6 (.t 5)),(.ext 7 (.t 6) 0)]⟩] [0,5,7]) (.seq (.cond (.t 7) .skip (.exit 0)) (.block 1 (.seq (.rgn [⟨none,[(.ent 8 (.t 5)),(.ext 9 (.t 8) 0),(.mv 3 (.t 9))]⟩] [0,3,5]) (.seq (.rgn [⟨none,[(.mv 10 (.t 0)),(.mv 11 (.t 3)),(.callv 12 (.t 10) [(.t 11)]),(.un 13 .not (.t 12))]⟩] [0,5,13]) (.cond (.t 13) .ret .skip)))))))))
theorem qfc:qJ Tryz.prog Tryz.f711 []=some qd1:=by kernel_rfl
theorem qi6:qN Tryz.f711.results.toList=some []:=by decide +kernel
def qjS:AC:=(.seq (.rgn [⟨none,[(.box 2 1 (.t 0)),(.mv 4 (.k (.sl true 0 [])))]⟩] [1,2,4]) (.seq (.seq (.rgn [⟨none,[(.mv 6 (.t 1))]⟩] [2,4,6]) (.block 0 (.rf (.t 6) [7] (.rgn [⟨none,[(.mv 5 (.t 7))]⟩] [2,5]) (.block 1 (.rgn [⟨none,[(.ld 8 false 1 (.t 2)),(.mv 9 (.t 5)),(.bsl 10 1 1 [(.v (.int .u64 0))] [(0,(.t 9))]),(.app 11 1 8 (.t 8) (.t 10)),(.st 1 (.t 2) (.t 11))]⟩] [])) [2]))) (.seq (.rgn [⟨none,[(.ld 12 false 1 (.t 2)),(.mv 4 (.t 12))]⟩] [4]) .ret)))
theorem qfd:qJ Tryz.prog Tryz.f715 [4]=some qjS:=by kernel_rfl
theorem qi7:qN Tryz.f715.results.toList=some [4]:=by decide +kernel
def qjQ:AC:=(.seq (.rgn [⟨none,[(.mv 2 (.k (.sl true 0 [])))]⟩] [0]) (.seq (.rgn [⟨none,[(.mv 3 (.t 0)),(.call 4 715 [(.k (.sl true 0 [])),(.t 3)]),(.mv 2 (.t 4))]⟩] [2]) .ret))
theorem qfa:qJ Tryz.prog Tryz.f709 [2]=some qjQ:=by kernel_rfl
theorem qi4:qN Tryz.f709.results.toList=some [2]:=by decide +kernel
def qjP:AC:=(.seq (.rgn [⟨none,[(.mv 2 (.k (.sl true 0 [])))]⟩] [0]) (.seq (.rgn [⟨none,[(.mv 4 (.t 0)),(.call 5 709 [(.t 4)]),(.mv 3 (.t 5))]⟩] [3]) (.seq (.rgn [⟨none,[(.mv 6 (.t 3)),(.call 7 710 [(.t 6)])]⟩] [3]) (.seq (.rgn [⟨none,[(.mv 8 (.t 3)),(.mv 2 (.t 8))]⟩] [2]) .ret))))
theorem qe9:qJ Tryz.prog Tryz.f693 [2]=some qjP:=by kernel_rfl
theorem qi3:qN Tryz.f693.results.toList=some [2]:=by decide +kernel
def Agr (hp H:List HObj):Prop:=hp.length<=H.length/\∀ j,j<hp.length->qz H j=qz hp j
theorem Agr.refl (hp:List HObj):Agr hp hp:=⟨Nat.le_refl _,fun _ _=>rfl⟩
theorem Agr.app {hp H:List HObj} {o:HObj} (h:Agr hp H):Agr hp (H++[o]):=⟨by have:=h.1;simp;omega,fun j hj=>by have:=h.1;rw [qk,List.getElem?_append_left (by omega),<-qk];exact h.2 j hj⟩
theorem Agr.trans {hp H H':List HObj} (h:Agr hp H) (k:Agr H H'):Agr hp H':=⟨Nat.le_trans h.1 k.1,fun j hj=>(k.2 j (by have:=h.1;omega)).trans (h.2 j hj)⟩
theorem Agr.get {hp H:List HObj} {j:Nat} {o:HObj} (h:Agr hp H) (hj:qz hp j=some o):qz H j=some o:=(h.2 j (qL hj)).trans hj
theorem qrE {fr fr':List (Nat × AV)} {hp:List HObj} (h:∀ p∈fr',get fr p.1=p.2):St.le ⟨fr,hp⟩ ⟨fr',hp⟩:=by
 intro N a w g ⟨h1,h2,h3⟩;refine ⟨g,⟨h1,fun t=>?_,h3⟩,.refl _ _ _⟩
 have key:∀ (l:List (Nat × AV)),(∀ p∈l,get fr p.1=p.2)->get l t=get fr t\/get l t = .any:=by
  intro l
  induction l with
  | nil=>exact fun _ => .inr rfl
  | cons p l ih =>
    intro hl;simp only [get];by_cases e:p.1=t
    . rw [if_pos e];left;rw [<-e];exact (hl p (by simp)).symm
    rw [if_neg e];exact ih fun q hq=>hl q (by simp [hq])
 rcases key fr' h with e | e
 . show Rep w g false (get fr' t) _;rw [e];exact h2 t
 show Rep w g false (get fr' t) _;rw [e];exact .any _ _
theorem YM {α:Type} {I:α->St} {C:α->Prop} {μ:α->Nat} {a:α} {fr fr':List (Nat × AV)} {hp:List HObj} (a':α) (h:C a') (hm:μ a'<μ a) (hI:I a'=⟨fr',hp⟩) (hs:∀ p∈fr',get fr p.1=p.2):Next I C μ a ⟨fr,hp⟩ :=
 ⟨a',h,hm,by rw [hI];exact qrE hs⟩
theorem Vo {hp l:List HObj} {i:Nat}:qz (hp++l) (hp.length+i)=qz l i:=by rw [qk,List.getElem?_append_right (by omega),qk];congr 1;omega
theorem qbv {α : Type} : ∀ {l l' : List α}, l.Nodup -> l'.Nodup -> (∀ a, a ∈ l ↔ a ∈ l') -> l.Perm l'
 | [],l',_,_,h=>by
   have:l'=[]:=List.eq_nil_iff_forall_not_mem.2 fun a ha=>by have:=(h a).2 ha;cases this
   rw [this]
 | x::l, l', h1, h2, h=>by
   obtain ⟨A,B,rfl⟩:=List.append_of_mem ((h x).1 (by simp));rw [List.nodup_cons] at h1;have h2':(x::(A++B)).Nodup:=(List.perm_middle).nodup_iff.1 h2;rw [List.nodup_cons] at h2'
   have : l.Perm (A ++ B) := qbv h1.2 h2'.2 fun a => by
    have:=h a;simp only [List.mem_cons,List.mem_append] at this ⊢;constructor
    . intro ha;rcases this.1 (.inr ha) with h3 | h3 | h3
      . exact .inl h3
      . subst h3;exact absurd ha h1.1
      exact .inr h3
    intro ha;rcases this.2 (by rcases ha with h3 | h3 <;> simp [h3]) with h3 | h3
    . subst h3;exact absurd (by rcases ha with h3 | h3 <;> simp [h3]) h2'.1
    exact h3
   exact (this.cons x).trans List.perm_middle.symm
structure GE where
 key:Nat
 born:Nat
 v:AV
def qkh (k:Nat):Value := .int .u64 (k:Int)
def qdf (e:GE):Value × Nat × AV:=(qkh e.key,e.born,e.v)
def mpG (E:List GE) (clk:Nat):HObj := .mp (E.map qdf) clk
structure GrH (hp:List HObj) (m:Nat) (E:List GE) (clk:Nat):Prop where
 mp:qz hp m=some (mpG E clk)
 brs:E.Pairwise fun a b=>a.born≠b.born
 brn:∀ e∈E,e.born<clk
theorem GrH.mono {G G':List HObj} {m:Nat} {E:List GE} {clk:Nat} (h:GrH G m E clk) (h1:qz G' m=qz G m):GrH G' m E clk:=⟨h1.trans h.mp,h.brs,h.brn⟩
section
variable {P:Program} {F:Nat->AV} {hp:List HObj} {K:AV->List (Nat × HObj)->Prop}
theorem qDT {x clk:Nat} {E:List GE} (ho:qz hp x=some (mpG E clk)) (k:K (.ref hp.length 0) [(hp.length,.it x clk [] clk)]):qxy hp (.mp x) K:=by simp only [qxy,ho,mpG];exact k
theorem qDO {it x clk : Nat} {E : List GE} {S : List Nat} (hi : qz hp it = some (.it x clk S clk)) (hL : GrH hp x E clk)
 (k0:(∀ q∈E,q.born∈S)->K (.tup [B false]) [])
 (k1:∀ q∈E,q.born∉S->K (.tup [B true,W64 q.key,q.v]) [(it,.it x clk (S++[q.born]) clk)]):qyG hp (.ref it 0) K:=by
 have ho:=hL.mp;simp only [qyG,AOp.many,evF,W6 hi,W6 ho,mpG];refine ⟨?_,fun h=>k0 fun q hq=>?_,fun e he hs=>?_⟩
 . match E,hL with
   | [],_=>simp
   | q::E,hL =>have:=hL.brn q (by simp);have:decide (clk<=(qdf q).2.1)=false:=decide_eq_false (by show ¬ clk<=q.born;omega);simp only [List.map_cons,List.all_cons,this,Bool.false_and,Bool.not_false,Bool.or_true]
 . refine Classical.byContradiction fun hn => ?_;have hm : qdf q ∈ (E.map qdf).filter fun e => !S.contains e.2.1 && decide (e.2.1 < clk) := by rw [List.mem_filter];refine ⟨List.mem_map_of_mem hq,?_⟩;have:=hL.brn q hq;simp [qdf,hn,this]
   rw [List.isEmpty_iff] at h;rw [h] at hm;cases hm
 obtain ⟨q,hq,rfl⟩:=List.mem_map.1 he;exact k1 q hq (by simpa [qdf] using hs)
theorem qj8 {q : GE} : ∀ {E : List GE},q ∈ E -> (E.Pairwise fun q r => q.born ≠ r.born) -> (E.map qdf).find? (fun e => e.2.1 == q.born) = some (qdf q)
 | [],h,_=>by cases h
 | r::E, h, hp=>by
   rw [List.pairwise_cons] at hp;rw [List.map_cons,List.find?_cons];rcases List.mem_cons.1 h with rfl | h
   . simp [qdf]
   have:=hp.1 q h;have:((qdf r).2.1==q.born)=false:=by simp only [qdf,beq_eq_false_iff_ne,ne_eq];exact this
   rw [this];exact qj8 h hp.2
theorem qeT {it x clk : Nat} {E : List GE} {S : List Nat} {q : GE} (hi : qz hp it = some (.it x clk (S ++ [q.born]) clk)) (hL : GrH hp x E clk) (hq : q ∈ E)
 (k:K (.tup [W64 q.key,q.v]) []):qyz hp (.ref it 0) K:=by
 have ho:=hL.mp;simp only [qyz,AOp.many,evF,W6 hi,W6 ho,mpG];refine ⟨trivial,q.born,qdf q,by simp,qj8 hq hL.brs,?_⟩;exact k
end
def muE (E:List GE) (S:List Nat):Nat:=(E.filter fun e => !S.contains e.born).length
theorem qkp {E:List GE} {S:List Nat} {q:GE} (hq:q∈E) (hs:q.born∉S):muE E (S++[q.born])<muE E S:=by
 unfold muE
 have hle : ∀ (l : List GE),(l.filter fun e => !(S ++ [q.born]).contains e.born).length <= (l.filter fun e => !S.contains e.born).length := fun l => by
  induction l with
  | nil=>simp
  | cons a l ih =>simp only [List.filter_cons,List.contains_append];cases h1:S.contains a.born <;> cases h2:[q.born].contains a.born <;> simp only [Bool.or_true,Bool.or_false,Bool.not_true,Bool.not_false,Bool.false_eq_true,if_true,if_false,Bool.true_or,Bool.false_or,List.length_cons] at ih ⊢ <;> simp only [List.contains_append] at ih <;> omega
 induction E with
 | nil=>cases hq
 | cons a E ih =>
   rcases List.mem_cons.1 hq with rfl | hq
   . have h1 : S.contains q.born = false := by simpa using hs
     have h2:(S++[q.born]).contains q.born=true:=by simp
     simp only [List.filter_cons,h1,h2,Bool.not_true,Bool.not_false,Bool.false_eq_true,if_true,if_false,List.length_cons];have:=hle E;omega
   have i1:=ih hq;simp only [List.filter_cons,List.contains_append] at i1 ⊢;cases h1:S.contains a.born <;> cases h2:[q.born].contains a.born <;> simp only [Bool.or_true,Bool.or_false,Bool.not_true,Bool.not_false,Bool.false_eq_true,if_true,if_false,Bool.true_or,Bool.false_or,List.length_cons] at i1 ⊢ <;> omega
theorem WB {e q : GE} : ∀ {l : List GE},(l.Pairwise fun a b => a.born ≠ b.born) -> e ∈ l -> q ∈ l -> e.born = q.born -> e = q
 | [],_,h,_,_=>by cases h
 | x::l, hp, h1, h2, he=>by
   rw [List.pairwise_cons] at hp;rcases List.mem_cons.1 h1 with e1 | h3
   . rcases List.mem_cons.1 h2 with e2 | h4
     . rw [e1,e2]
     rw [e1] at he;exact absurd he (hp.1 q h4)
   rcases List.mem_cons.1 h2 with e2 | h4
   . rw [e2] at he;exact absurd he.symm (hp.1 e h3)
   exact WB hp.2 h3 h4 he
abbrev qix (c:Nat):AV := .fn (.func 711) [] [.ref c 0]
set_option maxHeartbeats 4000000 in
theorem qiC {hp0 hp : List HObj} {c m clk : Nat} {E : List GE} {H : List AV -> List HObj -> (AV -> List HObj -> Prop) -> Prop} {J : List Nat -> List HObj -> Prop}
 (hc:qz hp0 c=some (.cells [.mp m])) (hg:GrH hp0 m E clk) (hA:∀ L G,J L G->Agr hp0 G) (h0:J [] (hp++[.lp .ready (hp.length+1),.gone]))
 (hN:∀ o,J [] (hp++[.lp .ready (hp.length+1),.gone]++[o])) (hS:∀ L G o,J L G->J L (G.set (hp.length+2) o))
 (hH:∀ L (q:GE) G o,q∈E->L.length<=E.length->J L G->qz G (hp.length+2)=some o->H [W64 q.key] G fun rr G'=>rr=B true/\J (L++[q.key]) G'/\qz G' (hp.length+2)=some o) :
 (E1 Tryz.prog).R (qix c) hp H (fun G=>∃ L:List GE,L.Perm E/\J (L.map (·.key)) G):=by
 have grA:∀ {L G},J L G->GrH G m E clk:=fun {L G} h=>by have ha:=hA _ _ h;exact hg.mono (ha.2 _ (qL hg.mp))
 have c0:qz (hp++[.lp .ready (hp.length+1),.gone]) c=some (.cells [.mp m]):=(hA _ _ h0).get hc;have it0:∀ o,qz (hp++[HObj.lp LpSt.ready (hp.length+1),HObj.gone]++[o]) (hp.length+2)=some o:=fun o=>by rw [List.append_assoc];exact Vo (i:=2)
 have hl0:(hp++[HObj.lp LpSt.ready (hp.length+1),HObj.gone]).length=hp.length+2:=by simp
 have gr0:=grA h0;refine ⟨711,[.ref c 0],_,qd1,[],_,rfl,by kernel_rfl,Tryz.func711,qfc,JB qi6,by show 2<=_;decide,?_⟩;generalize hG0:hp++[HObj.lp LpSt.ready (hp.length+1),HObj.gone]=G0 at *;simp -implicitDefEqProofs (disch:=omega)[qd1,qb,c0,QQ,qlt];refine qDT gr0.mp ?_;simp -implicitDefEqProofs (disch:=omega)[qb];refine ZI (fun q:List GE × List HObj=>⟨[(0,.yl hp.length),(5,.ref (hp.length+2) 0)],q.2⟩) (fun q=>(∀ e∈q.1,e∈E)/\q.1.Nodup/\J (q.1.map (·.key)) q.2/\qz q.2 (hp.length+2)=some (.it m clk (q.1.map (·.born)) clk)) (fun q=>muE E (q.1.map (·.born))) ([],G0++[.it m clk [] clk]) ⟨fun e h=>(by cases h),.nil,hN _,it0 _⟩ (by simp [hl0]) ?_;rintro ⟨L,G⟩ ⟨d1,d2,d3,d4⟩;simp only at d1 d2 d3 d4 ⊢;have lI:=qL d4;refine Jq fun K0 hK0=>?_;simp -implicitDefEqProofs (disch:=omega)[qb,qls];refine qDO d4 (grA d3) (fun h=>?_) (fun q hq hS0=>?_)
 . subst hK0;have hperm:L.Perm E:=qbv d2 (hg.brs.imp fun h e=>h (by rw [e])) fun a=>⟨d1 a,fun ha=>by have:=h a ha;rw [List.mem_map] at this;obtain ⟨x,hx,e⟩:=this;rw [<-WB hg.brs (d1 x hx) ha e];exact hx⟩;simp -implicitDefEqProofs (disch:=omega)[qb];exact ⟨[],trivial,L,hperm,d3⟩
 have nl:q∉L:=fun h=>hS0 (List.mem_map.2 ⟨q,h,rfl⟩);have mu:=qkp hq hS0;have d3':=hS _ _ (.it m clk (L.map (·.born)++[q.born]) clk) d3;have d4':qz (G.set (hp.length+2) (.it m clk (L.map (·.born)++[q.born]) clk)) (hp.length+2)=some (.it m clk (L.map (·.born)++[q.born]) clk):=qS lI;simp -implicitDefEqProofs (disch:=omega)[qb,lI,qlr];generalize G.set (hp.length+2) (HObj.it m clk (L.map (fun x=>x.born)++[q.born]) clk)=G1 at d3' d4' ⊢;refine qeT d4' (grA d3') hq ?_;simp -implicitDefEqProofs (disch:=omega)[qb];refine ⟨_,⟨rfl,hH _ q G1 _ hq (by rw [List.length_map];exact d2.length_le_of_subset d1) d3' d4'⟩,?_⟩;rintro r G' ⟨rfl,hg1,hg2⟩;simp -implicitDefEqProofs (disch:=omega)[qb];rw [hK0];refine YM (L++[q],G') ⟨fun e he=>?_,?_,?_,?_⟩ ?_ rfl (by simp)
 . rcases List.mem_append.1 he with h | h
   . exact d1 e h
   rw [List.mem_singleton.1 h];exact hq
 . rw [List.nodup_append];refine ⟨d2,by simp,fun a ha b hb e=>?_⟩;rw [List.mem_singleton] at hb;exact nl (by rw [<-hb,<-e];exact ha)
 . simp only [List.map_append,List.map_cons,List.map_nil];exact hg1
 . simp only [List.map_append,List.map_cons,List.map_nil];exact hg2
 simp only [List.map_append,List.map_cons,List.map_nil];exact mu
structure KyJ (hp:List HObj) (lp:HObj) (L:List Nat) (x:AV) (G:List HObj):Prop where
 len:hp.length+3<=G.length
 ag:∀ j,j<hp.length->qz G j=qz hp j
 cell:qz G hp.length=some (.cells [x])
 lpa:qz G (hp.length+1)=some lp
 acc:AccG G x 1 L.length (cW L)
 rd:∀ i,rid x=some i->hp.length+4<=i
set_option maxHeartbeats 4000000 in
theorem VP {hp : List HObj} {c m clk : Nat} {E : List GE} {K : AV -> List HObj -> Prop} (hc : qz hp c = some (.cells [.mp m])) (hg : GrH hp m E clk) (hE : E.length <= 4900)
 (hK:∀ G x (L:List GE),L.Perm E->Agr hp G->AccG G x 1 L.length (cW (L.map (·.key)))->(∀ i,rid x=some i->hp.length<=i)->K x G):qw Tryz.prog 715 [.sl true 0 [],qix c] hp K:=by
 refine qdL Tryz.func715 qfd qi7 (by show 2<=_;decide) ?_;simp -implicitDefEqProofs (disch:=omega)[qjS,qb];have hl:(hp++[HObj.cells [AV.sl true 0 []]]).length=hp.length+1:=by simp
 have init:∀ t,KyJ hp (.lp .ready (hp.length+1+1)) [] (.sl true 0 []) (hp++[HObj.cells [AV.sl true 0 []]]++[.lp .ready (hp.length+1+1),.gone]++t):=fun t=>by rw [List.append_assoc,List.append_assoc];exact ⟨by simp,fun j hj=>J3 hj,Vo (i:=0),Vo (i:=1),.inl ⟨rfl,rfl,rfl⟩,by simp [rid]⟩
 generalize hp++[HObj.cells [AV.sl true 0 []]]=HB at hl init ⊢
 refine qBT (K0 := fun G => ∃ L : List GE,L.Perm E /\ ∃ x,KyJ hp (.lp .ready (hp.length + 1 + 1)) (L.map (·.key)) x G)
  (qiC (hp0:=hp) (c:=c) (m:=m) (clk:=clk) (E:=E) (J:=fun L G=>∃ x,KyJ hp (.lp .ready (hp.length+1+1)) L x G) hc hg (fun L G ⟨x,h⟩=>⟨by have:=h.len;omega,h.ag⟩) ?_ ?_ ?_ ?_) ?_
 . rw [hl];have:=init [];rw [List.append_nil] at this;exact ⟨_,this⟩
 . intro o;rw [hl];exact ⟨_,init [o]⟩
 . rintro L G o ⟨x,h⟩;rw [hl];have ne:∀ i,i≠hp.length+1+2->qz (G.set (hp.length+1+2) o) i=qz G i:=fun i hi=>qX (Ne.symm hi);exact ⟨x,by rw [List.length_set];exact h.len,fun j hj=>by rw [ne j (by omega)];exact h.ag j hj,by rw [ne _ (by omega)];exact h.cell,by rw [ne _ (by omega)];exact h.lpa,h.acc.mono fun i hi=>ne i (by have:=h.rd i hi;omega),h.rd⟩
 . rintro L q G o hq hL ⟨x,h⟩ ho;rw [hl] at ho ⊢;have lo:=qL ho;have lq:hp.length+1<G.length:=by omega
   refine ⟨by rw [Qd];exact h.lpa,rfl,?_⟩;have ne:∀ i,i≠hp.length+1->qz (G.set (hp.length+1) (.lp .busy (hp.length+1+1))) i=qz G i:=fun i hi=>qX (Ne.symm hi);have l1:(G.set (hp.length+1) (.lp .busy (hp.length+1+1))).length=G.length:=by simp
   have h2:KyJ hp (.lp .busy (hp.length+1+1)) L x (G.set (hp.length+1) (.lp .busy (hp.length+1+1))):=⟨by rw [l1];exact h.len,fun j hj=>by rw [ne j (by omega)];exact h.ag j hj,by rw [ne _ (by omega)];exact h.cell,qS lq,h.acc.mono fun i hi=>ne i (by have:=h.rd i hi;omega),h.rd⟩;have ho2:qz (G.set (hp.length+1) (.lp .busy (hp.length+1+1))) (hp.length+1+2)=some o:=by rw [ne _ (by omega)];exact ho
   simp -implicitDefEqProofs (disch:=omega)[qb,putPs,Qd,h.lpa,lq];generalize G.set (hp.length+1) (HObj.lp LpSt.busy (hp.length+1+1))=G1 at h2 ho2 l1 ⊢;have c8:=h2.cell;simp -implicitDefEqProofs (disch:=omega)[qb,c8,QQ];refine qj2 (ys:=[W64 q.key]) rfl rfl ?_;simp -implicitDefEqProofs (disch:=omega)[qb,zE];refine qhl (ys:=[W64 q.key]) h2.acc (by omega) (by omega) rfl rfl fun ws w1 w2 w3=>?_;rw [qgY];have l8:=qL c8;have rne:∀ i,i<hp.length+4->rid x≠some i:=fun i hi e=>by have:=h2.rd i e;omega
   have d8:qz (qc G1 ws) hp.length=some (.cells [x]):=(w1 _ l8 (rne _ (by omega))).trans c8;have dl:qz (qc G1 ws) (hp.length+1)=some (.lp .busy (hp.length+1+1)):=(w1 _ (by omega) (rne _ (by omega))).trans h2.lpa;have dI:qz (qc G1 ws) (hp.length+1+2)=some o:=(w1 _ (by omega) (rne _ (by omega))).trans ho2;have dA:∀ j,j<hp.length->qz (qc G1 ws) j=qz hp j:=fun j hj=>(w1 _ (by omega) (rne _ (by omega))).trans (h2.ag j hj);generalize qc G1 ws=G2 at d8 dl dI dA w2 w3 ⊢;have ld8:=qL d8;have ldl:=qL dl;simp -implicitDefEqProofs (disch:=omega)[qb,d8,ld8,XB];have ne2:∀ i,i≠hp.length->qz (G2.set hp.length (.cells [AV.ms G1.length 0 (L.length+1) 1])) i=qz G2 i:=fun i hi=>qX (Ne.symm hi);have ll:(G2.set hp.length (.cells [AV.ms G1.length 0 (L.length+1) 1])).length=G2.length:=by simp
   have s8:qz (G2.set hp.length (.cells [AV.ms G1.length 0 (L.length+1) 1])) hp.length=some (.cells [AV.ms G1.length 0 (L.length+1) 1]):=qS ld8;generalize G2.set hp.length (.cells [AV.ms G1.length 0 (L.length+1) 1])=G3 at ne2 ll s8 ⊢;have eW:cW L++[W64 q.key]=cW (L++[q.key]):=by simp [cW]
   have eN:(L++[q.key]).length=L.length+1:=by simp
   refine ⟨by rw [Qd,ne2 _ (by omega)];exact dl,rfl,⟨.ms G1.length 0 (L.length+1) 1,?_⟩,?_⟩
   . simp only [qn,ll,ldl,if_true];have ne3:∀ i,i≠hp.length+1->qz (G3.set (hp.length+1) (.lp .ready (hp.length+1+1))) i=qz G3 i:=fun i hi=>qX (Ne.symm hi);refine ⟨by rw [List.length_set];omega,fun j hj=>by rw [ne3 j (by omega),ne2 j (by omega)];exact dA j hj,by rw [ne3 _ (by omega)];exact s8,qS (by omega),?_,fun i hi=>?_⟩
     . rw [eN,<-eW];exact w3.mono fun i hi=>by simp only [rid,Option.some.injEq] at hi;rw [ne3 i (by omega),ne2 i (by omega)]
     simp only [rid,Option.some.injEq] at hi;omega
   simp only [qn,ll,ldl,if_true];rw [qX (by omega),ne2 _ (by omega)];exact dI
 rintro G ⟨L,hL,x,h⟩;rw [hl];refine qbz h.lpa ?_;have ne:∀ i,i≠hp.length+1->qz (G.set (hp.length+1) .gone) i=qz G i:=fun i hi=>qX (Ne.symm hi);have c8:qz (G.set (hp.length+1) .gone) hp.length=some (.cells [x]):=by rw [ne _ (by omega)];exact h.cell
 have ac:AccG (G.set (hp.length+1) .gone) x 1 (L.map (·.key)).length (cW (L.map (·.key))):=h.acc.mono fun i hi=>ne i (by have:=h.rd i hi;omega);have ag:Agr hp (G.set (hp.length+1) .gone):=⟨by rw [List.length_set];have:=h.len;omega,fun j hj=>by rw [ne j (by omega)];exact h.ag j hj⟩;generalize G.set (hp.length+1) HObj.gone=G1 at c8 ac ag ⊢;simp -implicitDefEqProofs (disch:=omega)[qb,c8,QQ];rw [List.length_map] at ac;exact hK G1 x L hL ag ac fun i hi=>by have:=h.rd i hi;omega
theorem qao {hp : List HObj} {c m clk : Nat} {E : List GE} {K : AV -> List HObj -> Prop} (hc : qz hp c = some (.cells [.mp m])) (hg : GrH hp m E clk) (hE : E.length <= 4900)
 (hK:∀ G x (L:List GE),L.Perm E->Agr hp G->AccG G x 1 L.length (cW (L.map (·.key)))->(∀ i,rid x=some i->hp.length<=i)->K x G):qw Tryz.prog 709 [qix c] hp K:=by
 refine qdL Tryz.func709 qfa qi4 (by show 1<=_;decide) ?_;simp -implicitDefEqProofs (disch:=omega)[qjQ,qb];refine VP hc hg hE fun G x L h1 h2 h3 h4=>?_;simp -implicitDefEqProofs (disch:=omega)[qb];exact hK _ _ _ h1 h2 h3 h4
theorem qbE {hp : List HObj} {c m clk : Nat} {E : List GE} {K : AV -> List HObj -> Prop} (hc : qz hp c = some (.cells [.mp m])) (hg : GrH hp m E clk) (hE : E.length <= 12) (h0 : E ≠ [])
 (hK:∀ G id (Q:List Nat),qpm (E.map (·.key)) Q->Agr hp G->qz G id=some (.cells (cW Q))->hp.length<=id->K (.ms id 0 Q.length 1) G):qw Tryz.prog 693 [qix c] hp K:=by
 refine qdL Tryz.func693 qe9 qi3 (by show 1<=_;decide) ?_;simp -implicitDefEqProofs (disch:=omega)[qjP,qb];refine qao hc hg (by omega) fun G x L h1 h2 h3 h4=>?_;have hl:=h1.length_eq;have hE0:0<E.length:=List.length_pos_iff.2 h0;rcases h3 with ⟨_,h,_⟩ | ⟨id,rfl,p0,p1,p2,p3⟩
 . omega
 simp -implicitDefEqProofs (disch:=omega)[qb];have hid:=h4 id rfl;refine qob (l:=L.map (·.key)) p1 (by simp) p0 (by rw [List.length_map];omega) fun H Q s t=>?_;simp -implicitDefEqProofs (disch:=omega)[qb];have e:L.length=Q.length:=by rw [s.qlen,List.length_map]
 rw [e];refine hK H id Q ⟨s.perm.trans (h1.map _),t.2⟩ ⟨Nat.le_trans h2.1 s.len,fun j hj=>?_⟩ s.at' hid;rw [s.oth j (by have:=h2.1;omega) (by omega)];exact h2.2 j hj
end Go.AM

namespace Go.AM
open Go.RowKit
def G.cutm (g:G) (n id:Nat):G:={ g with ρ:=fun j=>if j<n then g.ρ j else if j=n then g.ρ id else none }
theorem qcq {w0:World} {g0:G} {w:World} {g:G} {n id:Nat} (hn:∀ i l,g0.ρ i=some l->i<n) {p:Bool} {x:AV} {v0:Value} (h0:Rep w0 g0 p x v0):∀ {p':Bool} {v:Value},Rep w g p' x v->Rep w (g.cutm n id) p' x v:=by
 have at':∀ {i l},g0.ρ i=some l->(g.cutm n id).ρ i=g.ρ i:=fun {i l} h=>by simp [G.cutm,hn i l h]
 induction h0 with
 | v p x=>intro p' v h;cases h;exact .v _ _
 | any p x=>intro p' v h;exact .any _ _
 | sl p full m cs a cap vs _ _ _ _ _ =>
   intro p' v h;cases h with
   | sl _ _ _ _ a cap vs hn hf hc hr=>exact .sl _ _ _ _ a cap vs hn hf hc (fun i hi=>(hr i hi).pure rfl _)
 | ptr p cs off b o vs _ _ _ =>
   intro p' v h;cases h with
   | ptr _ _ _ b o vs hc hr=>exact .ptr _ _ _ b o vs hc (fun i hi=>(hr i hi).pure rfl _)
 | agg p cs vs hl hr ih =>
   intro p' v h;cases h with
   | agg _ _ vs' hl' hr'=>exact .agg _ _ vs' hl' (fun i hi=>ih i hi (hr' i hi))
 | tup p cs vs hl hr ih =>
   intro p' v h;cases h with
   | tup _ _ vs' hl' hr'=>exact .tup _ _ vs' hl' (fun i hi=>ih i hi (hr' i hi))
 | fn p f as1 bs xs ys hl hl' hr hr' ih ih' =>
   intro p' v h;cases h with
   | fn _ _ _ _ xs ys k1 k2 k3 k4=>exact .fn _ _ _ _ xs ys k1 k2 (fun i hi=>ih i hi (k3 i hi)) (fun i hi=>ih' i hi (k4 i hi))
 | ref id off c d hl =>
   intro p' v h;cases h with
   | ref _ _ c d k=>exact .ref _ _ c d ((at' hl).trans k)
 | ms id off n sz c d cap arr ty fz hl hn hb hs =>
   intro p' v h;cases h with
   | ms _ _ _ _ c d cap arr ty fz k1 k2 k3 k4=>exact .ms _ _ _ _ c d cap arr ty fz ((at' hl).trans k1) k2 k3 k4
   | msz _ _ _ a l k1=>exact .msz _ _ _ a l ((at' hl).trans k1)
 | msz id off sz a l hl =>
   intro p' v h;cases h with
   | ms _ _ _ _ c d cap arr ty fz k1 k2 k3 k4=>exact .ms _ _ _ _ c d cap arr ty fz ((at' hl).trans k1) k2 k3 k4
   | msz _ _ _ a l k1=>exact .msz _ _ _ a l ((at' hl).trans k1)
 | mp id c d hl =>
   intro p' v h;cases h with
   | mp _ c d k=>exact .mp _ c d ((at' hl).trans k)
 | mc id off n cap sz c d arr ty fz hl hn hb hs =>
   intro p' v h;cases h with
   | mc _ _ _ _ _ c d arr ty fz k1 k2 k3 k4=>exact .mc _ _ _ _ _ c d arr ty fz ((at' hl).trans k1) k2 k3 k4
   | mcz _ _ _ a l k1=>exact .mcz _ _ _ a l ((at' hl).trans k1)
 | mcz id off sz a l hl =>
   intro p' v h;cases h with
   | mc _ _ _ _ _ c d arr ty fz k1 k2 k3 k4=>exact .mc _ _ _ _ _ c d arr ty fz ((at' hl).trans k1) k2 k3 k4
   | mcz _ _ _ a l k1=>exact .mcz _ _ _ a l ((at' hl).trans k1)
 | yl id c hl =>
   intro p' v h;cases h with
   | yl _ c k=>exact .yl _ c ((at' hl).trans k)
def qpK (hp:List HObj):Prop:=∀ i Φ,qz hp i≠some (.mpp Φ)
theorem qc0 {P : Program} {f : FuncId} {xs : List AV} {hp : List HObj} {K : AV -> List HObj -> Prop} (hm : qpK hp)
 (h:qw P f xs hp fun x H=>Agr hp H/\∃ id n sz cs,x = .ms id 0 n sz/\hp.length<=id/\qz H id=some (.cells cs)/\(cs.all AV.isV)=true/\K (.ms hp.length 0 n sz) (hp++[.cells cs])):qw P f xs hp K:=by
 intro ro n w g vs hok hvs hr;refine (h ro n w g vs hok hvs hr).mono ?_;rintro e w' ⟨v,x,H,g',rfl,⟨ha,id0,m0,sz,cs0,rfl,hge,hcs0,hv0,hK⟩,hrep,hok',hu⟩;have hcs:hpf H id0=some (.cells cs0):=by rw [qk] at hcs0;exact hcs0
 have dom : ∀ id l,g.ρ id = some l -> id < hp.length := fun id l hl => by
  rcases Nat.lt_or_ge id hp.length with h | h
  . exact h
  have:=hok.dom id (by simp [hpf,h]);rw [this] at hl;cases hl
 have same:∀ id,id<hp.length->hpf H id=hpf hp id:=fun id hid=>by have:=ha.2 id hid;rw [qk,qk] at this;exact this
 have cutρ:∀ {id},id<hp.length->(g'.cutm hp.length id0).ρ id=g'.ρ id:=fun h=>by simp [G.cutm,h]
 have cutN:(g'.cutm hp.length id0).ρ hp.length=g'.ρ id0:=by simp [G.cutm]
 have old:∀ {id},id<hp.length->hpf (hp++[HObj.cells cs0]) id=hpf hp id:=fun h=>by simp only [hpf];rw [List.getElem?_append_left h]
 have new:hpf (hp++[HObj.cells cs0]) hp.length=some (.cells cs0):=by simp [hpf]
 have ltH : ∀ {id o},hpf (hp ++ [HObj.cells cs0]) id = some o -> id < hp.length \/ (id = hp.length /\ o = .cells cs0) := fun {id o} h => by
  have:=qq h;simp at this;rcases Nat.lt_or_ge id hp.length with h1 | h1
  . exact .inl h1
  have e:id=hp.length:=by omega
  subst e;rw [new] at h;cases h;exact .inr ⟨rfl,rfl⟩
 have tr:Trans w g w' (g'.cutm hp.length id0):=⟨hu.tr.S,hu.tr.cell,fun id l hl=>(cutρ (dom id l hl)).trans (hu.tr.ρ id l hl),hu.tr.shp,hu.tr.os,hu.tr.tape,hu.tr.output,hu.tr.size,hu.tr.drawn⟩;refine ⟨v,_,hp++[.cells cs0],g'.cutm hp.length id0,rfl,hK,?_,⟨fun id hid=>?_,fun id o ho=>?_,fun id id' o o' c d d' ho ho' hl hl' hr1 hr2=>?_,hok'.ex,hok'.tab⟩,tr,?_,hu.S,hu.keep⟩
 . cases hrep with
   | ms _ _ _ _ c d cap arr ty fz h1 h2 h3 h4=>exact .ms _ _ _ _ c d cap arr ty fz (cutN.trans h1) h2 h3 h4
   | msz _ _ _ a l h1=>exact .msz _ _ _ a l (cutN.trans h1)
 . have h1 : ¬ id < hp.length + 1 := fun h => by simp [hpf] at hid; omega
   simp only [G.cutm];rw [if_neg (by omega),if_neg (by omega)]
 . rcases ltH ho with hlt | ⟨rfl,rfl⟩
   . rw [old hlt] at ho;have hoH:hpf H id=some o:=(same id hlt).trans ho;obtain ⟨l,h1,h2⟩:=hok'.rep id o hoH;obtain ⟨l0,k1,k2⟩:=hok.rep id o ho;have hl:l=l0:=by have:=hu.tr.ρ id l0 k1;rw [h1] at this;exact Option.some.inj this
     subst hl;refine ⟨l,(cutρ hlt).trans h1,?_⟩;cases o with
     | gone=>cases l <;> trivial
     | cells cs =>
       cases l with
       | virg=>exact h2
       | base L=>exact h2
       | blk c d =>obtain ⟨arr,ty,fz,a1,a2,a3,a4,a5⟩:=h2;obtain ⟨arr0,ty0,fz0,b1,b2,b3,b4,b5⟩:=k2;refine ⟨arr,ty,fz,a1,a2,a3,a4,fun i hi=>?_⟩;obtain ⟨y,c1,c2⟩:=a5 i hi;obtain ⟨y0,d1,d2⟩:=b5 i hi;exact ⟨y,c1,qcq dom d2 c2⟩
     | mp es clk =>
       cases l with
       | virg=>exact h2.elim
       | base L=>exact h2.elim
       | blk c d =>obtain ⟨ents,a1,a2,a3,a4,a5⟩:=h2;obtain ⟨ents0,b1,b2,b3,b4,b5⟩:=k2;refine ⟨ents,a1,a2,a3,a4,fun i hi=>?_⟩;obtain ⟨e,c1,c2,c3,c4⟩:=a5 i hi;obtain ⟨e0,d1,d2,d3,d4⟩:=b5 i hi;exact ⟨e,c1,c2,c3,qcq dom d4 c4⟩
     | mpp Φ=>exact absurd ((qk hp id).trans ho) (hm id Φ)
     | it m since seen stepped =>
       cases l with
       | virg=>exact h2.elim
       | base L=>exact h2.elim
       | blk c d =>obtain ⟨mb,a1,a2,a3,a4⟩:=h2;obtain ⟨mb0,b1,b2,b3,b4⟩:=k2;exact ⟨mb,a1,(cutρ (dom _ _ b2)).trans a2,a3,a4⟩
     | lp s mk =>
       cases l with
       | virg=>exact h2.elim
       | base L=>exact h2.elim
       | blk c d =>obtain ⟨L,a1,a2,a3,a4⟩:=h2;obtain ⟨L0,b1,b2,b3,b4⟩:=k2;exact ⟨L,(cutρ (dom _ _ b1)).trans a1,a2,a3,a4⟩
   obtain ⟨l,h1,h2⟩:=hok'.rep id0 _ hcs;refine ⟨l,cutN.trans h1,?_⟩;cases l with
   | virg=>exact h2
   | base L=>exact h2
   | blk c d =>
     obtain ⟨arr,ty,fz,a1,a2,a3,a4,a5⟩:=h2;refine ⟨arr,ty,fz,a1,a2,a3,a4,fun i hi=>?_⟩;obtain ⟨y,c1,c2⟩:=a5 i hi;have hv:=Qs hv0 i hi;refine ⟨y,c1,?_⟩;generalize cs0[i]=z at hv c2;cases z with
     | v z=>rw [zu c2];exact .v _ _
     | _=>cases hv
 . rcases ltH ho with a | ⟨rfl,rfl⟩ <;> rcases ltH ho' with b | ⟨rfl,rfl⟩
   . rw [old a] at ho;rw [old b] at ho';rw [cutρ a] at hr1;rw [cutρ b] at hr2;exact hok'.inj id id' o o' c d d' ((same id a).trans ho) ((same id' b).trans ho') hl hl' hr1 hr2
   . rw [old a] at ho;rw [cutρ a] at hr1;rw [cutN] at hr2;have:=hok'.inj id id0 o _ c d d' ((same id a).trans ho) hcs hl hl' hr1 hr2;omega
   . rw [old b] at ho';rw [cutN] at hr1;rw [cutρ b] at hr2;have:=hok'.inj id0 id' _ o' c d d' hcs ((same id' b).trans ho') hl hl' hr1 hr2;omega
   rfl
 rintro c ⟨id,o,d,ho,hl,hr1⟩;rcases ltH ho with a | ⟨rfl,rfl⟩
 . rw [old a] at ho;rw [cutρ a] at hr1;exact hu.live c ⟨id,o,d,(same id a).trans ho,hl,hr1⟩
 rw [cutN] at hr1;exact hu.live c ⟨id0,_,d,hcs,hl,hr1⟩
end Go.AM

set_option maxRecDepth 100000
namespace Go.AM
open Go.RowKit Go.Proofs
def qiH : Value -> Option Nat
 | .int .u64 (.ofNat n)=>some n
 | _=>none
def qiI : List Ent -> Option (List Nat)
 | []=>some []
 | e::es=>match qiH e.1 with
   | some n=>(qiI es).map (n::·)
   | none=>none
def qmT (n : Nat) : List Nat -> List Nat
 | []=>[n]
 | a::l=>bif Nat.ble n a then n::a::l else a::qmT n l
def Xz : List Nat -> List Nat
 | []=>[]
 | a::l=>qmT a (Xz l)
theorem Vh (n : Nat) : ∀ l,(qmT n l).Perm (n :: l)
 | [] => .refl _
 | a::l=>by
   unfold qmT;cases Nat.ble n a with
   | true=>exact .refl _
   | false=>exact ((Vh n l).cons a).trans (.swap _ _ _)
theorem Yi : ∀ l,(Xz l).Perm l
 | [] => .refl _
 | a::l=>(Vh a _).trans ((Yi l).cons a)
theorem qfx (n : Nat) : ∀ {l : List Nat},l.Pairwise (· <= ·) -> (qmT n l).Pairwise (· <= ·)
 | [],_=>by simp [qmT]
 | a::l, h=>by
   rw [List.pairwise_cons] at h;unfold qmT;cases e:Nat.ble n a with
   | true =>
     have:=Nat.le_of_ble_eq_true e
     exact List.pairwise_cons.2 ⟨fun x hx => by
      rcases List.mem_cons.1 hx with rfl | hx
      . exact this
      exact Nat.le_trans this (h.1 x hx),List.pairwise_cons.2 h⟩
   | false =>
     have:a<=n:=by
      rcases Nat.lt_or_ge a n with h1 | h1
      . omega
      rw [Nat.ble_eq_true_of_le h1] at e;cases e
     refine List.pairwise_cons.2 ⟨fun x hx=>?_,qfx n h.2⟩;rcases List.mem_cons.1 ((Vh n l).mem_iff.1 hx) with rfl | hx
     . exact this
     exact h.1 x hx
theorem qct : ∀ l,(Xz l).Pairwise (· <= ·)
 | [] => .nil
 | a::l=>qfx a (qct l)
theorem Wn : ∀ {a b : List Nat},a.Perm b -> a.Pairwise (· <= ·) -> b.Pairwise (· <= ·) -> a = b
 | [],b,h,_,_=>(List.nil_perm.1 h).symm
 | x::a,[],h,_,_=>absurd h.length_eq (by simp)
 | x::a,y::b,h,h1,h2=>by
   rw [List.pairwise_cons] at h1 h2
   have e:x=y:=by
    have hx:x∈y::b:=h.mem_iff.1 (by simp);have hy:y∈x::a:=h.mem_iff.2 (by simp);rcases List.mem_cons.1 hx with e | hx
    . exact e
    rcases List.mem_cons.1 hy with e | hy
    . exact e.symm
    have:=h1.1 y hy;have:=h2.1 x hx;omega
   subst e;rw [Wn (h.cons_inv) h1.2 h2.2]
theorem qfQ {v:Value} {n:Nat} (h:qiH v=some n):v=qkh n:=by
 unfold qiH at h;split at h
 . cases h;rfl
 cases h
theorem qcd : ∀ {es : List Ent} {ns : List Nat},qiI es = some ns -> es.map (·.1) = ns.map qkh
 | [],ns,h=>by cases h;rfl
 | e::es, ns, h=>by
   unfold qiI at h;split at h
   . rename_i n hn;rw [Option.map_eq_some_iff] at h;obtain ⟨l,h1,rfl⟩:=h;rw [List.map_cons,List.map_cons,qcd h1,qfQ hn]
   cases h
def qyv (xs:List AV) (hp:List HObj) (k:AV->List HObj->Prop):Prop:=match xs with
 | [.fn (.func f) [] [.ref c 0]] => okP (Nat.beq f 711) (Jl hp c fun cs => match cs with
   | [.mp m]=>YN hp m fun o=>match o with
     | .mp es kk => okP (Nat.beq kk 0) (match qiI es with
       | some ns=>okP (Nat.ble ns.length 12&&Nat.blt 0 ns.length) (fmP (faP 6) (cW (Xz ns)) fun cs=>Z4 hp (.cells cs) fun id hp=>qdU ns fun n=>k (.ms id 0 n 1) hp)
       | none=>False)
     | _=>False
   | _=>False)
 | _=>False
def VJ (e:Ent):GE:=⟨(qiH e.1).getD 0,e.2.1,e.2.2⟩
theorem qfj {es:List Ent} (h:∀ e∈es,∃ n,e.1=qkh n):(es.map VJ).map qdf=es:=by
 rw [List.map_map]
 conv=>rhs;rw [<-List.map_id es]
 refine List.map_congr_left fun e he=>?_;obtain ⟨n,hn⟩:=h e he;obtain ⟨k,b,v⟩:=e;simp only at hn;subst hn;rfl
theorem qoB:qdO Tryz.prog 693 qyv:=by
 intro xs hp k h;unfold qyv at h;split at h
 . rename_i f c;obtain ⟨hf,h⟩:=qj h;have hf:=Nat.eq_of_beq_eq_true hf;subst hf;obtain ⟨cs,hc,h⟩:=zp h;split at h
   . rename_i m;obtain ⟨o,ho,h⟩:=zr h;split at h
     . rename_i es kk;obtain ⟨hk0,h⟩:=qj h;split at h
       . rename_i ns hns;obtain ⟨hl,h⟩:=qj h;simp only [Bool.and_eq_true] at hl;have hl12:=Nat.le_of_ble_eq_true hl.1;have hl0:0<ns.length:=Nat.le_of_ble_eq_true hl.2;rw [Qb (Qj 6)] at h;have h:=zj h;rw [ZG] at h;refine ⟨_,_,fun Z hq hr=>?_,h⟩;obtain ⟨es',clk,hm',hs,_⟩:=hr.mp (show hpf hp m=some (.mp es kk) from ho);have keq:=qcd hns;have hperm:(ns.map qkh).Perm (es'.map (·.1)):=by rw [<-keq];exact hs.keysE
         have hkey:∀ e∈es',∃ n,e.1=qkh n:=fun e he=>by have:=hperm.mem_iff.2 (List.mem_map.2 ⟨e,he,rfl⟩);obtain ⟨n,_,hn⟩:=List.mem_map.1 this;exact ⟨n,hn.symm⟩
         have hE:=qfj hkey
         have gr:GrH hq m (es'.map VJ) clk:=by
          refine ⟨?_,?_,fun e he=>?_⟩
          . rw [qk];unfold mpG;rw [hE];exact hm'
          . rw [List.pairwise_map];have:=hs.born;rw [List.Nodup,List.pairwise_map] at this;exact this
          obtain ⟨e',h1,rfl⟩:=List.mem_map.1 he;exact hs.clk e' h1
         have hlen:es'.length=ns.length:=by have:=hperm.length_eq;simpa using this.symm
         have hkeys:(es'.map VJ).map (·.key)=es'.map fun e=>(qiH e.1).getD 0:=by rw [List.map_map];rfl
         have hns2:ns.Perm ((es'.map VJ).map (·.key)):=by
          rw [hkeys];have:=hperm.map fun v=>(qiH v).getD 0;rw [List.map_map,List.map_map] at this
          have e1 : ns.map ((fun v => (qiH v).getD 0) ∘ qkh) = ns := by
           conv=>rhs;rw [<-List.map_id ns]
           exact List.map_congr_left fun n _=>rfl
          rw [e1] at this;exact this
         have nm : qpK hq := fun i Φ hi => by
          rw [qk] at hi;have hlt:i<hp.length:=by rw [<-hr.len];exact (List.getElem?_eq_some_iff.1 hi).1
          have:=V9 (hr.obj i _ _ (List.getElem?_eq_getElem hlt) hi);cases this
         refine qc0 nm ?_
         refine qbE (c := c) (m := m) (clk := clk) (E := es'.map VJ) (by rw [qk]; exact (hr.cel hc).1) gr (by rw [List.length_map]; omega) (fun e => by
          have:(es'.map VJ).length=0:=by rw [e];rfl
          rw [List.length_map] at this;omega) fun G id Q hQ ha hid hge=>?_
         have eQ:Q=Xz ns:=Wn (hQ.1.trans (hns2.symm.trans (Yi ns).symm)) hQ.2 (qct ns);subst eQ;have eL:(Xz ns).length=ns.length:=(Yi ns).length_eq;refine ⟨ha,id,_,1,_,rfl,hge,hid,?_,?_,?_⟩
         . rw [List.all_eq_true];intro x hx;simp only [cW,List.mem_map] at hx;obtain ⟨i,_,rfl⟩:=hx;rfl
         . rw [hr.len,eL]
         have:=hr.write (ws:=[(hp.length,.cells (cW (Xz ns)))]) (fun p hp'=>by simp at hp';subst hp';exact ⟨hr.new _ (Nat.le_refl _),Nat.le_refl _,rfl⟩);have e:qc hq [(hp.length,.cells (cW (Xz ns)))]=hq++[.cells (cW (Xz ns))]:=by rw [<-hr.len];simp [qc,qn]
         rwa [e] at this
       exact h.elim
     exact h.elim
   exact h.elim
 exact h.elim
def qEv:Kn := .law qyv
theorem qm2:qdO Tryz.prog 693 qyv:=qoB
end Go.AM

set_option maxRecDepth 100000
namespace Go.AM
open Go.RowKit Go.Proofs
def qjN:AC:=(.seq (.rgn [⟨none,[(.mv 2 (.k (.v (.int .u64 0))))]⟩] [0]) (.seq (.rgn [⟨none,[(.mv 3 (.t 0)),(.nilc 4 (.t 3)),(.fa 5 (.t 4) 0),(.fa 6 (.t 5) 1),(.ld 7 false 1 (.t 6)),(.len 8 (.t 7)),(.bin 9 .shl (.k (.v (.int .u64 1))) (.t 8)),(.bin 10 .sub (.t 9) (.k (.v (.int .u64 1)))),(.mv 2 (.t 10))]⟩] [2]) .ret))
theorem qe7:qJ Tryz.prog Tryz.f601 [2]=some qjN:=by kernel_rfl
theorem qi1:qN Tryz.f601.results.toList=some [2]:=by decide +kernel
def qjO:AC:=(.seq (.rgn [⟨none,[(.mv 4 (.k (I 0)))]⟩] [0,1]) (.seq (.rgn [⟨none,[(.mv 12 (.t 1)),(.bin 13 .add (.t 12) (.k (I 1))),(.mks 14 4096 32768 (List.replicate 4096 (I 0)) (.t 13) (.t 13)),(.mv 5 (.t 14))]⟩] [0,1,5]) (.seq (.seq (.rgn [⟨none,[(.mv 15 (.t 5)),(.len 16 (.t 15)),(.mv 17 (.k (I 0)))]⟩] [0,1,5,16,17]) (.block 0 (.loop (.seq (.rgn [⟨none,[(.bin 18 .lss (.t 17) (.t 16))]⟩] [0,1,5,16,17,18]) (.seq (.cond (.t 18) .skip (.exit 0)) (.seq (.block 1 (.seq (.rgn [⟨none,[(.mv 19 (.t 17)),(.mv 6 (.t 19))]⟩] [0,1,5,6,16,17]) (.rgn [⟨none,[(.mv 20 (.t 5)),(.mv 21 (.t 6)),(.ia 22 4096 (.t 20) (.t 21)),(.slp 23 1 4096 (.t 22) none none none),(.clr 1 [(I 0)] (.t 23))]⟩] [0,1,5,16,17]))) (.rgn [⟨none,[(.bin 24 .add (.t 17) (.k (I 1))),(.mv 17 (.t 24))]⟩] [0,1,5,16,17]))))))) (.seq (.rgn [⟨none,[(.mv 25 (.t 5)),(.ia 26 4096 (.t 25) (.k (I 0))),(.iaa 27 4096 1 (.t 26) (.k (I 0))),(.st 1 (.t 27) (.k (I 1)))]⟩] [0,1,5]) (.seq (.seq (.rgn [⟨none,[(.mv 28 (.t 0)),(.nilc 29 (.t 28)),(.fa 30 (.t 29) 2),(.ld 31 false 1 (.t 30)),(.rng 32 (.t 31))]⟩] [0,1,5,32]) (.block 2 (.loop (.seq (.rgn [⟨none,[(.nxt 33 (.t 32)),(.ext 34 (.t 33) 0)]⟩] [0,1,5,32,34]) (.seq (.cond (.t 34) .skip (.exit 2)) (.block 3 (.seq (.rgn [⟨none,[(.ent 35 (.t 32)),(.ext 36 (.t 35) 0),(.ext 37 (.t 35) 1),(.mv 7 (.t 36)),(.mv 8 (.t 37))]⟩] [0,1,5,7,8,32]) (.seq (.rgn [⟨none,[(.mv 38 (.t 1)),(.bin 39 .sub (.t 38) (.k (I 1))),(.mv 9 (.t 39))]⟩] [0,1,5,7,8,9,32]) (.block 4 (.loop (.seq (.seq (.rgn [⟨none,[(.mv 40 (.t 9)),(.bin 41 .geq (.t 40) (.k (I 0)))]⟩] [0,1,5,7,8,9,32,41]) (.cond (.t 41) .skip (.exit 4))) (.seq (.block 5 (.seq (.rgn [⟨none,[(.mv 10 (.k (.v (.int .u64 0))))]⟩] [0,1,5,7,8,9,10,32]) (.block 6 (.loop (.seq (.seq (.rgn [⟨none,[(.mv 44 (.t 10)),(.mv 45 (.t 0)),(.call 46 601 [(.t 45)]),(.bin 47 .leq (.t 44) (.t 46))]⟩] [0,1,5,7,8,9,10,32,47]) (.cond (.t 47) .skip (.exit 6))) (.seq (.block 7 (.seq (.rgn [⟨none,[(.mv 50 (.t 5)),(.mv 51 (.t 9)),(.mv 52 (.t 10)),(.ia 53 4096 (.t 50) (.t 51)),(.iaa 54 4096 1 (.t 53) (.t 52)),(.ld 55 false 1 (.t 54)),(.mv 11 (.t 55))]⟩] [0,1,5,7,8,9,10,11,32]) (.seq (.rgn [⟨none,[(.mv 56 (.t 11)),(.bin 57 .gtr (.t 56) (.k (I 0)))]⟩] [0,1,5,7,8,9,10,11,32,57]) (.cond (.t 57) (.drw [⟨none,[(.mv 58 (.t 5)),(.mv 59 (.t 9)),(.bin 60 .add (.t 59) (.k (I 1))),(.mv 61 (.t 10)),(.mv 62 (.t 7)),(.bin 63 .or (.t 61) (.t 62)),(.mv 64 (.t 5)),(.mv 65 (.t 9)),(.bin 66 .add (.t 65) (.k (I 1))),(.mv 67 (.t 10)),(.mv 68 (.t 7)),(.bin 69 .or (.t 67) (.t 68)),(.ia 70 4096 (.t 64) (.t 66)),(.iaa 71 4096 1 (.t 70) (.t 69)),(.ld 72 false 1 (.t 71)),(.mv 73 (.t 11)),(.mv 74 (.t 8)),(.len 75 (.t 74)),(.bin 76 .mul (.t 73) (.t 75)),(.bin 77 .add (.t 72) (.t 76)),(.mx 78 false (.k (I 1099511627777)) (.t 77)),(.ia 79 4096 (.t 58) (.t 60)),(.iaa 80 4096 1 (.t 79) (.t 63)),(.st 1 (.t 80) (.t 78))]⟩] [] [0,1,5,7,8,9,10,32]) .skip)))) (.rgn [⟨none,[(.mv 48 (.t 10)),(.bin 49 .add (.t 48) (.k (.v (.int .u64 1)))),(.mv 10 (.t 49))]⟩] [0,1,5,7,8,9,10,32]))))))) (.rgn [⟨none,[(.mv 42 (.t 9)),(.bin 43 .sub (.t 42) (.k (I 1))),(.mv 9 (.t 43))]⟩] [0,1,5,7,8,9,32]))))))))))))) (.seq (.drw [⟨none,[(.mv 81 (.t 5)),(.mv 82 (.t 1)),(.mv 83 (.t 0)),(.call 84 601 [(.t 83)]),(.ia 85 4096 (.t 81) (.t 82)),(.iaa 86 4096 1 (.t 85) (.t 84)),(.ld 87 false 1 (.t 86)),(.mv 4 (.t 87))]⟩] [] [4]) .ret))))))
theorem qe8:qJ Tryz.prog Tryz.f609 [4]=some qjO:=by kernel_rfl
theorem qi2:qN Tryz.f609.results.toList=some [4]:=by decide +kernel
theorem qaz {n:Nat} (h:n<2 ^ 60):IntKind.u64.wrap (n:Int)=n:=by
 have:(n:Int) % 18446744073709551616=n:=by omega
 simp [IntKind.wrap,IntKind.bits,IntKind.signed,this]
theorem qop {a c:Nat} (ha:a<2 ^ 60) (hc:c<2 ^ 60):IntKind.u64.wrap ((BitVec.ofInt IntKind.u64.bits (a:Int) ||| BitVec.ofInt IntKind.u64.bits (c:Int)).toNat:Int)=((a ||| c:Nat):Int):=by
 have e:(BitVec.ofInt IntKind.u64.bits (a:Int) ||| BitVec.ofInt IntKind.u64.bits (c:Int)).toNat=a ||| c:=by show (BitVec.ofInt 64 (a:Int) ||| BitVec.ofInt 64 (c:Int)).toNat=a ||| c;rw [BitVec.toNat_or,BitVec.ofInt_natCast,BitVec.ofInt_natCast,BitVec.toNat_ofNat,BitVec.toNat_ofNat,Nat.mod_eq_of_lt (by omega),Nat.mod_eq_of_lt (by omega)]
 have h:a ||| c<2 ^ 60:=Nat.or_lt_two_pow ha hc;rw [e,qaz h]
theorem qjz {i:Nat} (hi:i<=59):IntKind.u64.wrap ((1:Int)*2 ^ (min (i:Int).toNat IntKind.u64.bits))=((2 ^ i:Nat):Int):=by
 have e:min (i:Int).toNat IntKind.u64.bits=i:=by show min i 64=i;omega
 have h:(2:Nat) ^ i<2 ^ 60:=Nat.pow_lt_pow_right (by decide) (by omega);rw [e,Int.one_mul];have:((2:Int) ^ i)=((2 ^ i:Nat):Int):=by norm_cast
 rw [this,qaz h]
section
variable {K:AV->List (Nat × HObj)->Prop}
theorem qCp {a c:Nat} (ha:a<2 ^ 60) (hc:c<2 ^ 60):YE .or (W64 a) (W64 c) K=K (W64 (orN a c)) []:=by rw [qyV,qop ha hc];rfl
theorem qvi {i:Nat} (hi:i<=59):YE .shl (.v (.int .u64 1)) (I (i:Int)) K=K (W64 (pwN i)) []:=by rw [qlF (by omega),qjz hi];rfl
theorem qvj {a:Nat} (ha:a<2 ^ 60) (h0:0<a):YE .sub (W64 a) (.v (.int .u64 1)) K=K (W64 (a - 1)) []:=by rw [qlG,show ((a:Int) - 1)=((a - 1:Nat):Int) by omega,qaz (by omega)]
theorem qvg {a:Nat} (ha:a<2 ^ 59):YE .add (W64 a) (.v (.int .u64 1)) K=K (W64 (a+1)) []:=by rw [qlD,show ((a:Int)+1)=((a+1:Nat):Int) by omega,qaz (by omega)]
theorem qvh {a c:Nat}:YE .leq (W64 a) (W64 c) K=K (B (decide (a<=c))) []:=by
 rw [qlE];have:decide ((a:Int)<=(c:Int))=decide (a<=c):=by simp
 rw [this]
end
theorem qho {H:List HObj} {o:HObj}:(∀ j,j<H.length->qz (H++[o]) j=qz H j)/\qz (H++[o]) H.length=some o/\(H++[o]).length=H.length+1:=by refine ⟨fun j hj=>J3 hj,?_,by simp⟩;rw [qk,List.getElem?_append_right (by omega)];simp
def fnA (f:Nat->Nat):List AV:=(List.range 4096).map fun i=>I (f i:Int)
theorem qbj {f}:(fnA f).length=4096:=by simp [fnA]
theorem qrb {f:Nat->Nat} {k:Nat} (h:k<(fnA f).length):(fnA f)[k]=I (f k:Int):=by simp only [fnA,List.getElem_map,List.getElem_range]
theorem qnu:List.replicate 4096 (I 0)=fnA (fun _=>0) :=
 List.ext_getElem (by rw [List.length_replicate,qbj]) fun k h1 h2=>by rw [List.getElem_replicate,qrb];rfl
def sK (f : Nat -> Nat) : Nat -> Nat
 | 0=>0
 | k+1=>sK f k+f k
def Z5 (x:Nat):Nat:=min 1099511627777 x
theorem qez {x:Nat}:Z5 x<=1099511627777:=by unfold Z5;omega
def GE.len (e:GE):Nat:=match e.v with
 | .sl _ n _=>n
 | .ms _ _ n _=>n
 | _=>0
def gwR (M : Nat) : List GE -> Nat -> Nat -> Nat
 | [],n,b=>if n=0/\b=0 then 1 else 0
 | _::L,0,b=>gwR M L 0 b
 | e::L,n+1,b=>gwR M L (n+1) b+e.len*sK (fun c=>if orN c e.key=b then gwR M L n c else 0) M
def gwM (M:Nat) (e:GE) (L:List GE) (n s b:Nat):Nat:=gwR M L (n+1) b+e.len*sK (fun c=>if orN c e.key=b then gwR M L n c else 0) s
theorem qb8 {M e L n b}:gwM M e L n 0 b=gwR M L (n+1) b:=by simp [gwM,sK]
theorem qmA {M e L n b}:gwM M e L n M b=gwR M (e::L) (n+1) b:=rfl
theorem qih {M e L n s b}:gwM M e L n (s+1) b=gwM M e L n s b+if orN s e.key=b then e.len*gwR M L n s else 0:=by
 unfold gwM;rw [show ∀ f:Nat->Nat,sK f (s+1)=sK f s+f s from fun _=>rfl];split
 . rw [Nat.mul_add,Nat.add_assoc]
 simp
def gwL (M:Nat) (e:GE) (L:List GE) (j s:Nat) (k b:Nat):Nat:=if j<k then gwR M (e::L) k b else if k=j/\0<j then gwM M e L (j - 1) s b else gwR M L k b
theorem qfs {M e L N k b} (hk:k<=N):gwL M e L N 0 k b=gwR M L k b:=by
 unfold gwL;rw [if_neg (by omega)];split
 . rename_i h;obtain ⟨rfl,h⟩:=h;rw [qb8,show k - 1+1=k by omega]
 rfl
theorem qig {M e L j k b} (hj:0<j):gwL M e L j M k b=gwL M e L (j - 1) 0 k b:=by
 unfold gwL;by_cases h1:j<k
 . rw [if_pos h1,if_pos (by omega)]
 rw [if_neg h1];by_cases h2:k=j
 . subst h2;rw [if_pos ⟨rfl,hj⟩,if_pos (by omega),qmA,show k - 1+1=k by omega]
 rw [if_neg (fun h=>h2 h.1),if_neg (by omega)];split
 . rename_i h;obtain ⟨rfl,h⟩:=h;rw [qb8,show j - 1 - 1+1=j - 1 by omega]
 rfl
theorem qmy {M e L k b}:gwL M e L 0 0 k b=gwR M (e::L) k b:=by
 unfold gwL;by_cases h:0<k
 . rw [if_pos h]
 rw [if_neg h,if_neg (by omega)];have:k=0:=by omega
 subst this;rfl
theorem qhI {x y l:Nat} (hl:0<l):min 1099511627777 (Z5 x+Z5 y*l)=Z5 (x+l*y):=by
 unfold Z5;by_cases h:1099511627777<=y
 . have e : min 1099511627777 y = 1099511627777 := by omega
   have h1:1099511627777<=1099511627777*l:=Nat.le_mul_of_pos_right _ hl;have h2:y<=l*y:=Nat.le_mul_of_pos_left _ hl;rw [e];generalize 1099511627777*l=p at *;generalize l*y=q at *;omega
 have e:min 1099511627777 y=y:=by omega
 rw [e,Nat.mul_comm];generalize l*y=q at *;omega
theorem W3 {M:Nat} {e:GE} {L:List GE} {j x k b:Nat} (hj:0<j):gwL M e L j (x+1) k b=gwL M e L j x k b+if k=j/\b=orN x e.key then e.len*gwR M L (j - 1) x else 0:=by
 unfold gwL;by_cases h1:j<k
 . rw [if_pos h1,if_pos h1,if_neg (by omega)];rfl
 rw [if_neg h1,if_neg h1];by_cases h2:k=j
 . subst h2;rw [if_pos ⟨rfl,hj⟩,if_pos ⟨rfl,hj⟩,qih];by_cases h3:b=orN x e.key
   . rw [if_pos h3.symm,if_pos ⟨rfl,h3⟩]
   rw [if_neg (fun h=>h3 h.symm),if_neg (fun h=>h3 h.2)]
 rw [if_neg (fun h=>h2 h.1),if_neg (fun h=>h2 h.1),if_neg (fun h=>h2 h.1)];rfl
theorem qmz {M:Nat} {e:GE} {L:List GE} {j x b:Nat} (hj:0<j):gwL M e L j x (j - 1) b=gwR M L (j - 1) b:=by unfold gwL;rw [if_neg (by omega),if_neg (by omega)]
theorem qeA {x:Nat}:Z5 x=0↔x=0:=by unfold Z5;omega
def fnM (N:Nat) (f:Nat->Nat->Nat):List AV:=(List.range (N*4096)).map fun i=>I (f (i / 4096) (i % 4096):Int)
theorem Z9 {N f}:(fnM N f).length=N*4096:=by simp [fnM]
theorem qb5 {N f k} (h:k<(fnM N f).length):(fnM N f)[k]=I (f (k / 4096) (k % 4096):Int):=by simp only [fnM,List.getElem_map,List.getElem_range]
theorem qbk {N:Nat} {f:Nat->Nat->Nat} {n i:Nat} (hn:n<N) (h:i<4096):qfT (fnM N f) (n*4096+i)=some (I (f n i:Int)):=by
 have hk:n*4096+i<(fnM N f).length:=by rw [Z9];have:=Nat.mul_le_mul_right 4096 (show n+1<=N from hn);omega
 rw [Vn,List.getElem?_eq_getElem hk,qb5];rw [show (n*4096+i) / 4096=n by omega,show (n*4096+i) % 4096=i by omega]
theorem JV {N:Nat} {f g:Nat->Nat->Nat} (h:∀ n t,n<N->t<4096->f n t=g n t):fnM N f=fnM N g:=List.map_congr_left fun t ht=>by have ht:=List.mem_range.1 ht;rw [h _ _ (by omega) (by omega)]
def qoq (f:Nat->Nat->Nat) (n i v:Nat):Nat->Nat->Nat:=fun k t=>if k=n/\t=i then v else f k t
theorem qe1 {N:Nat} {f:Nat->Nat->Nat} {n i v:Nat} (hn:n<N) (h:i<4096):(fnM N f).take (n*4096+i)++I (v:Int)::(fnM N f).drop (n*4096+i+1)=fnM N (qoq f n i v):=by
 have hk:n*4096+i<(fnM N f).length:=by rw [Z9];have:=Nat.mul_le_mul_right 4096 (show n+1<=N from hn);omega
 have e:(fnM N f).set (n*4096+i) (I (v:Int))=fnM N (qoq f n i v):=by
  refine List.ext_getElem (by simp [fnM]) fun k h1 h2=>?_;rw [List.getElem_set,qb5 h2];by_cases e:n*4096+i=k
  . rw [if_pos e];unfold qoq;rw [if_pos ⟨by omega,by omega⟩]
  rw [if_neg e,qb5];unfold qoq;rw [if_neg (by omega)]
 rw [<-e,List.set_eq_take_append_cons_drop,if_pos hk]
theorem XI {z : List AV} {x : AV} (h : ∀ y ∈ z,y = x) : ∀ {n},∀ y ∈ zE n z,y = x
 | 0,y,hy=>by cases hy
 | n+1,y,hy=>by
   rw [zE,List.mem_append] at hy;rcases hy with hy | hy
   . exact h y hy
   exact XI h y hy
theorem qbS {N:Nat} {l:List AV} (hl:l.length=N*4096) (h:∀ y∈l,y=I 0):l=fnM N (fun _ _=>0):=by refine List.ext_getElem (by rw [hl,Z9]) fun k h1 h2=>?_;rw [qb5 h2];exact h _ (List.getElem_mem h1)
theorem qjL {N:Nat}:zE N (fnA (fun _=>0))=fnM N (fun _ _=>0) :=
 qbS (by rw [zW,qbj]) fun y hy=>XI (z:=fnA fun _=>0) (fun y hy=>by simp only [fnA,List.mem_map] at hy;obtain ⟨i,_,rfl⟩:=hy;rfl) y hy
theorem qdF {N n:Nat} (h:n<N):splice (fnM N fun _ _=>0) (n*4096) (zE 4096 [I 0])=fnM N (fun _ _=>0):=by
 have hm:∀ y∈fnM N (fun _ _=>0),y=I 0:=fun y hy=>by simp only [fnM,List.mem_map] at hy;obtain ⟨i,_,rfl⟩:=hy;rfl
 have hk:=Nat.mul_le_mul_right 4096 (show n+1<=N from h);refine qbS ?_ fun y hy=>?_
 . simp only [splice,List.length_append,List.length_take,List.length_drop,Z9,zW,List.length_singleton];omega
 simp only [splice,List.mem_append] at hy;rcases hy with (hy | hy) | hy
 . exact hm y (List.mem_of_mem_take hy)
 . exact XI (z:=[I 0]) (fun y hy=>by simpa using hy) y hy
 exact hm y (List.mem_of_mem_drop hy)
structure BdC (hp:List HObj) (rc m:Nat) (E:List GE) (clk:Nat) (n:Nat):Prop where
 bd:∃ c0 c1,qz hp rc=some (.cells [c0,c1,.mp m])/\∀ K:AV->List (Nat × HObj)->Prop,qlx c1 K=K (I n) []
 gr:GrH hp m E clk
theorem BdC.agr {hp H:List HObj} {rc m:Nat} {E:List GE} {clk n:Nat} (h:BdC hp rc m E clk n) (ha:Agr hp H):BdC H rc m E clk n:=by obtain ⟨c0,c1,h1,h2⟩:=h.bd;exact ⟨⟨c0,c1,ha.get h1,h2⟩,h.gr.mono (ha.2 _ (qL h.gr.mp))⟩
theorem qAD {n:Nat} (h:n<=12):0<pwN n/\pwN n<=4096:=⟨Nat.two_pow_pos n,Nat.pow_le_pow_right (by decide) h⟩
section
variable {hp:List HObj} {rc m:Nat} {E:List GE} {clk n:Nat}
theorem qjY (hb:BdC hp rc m E clk n) (hn:n<=12) {K:AV->List HObj->Prop} (hK:K (W64 (pwN n - 1)) hp):qw Tryz.prog 601 [.ref rc 0] hp K:=by have h1:pwN n<2 ^ 60:=qf7 (by omega);have h0:0<pwN n:=Nat.two_pow_pos n;obtain ⟨c0,c1,e1,e2⟩:=hb.bd;refine XU Tryz.func601 qe7 qi1 (by show 1<=_;decide) ?_;simp only [qjN];refine ZD ?_;simp -implicitDefEqProofs (disch:=omega)[qb];refine ZD ?_;simp -implicitDefEqProofs (disch:=omega)[qb,e1,QQ,e2,-qlF,qvi,-qlG,qvj];refine qeb ?_;simp -implicitDefEqProofs (disch:=omega)[qb];exact hK
set_option maxHeartbeats 8000000 in
theorem qhM (hb : BdC hp rc m E clk n) (hn : n <= 12) (hE : ∀ e ∈ E,e.key < pwN n) (hl : ∀ e ∈ E,0 < e.len /\ e.len <= 10000 /\ ∀ K : AV -> List (Nat × HObj) -> Prop,qlx e.v K = K (I e.len) []) {N : Nat} (hN : N <= 1000) {K : AV -> List HObj -> Prop}
 (hK:∀ L G,L.Perm E->Agr hp G->G.length=hp.length+2->(∀ i o,hp.length<=i->qz G i=some o->nmP o=true)->K (I (Z5 (gwR (pwN n) L N (pwN n - 1)):Nat)) G) :
 qw Tryz.prog 609 [.ref rc 0,I (N:Int)] hp K:=by
 have w:=qAD hn;have nx:((N:Int)+1)=((N+1:Nat):Int):=by omega
 refine XU Tryz.func609 qe8 qi2 (by show 2<=_;decide) ?_;simp only [qjO,qnu];refine ZD ?_;simp -implicitDefEqProofs (disch:=omega)[qb];refine ZD ?_;simp -implicitDefEqProofs (disch:=omega)[qb];rw [show (AV.v (Value.int IntKind.i64 ((N:Int)+1)))=I ((N+1:Nat):Int) from by rw [<-nx]];refine ⟨N+1,rfl,rfl,by omega,by omega,qbj,?_⟩;rw [qjL];simp -implicitDefEqProofs (disch:=omega)[qb];refine ZD ?_;simp -implicitDefEqProofs (disch:=omega)[qb];refine ZI (fun i:Nat=>⟨[(0,.ref rc 0),(1,I (N:Int)),(5,.ms hp.length 0 (N+1) 4096),(16,I ((N:Int)+1)),(17,I (i:Int))],hp++[.cells (fnM (N+1) fun _ _=>0)]⟩) (fun i=>i<=N+1) (fun i=>N+1 - i) 0 (Nat.zero_le _) (by simp) ?_;intro i hi;refine Jq fun K0 hK0=>?_;simp -implicitDefEqProofs (disch:=omega)[qb];refine Zk (fun hc=>?_) (fun hc=>?_)
 . have hi2 : i < N + 1 := by simp at hc; omega
   have ix:((i:Int)+1)=((i+1:Nat):Int):=by omega
   simp -implicitDefEqProofs (disch:=omega)[qb];have lM:=Z9 (N:=N+1) (f:=fun _ _=>0);have hA:qz (hp++[HObj.cells (fnM (N+1) fun _ _=>0)]) hp.length=some (.cells (fnM (N+1) fun _ _=>0)):=(qho).2.1;have hk:=Nat.mul_le_mul_right 4096 (show i+1<=N+1 from hi2);refine ⟨by omega,qsh rfl hA (by rw [lM];omega) ?_⟩;simp -implicitDefEqProofs (disch:=omega)[qb];refine qqi rfl hA (by rw [lM];omega) ?_;rw [qdF hi2];simp -implicitDefEqProofs (disch:=omega)[qb];rw [hK0];exact J1 (i+1) (by omega) (by omega) (by simp only [ix])
 have hi2:i=N+1:=by simp at hc;omega
 subst hi2;subst hK0;simp -implicitDefEqProofs (disch:=omega)[qb];refine ZD ?_;simp -implicitDefEqProofs (disch:=omega)[qb,Z9]
 have e1 : I 1 :: (fnM (N + 1) fun _ _ => 0).tail = fnM (N + 1) fun k t => Z5 (gwR (pwN n) [] k t) := by
  have:=qe1 (N:=N+1) (f:=fun _ _=>0) (n:=0) (i:=0) (v:=1) (by omega) (by omega);simp only [Nat.zero_mul,Nat.add_zero,List.take_zero,List.nil_append,Nat.zero_add,List.drop_one] at this;rw [show (I 1:AV)=I ((1:Nat):Int) from rfl,this];refine JV fun k t _ _=>?_;show (if k=0/\t=0 then 1 else 0)=Z5 (if k=0/\t=0 then 1 else 0)
  split <;> rfl
 rw [e1];have hbA:BdC (hp++[HObj.cells (fnM (N+1) fun k t=>Z5 (gwR (pwN n) [] k t))]) rc m E clk n:=hb.agr (Agr.refl hp).app;obtain ⟨c0,c1,bd0,_⟩:=hbA.bd;refine ⟨by omega,ZD ?_⟩;simp -implicitDefEqProofs (disch:=omega)[qb,bd0,QQ,qlt];refine qDT hbA.gr.mp ?_;simp -implicitDefEqProofs (disch:=omega)[qb];refine ZI (fun q:List GE × List HObj=>⟨[(0,.ref rc 0),(1,I (N:Int)),(5,.ms hp.length 0 (N+1) 4096),(32,.ref (hp.length+1) 0)],q.2⟩) (fun q=>(∀ e∈q.1,e∈E)/\q.1.Nodup/\qz q.2 hp.length=some (.cells (fnM (N+1) fun k t=>Z5 (gwR (pwN n) q.1 k t)))/\qz q.2 (hp.length+1)=some (.it m clk ((q.1.map (·.born)).reverse) clk)/\Agr hp q.2/\q.2.length=hp.length+2) (fun q=>muE E ((q.1.map (·.born)).reverse)) ([],hp++[.cells (fnM (N+1) fun k t=>Z5 (gwR (pwN n) [] k t)),.it m clk [] clk]) ⟨fun e h=>(by cases h),.nil,Vo (i:=0),Vo (i:=1),⟨by simp,fun j hj=>J3 hj⟩,by simp⟩ rfl ?_;rintro ⟨L,G⟩ ⟨d1,d2,d3,d4,d5,d6⟩;simp only at d1 d2 d3 d4 d5 d6 ⊢;have lA:=qL d3;have lI:=qL d4;have hbG:=hb.agr d5;refine Jq fun K0 hK0=>?_;simp -implicitDefEqProofs (disch:=omega)[qb,qls];refine qDO d4 hbG.gr (fun h=>?_) (fun q hq hS=>?_)
 . subst hK0;have hperm : L.Perm E := qbv d2 (hb.gr.brs.imp fun h e => h (by rw [e])) fun a => ⟨d1 a,fun ha => by have:=h a ha;rw [List.mem_reverse,List.mem_map] at this;obtain ⟨x,hx,e⟩:=this;rw [<-WB hb.gr.brs (d1 x hx) ha e];exact hx⟩;have gt:=qbk (N:=N+1) (f:=fun k t=>Z5 (gwR (pwN n) L k t)) (n:=N) (i:=pwN n - 1) (by omega) (by omega);have lM:=Z9 (N:=N+1) (f:=fun k t=>Z5 (gwR (pwN n) L k t));have bA:pwN n - 1<4096:=by omega
   simp -implicitDefEqProofs (disch:=omega)[qb];refine qec (qhp ?_);simp -implicitDefEqProofs (disch:=omega)[qb];refine qrV (W64 (pwN n - 1)) (fun KK hKK=>qjY hbG hn hKK) ?_;simp -implicitDefEqProofs (disch:=omega)[qb,d3,QQ,gt,lM];refine ⟨by omega,by omega,qeb ?_⟩;simp -implicitDefEqProofs (disch:=omega)[qb];refine hK L G hperm d5 d6 fun i o hi ho=>?_;have:=qL ho;rcases (show i=hp.length\/i=hp.length+1 by omega) with e | e
   . subst e;rw [d3] at ho;cases ho;rfl
   subst e;rw [d4] at ho;cases ho;rfl
 have hk:=hE q hq;have nl:q∉L:=fun h=>hS (by rw [List.mem_reverse,List.mem_map];exact ⟨q,h,rfl⟩);obtain ⟨l0,l1,lq⟩:=hl q hq;have eS:(L.map (·.born)).reverse++[q.born]=((q::L).map (·.born)).reverse:=by simp
 have mu:=qkp hq hS;rw [eS] at mu;have lI2:hp.length+1<G.length:=lI;have d3':qz (G.set (hp.length+1) (.it m clk ((L.map (·.born)).reverse++[q.born]) clk)) hp.length=some (.cells (fnM (N+1) fun k t=>Z5 (gwR (pwN n) L k t))):=(qX (by omega)).trans d3;have d4':qz (G.set (hp.length+1) (.it m clk ((L.map (·.born)).reverse++[q.born]) clk)) (hp.length+1)=some (.it m clk ((L.map (·.born)).reverse++[q.born]) clk):=qS lI;have d5':Agr hp (G.set (hp.length+1) (.it m clk ((L.map (·.born)).reverse++[q.born]) clk)):=⟨by rw [List.length_set];exact d5.1,fun j hj=>(qX (by omega)).trans (d5.2 j hj)⟩;have d6':(G.set (hp.length+1) (.it m clk ((L.map (·.born)).reverse++[q.born]) clk)).length=hp.length+2:=by rw [List.length_set];exact d6
 simp -implicitDefEqProofs (disch:=omega)[qb,lI2,qlr];generalize G.set (hp.length+1) (HObj.it m clk ((L.map fun x=>x.born).reverse++[q.born]) clk)=G1 at d3' d4' d5' d6' ⊢;refine qeT d4' (hb.agr d5').gr hq ?_;rw [eS] at d4';simp -implicitDefEqProofs (disch:=omega)[qb];have e0:(fnM (N+1) fun k t=>Z5 (gwR (pwN n) L k t))=fnM (N+1) fun k t=>Z5 (gwL (pwN n) q L N 0 k t):=JV fun k t hk _=>by rw [qfs (by omega)]
 rw [e0] at d3';refine ZI (fun p:Nat × List HObj=>⟨[(0,.ref rc 0),(1,I (N:Int)),(5,.ms hp.length 0 (N+1) 4096),(7,W64 q.key),(8,q.v),(9,I ((p.1:Int) - 1)),(32,.ref (hp.length+1) 0)],p.2⟩) (fun p=>p.1<=N/\qz p.2 hp.length=some (.cells (fnM (N+1) fun k t=>Z5 (gwL (pwN n) q L p.1 0 k t)))/\qz p.2 (hp.length+1)=some (.it m clk (((q::L).map (·.born)).reverse) clk)/\Agr hp p.2/\p.2.length=hp.length+2) (fun p=>p.1) (N,G1) ⟨Nat.le_refl _,d3',d4',d5',d6'⟩ rfl ?_;rintro ⟨j,G2⟩ ⟨j1,j2,j3,j4,j5⟩;simp only at j1 j2 j3 j4 j5 ⊢;refine Jq fun K1 hK1=>?_;simp -implicitDefEqProofs (disch:=omega)[qb];refine Zk (fun hc=>?_) (fun hc=>?_)
 . have j0 : 0 < j := by simp at hc; omega
   have jx:(j:Int) - 1 - 1=((j - 1:Nat):Int) - 1:=by omega
   have jy:(j:Int) - 1=((j - 1:Nat):Int):=by omega
   simp -implicitDefEqProofs (disch:=omega)[qb];refine ZI (fun p:Nat × List HObj=>⟨[(0,.ref rc 0),(1,I (N:Int)),(5,.ms hp.length 0 (N+1) 4096),(7,W64 q.key),(8,q.v),(9,I ((j:Int) - 1)),(10,W64 p.1),(32,.ref (hp.length+1) 0)],p.2⟩) (fun p=>p.1<=pwN n/\qz p.2 hp.length=some (.cells (fnM (N+1) fun k t=>Z5 (gwL (pwN n) q L j p.1 k t)))/\qz p.2 (hp.length+1)=some (.it m clk (((q::L).map (·.born)).reverse) clk)/\Agr hp p.2/\p.2.length=hp.length+2) (fun p=>pwN n - p.1) (0,G2) ⟨Nat.zero_le _,j2,j3,j4,j5⟩ rfl ?_;rintro ⟨x,G3⟩ ⟨x1,x2,x3,x4,x5⟩;simp only at x1 x2 x3 x4 x5 ⊢;have lA3:=qL x2;have hb3:=hb.agr x4;refine Jq fun K2 hK2=>?_;simp -implicitDefEqProofs (disch:=omega)[qb];refine qjY hb3 hn ?_;simp -implicitDefEqProofs (disch:=omega)[qb,-qlE,qvh];refine Zk (fun hc=>?_) (fun hc=>?_)
   . have hx : x < pwN n := by simp at hc; omega
     have gx:=qbk (N:=N+1) (f:=fun k t=>Z5 (gwL (pwN n) q L j x k t)) (n:=j - 1) (i:=x) (by omega) (by omega);have lM:=Z9 (N:=N+1) (f:=fun k t=>Z5 (gwL (pwN n) q L j x k t));simp only [qmz j0] at gx;have hor:orN x q.key<pwN n:=Nat.or_lt_two_pow hx hk;have gy:=qbk (N:=N+1) (f:=fun k t=>Z5 (gwL (pwN n) q L j x k t)) (n:=j) (i:=orN x q.key) (by omega) (by omega);rw [jy];simp -implicitDefEqProofs (disch:=omega)[qb,x2,QQ,gx,lM];refine ⟨by omega,by omega,?_⟩;have jz:((j - 1:Nat):Int)+1=(j:Int):=by omega
     have kl:=qez (x:=gwR (pwN n) L (j - 1) x);have kl2:=qez (x:=gwL (pwN n) q L j x j (orN x q.key));have kz:=qeA (x:=gwR (pwN n) L (j - 1) x);have kc:=qhI (x:=gwL (pwN n) q L j x j (orN x q.key)) (y:=gwR (pwN n) L (j - 1) x) l0;have st:=W3 (M:=pwN n) (e:=q) (L:=L) (j:=j) (x:=x) (k:=j) (b:=orN x q.key) j0;rw [if_pos ⟨rfl,rfl⟩] at st;rw [<-st] at kc;have oth:∀ k t,¬ (k=j/\t=orN x q.key)->gwL (pwN n) q L j (x+1) k t=gwL (pwN n) q L j x k t:=fun k t h=>by rw [W3 j0,if_neg h];rfl
     generalize Z5 (gwR (pwN n) L (j - 1) x)=kk at *;refine Zk (fun hc=>?_) (fun hc=>?_)
     . have k0 : 0 < kk := by simpa using hc
       have pl:kk*q.len<=1099511627777*10000:=Nat.mul_le_mul kl l1;have pl2:((kk:Int)*(q.len:Int))=((kk*q.len:Nat):Int):=by simp
       have cw:=fun v=>qe1 (N:=N+1) (f:=fun k t=>Z5 (gwL (pwN n) q L j x k t)) (n:=j) (i:=orN x q.key) (v:=v) (by omega) (by omega);generalize hgl:Z5 (gwL (pwN n) q L j x j (orN x q.key))=vv at *;simp -implicitDefEqProofs (disch:=omega)[qb,jz,-qyV,qCp,x2,QQ,gy,lM,XB,lA3,lq];have em:min (1099511627777:Int) ((vv:Int)+(kk:Int)*(q.len:Int))=((Z5 (gwL (pwN n) q L j (x+1) j (orN x q.key)):Nat):Int):=by rw [<-kc,pl2];omega
       have hj4:=Nat.mul_le_mul_right 4096 (show j+1<=N+1 by omega);have wx:IntKind.u64.wrap ((x:Int)+1)=((x+1:Nat):Int):=by rw [show ((x:Int)+1)=((x+1:Nat):Int) by omega,qaz (by omega)]
       refine ⟨by omega,by omega,by omega,by omega,by omega,?_⟩;rw [em,cw,wx,hK2]
       have gset : qz (G3.set hp.length (.cells (fnM (N + 1) (qoq (fun k t => Z5 (gwL (pwN n) q L j x k t)) j (orN x q.key) (Z5 (gwL (pwN n) q L j (x + 1) j (orN x q.key))))))) hp.length = some (.cells (fnM (N + 1) fun k t => Z5 (gwL (pwN n) q L j (x + 1) k t))) := by
        rw [qS lA3];congr 2;refine JV fun k t _ _=>?_;unfold qoq;by_cases e:k=j/\t=orN x q.key
        . rw [if_pos e,e.1,e.2]
        rw [if_neg e,oth k t e]
       exact YM (x+1,G3.set hp.length (.cells (fnM (N+1) (qoq (fun k t=>Z5 (gwL (pwN n) q L j x k t)) j (orN x q.key) (Z5 (gwL (pwN n) q L j (x+1) j (orN x q.key))))))) ⟨by simp only;omega,gset,(qX (by omega)).trans x3,⟨by rw [List.length_set];exact x4.1,fun i hi=>(qX (by omega)).trans (x4.2 i hi)⟩,by rw [List.length_set];exact x5⟩ (by simp only;omega) rfl (by simp [jy])
     have k0:kk=0:=by simp at hc;omega
     have g0:=kz.1 k0;simp -implicitDefEqProofs (disch:=omega)[qb,-qlD,qvg];rw [hK2];refine YM (x+1,G3) ⟨by simp only;omega,?_,x3,x4,x5⟩ (by simp only;omega) rfl (by simp [jy]);simp only;rw [x2];congr 2;refine JV fun k t _ _=>?_;rw [W3 j0,g0];simp
   have hx:x=pwN n:=by simp at hc;omega
   subst hx;subst hK2;simp -implicitDefEqProofs (disch:=omega)[qb];rw [hK1];refine J1 (j - 1,G3) ⟨by simp only;omega,?_,x3,x4,x5⟩ (by simp only;omega) (by simp only [jx]);simp only;rw [x2];congr 2;exact JV fun k t _ _=>by rw [qig j0]
 have j0:j=0:=by simp at hc;omega
 subst j0;subst hK1;simp -implicitDefEqProofs (disch:=omega)[qb];rw [hK0];refine YM (q::L,G2) ⟨fun e he=>?_,List.nodup_cons.2 ⟨nl,d2⟩,?_,j3,j4,j5⟩ mu rfl (by simp)
 . rcases List.mem_cons.1 he with rfl | he
   . exact hq
   exact d1 e he
 simp only;rw [j2];congr 2;exact JV fun k t _ _=>by rw [qmy]
end
def gw2 (M : Nat) : List (Nat × Nat) -> Nat -> Nat -> Nat
 | [],n,b=>if n=0/\b=0 then 1 else 0
 | _::L,0,b=>gw2 M L 0 b
 | e::L,n+1,b=>gw2 M L (n+1) b+e.2*sK (fun c=>if orN c e.1=b then gw2 M L n c else 0) M
theorem W4 (M : Nat) : ∀ (L : List GE) (n b : Nat),gwR M L n b = gw2 M (L.map fun e => (e.key,e.len)) n b
 | [],n,b=>rfl
 | e::L,0,b=>W4 M L 0 b
 | e::L,n+1,b=>by
   show gwR M L (n+1) b+e.len*sK (fun c=>if orN c e.key=b then gwR M L n c else 0) M=gw2 M _ (n+1) b+e.len*sK (fun c=>if orN c e.key=b then gw2 M _ n c else 0) M
   rw [W4 M L (n+1) b];congr 3;funext c;rw [W4 M L n c]
theorem qgr {f g : Nat -> Nat} : ∀ {M : Nat},(∀ c,c < M -> f c = g c) -> sK f M = sK g M
 | 0,_=>rfl
 | M+1,h=>by show sK f M+f M=sK g M+g M;rw [qgr fun c hc=>h c (by omega),h M (by omega)]
theorem qgt : ∀ {M : Nat},sK (fun _ => 0) M = 0
 | 0=>rfl
 | M+1=>by show sK _ M+0=0;rw [qgt]
theorem qgq {f g : Nat -> Nat} : ∀ {M : Nat},sK (fun c => f c + g c) M = sK f M + sK g M
 | 0=>rfl
 | M+1=>by show sK (fun c=>f c+g c) M+(f M+g M)=(sK f M+f M)+(sK g M+g M);rw [qgq];omega
theorem qkY {k : Nat} {f : Nat -> Nat} : ∀ {M : Nat},sK (fun c => k * f c) M = k * sK f M
 | 0=>rfl
 | M+1=>by show sK (fun c=>k*f c) M+k*f M=k*(sK f M+f M);rw [qkY,Nat.mul_add]
theorem qgs {h : Nat -> Nat} {c0 : Nat} : ∀ {M : Nat},sK (fun c => if c0 = c then h c else 0) M = if c0 < M then h c0 else 0
 | 0=>by simp [sK]
 | M+1=>by
   show sK _ M+(if c0=M then h M else 0)=_
   rw [qgs];by_cases e:c0=M
   . subst e;simp
   rw [if_neg e];by_cases h1:c0<M
   . rw [if_pos h1,if_pos (by omega)];rfl
   rw [if_neg h1,if_neg (by omega)]
theorem qkZ {P : Nat -> Prop} [DecidablePred P] {f g : Nat -> Nat} {M : Nat} : ∀ {D : Nat},(∀ d,d < D -> f d < M) -> sK (fun c => if P c then sK (fun d => if f d = c then g d else 0) D else 0) M = sK (fun d => if P (f d) then g d else 0) D
 | 0,_=>by
   refine (qgr fun c _=>?_).trans qgt;show (if P c then 0 else 0)=0
   split <;> rfl
 | D+1,h=>by
   have e : (fun c => if P c then sK (fun d => if f d = c then g d else 0) (D + 1) else 0) = fun c => (if P c then sK (fun d => if f d = c then g d else 0) D else 0) + (if f D = c then (if P c then g D else 0) else 0) := by
    funext c;show (if P c then sK _ D+(if f D=c then g D else 0) else 0)=_
    by_cases h1:P c <;> by_cases h2:f D=c <;> simp [h1,h2]
   rw [e,qgq,qkZ fun d hd=>h d (by omega),qgs,if_pos (h D (by omega))];rfl
theorem qif {k : Nat} {x y : Nat × Nat} {L : List (Nat × Nat)} (hx : x.1 < 2 ^ k) (hy : y.1 < 2 ^ k) : ∀ n b,gw2 (2 ^ k) (x :: y :: L) n b = gw2 (2 ^ k) (y :: x :: L) n b
 | 0,b=>rfl
 | 1,b=>by
   show (gw2 _ L 1 b+y.2*sK (fun c=>if orN c y.1=b then gw2 _ L 0 c else 0) _)+x.2*sK (fun c=>if orN c x.1=b then gw2 _ L 0 c else 0) _=(gw2 _ L 1 b+x.2*sK (fun c=>if orN c x.1=b then gw2 _ L 0 c else 0) _)+y.2*sK (fun c=>if orN c y.1=b then gw2 _ L 0 c else 0) _
   omega
 | n+2,b=>by
   have key : ∀ x y : Nat × Nat,y.1 < 2 ^ k -> sK (fun c => if orN c x.1 = b then gw2 (2 ^ k) (y :: L) (n + 1) c else 0) (2 ^ k) = sK (fun c => if orN c x.1 = b then gw2 (2 ^ k) L (n + 1) c else 0) (2 ^ k) + y.2 * sK (fun d => if orN (orN d y.1) x.1 = b then gw2 (2 ^ k) L n d else 0) (2 ^ k) := fun x y hy => by
    rw [<-qkZ (P:=fun c=>orN c x.1=b) (f:=fun d=>orN d y.1) (M:=2 ^ k) (fun d hd=>Nat.or_lt_two_pow hd hy),<-qkY,<-qgq];refine qgr fun c _=>?_;by_cases h:orN c x.1=b
    . rw [if_pos h,if_pos h,if_pos h];rfl
    rw [if_neg h,if_neg h,if_neg h];rfl
   show (gw2 _ L (n+2) b+y.2*sK (fun c=>if orN c y.1=b then gw2 _ L (n+1) c else 0) _)+x.2*sK (fun c=>if orN c x.1=b then gw2 _ (y::L) (n+1) c else 0) _=(gw2 _ L (n+2) b+x.2*sK (fun c=>if orN c x.1=b then gw2 _ L (n+1) c else 0) _)+y.2*sK (fun c=>if orN c y.1=b then gw2 _ (x::L) (n+1) c else 0) _
   rw [key x y hy,key y x hx]
   have e : (fun d => if orN (orN d y.1) x.1 = b then gw2 (2 ^ k) L n d else 0) = fun d => if orN (orN d x.1) y.1 = b then gw2 (2 ^ k) L n d else 0 := by
    funext d;have:orN (orN d y.1) x.1=orN (orN d x.1) y.1:=by unfold orN;rw [Nat.or_assoc,Nat.or_comm y.1,<-Nat.or_assoc]
    rw [this]
   rw [e,Nat.mul_add,Nat.mul_add,<-Nat.mul_assoc,<-Nat.mul_assoc,Nat.mul_comm x.2 y.2];omega
theorem qie {k:Nat} {L L':List (Nat × Nat)} (h:L.Perm L'):(∀ x∈L,x.1<2 ^ k)->∀ n b,gw2 (2 ^ k) L n b=gw2 (2 ^ k) L' n b:=by
 induction h with
 | nil=>intro _ n b;rfl
 | cons x h ih =>
   rename_i l l';intro hk n b;have ih:=ih fun y hy=>hk y (by simp [hy]);cases n with
   | zero=>exact ih 0 b
   | succ n =>
     show gw2 _ l (n+1) b+x.2*sK (fun c=>if orN c x.1=b then gw2 _ l n c else 0) _=gw2 _ l' (n+1) b+x.2*sK (fun c=>if orN c x.1=b then gw2 _ l' n c else 0) _
     rw [ih (n+1) b];congr 3;funext c;rw [ih n c]
 | swap x y l=>intro hk n b;exact qif (hk y (by simp)) (hk x (by simp)) n b
 | trans h1 h2 ih1 ih2=>intro hk n b;rw [ih1 hk n b,ih2 (fun x hx=>hk x (h1.mem_iff.2 hx)) n b]
def qpE : AV -> Option Nat
 | .sl _ n _=>some n
 | .ms _ _ n _=>some n
 | _=>none
def klE (e:Value × AV):Option (Nat × Nat):=match qiH e.1,qpE e.2 with
 | some n,some l=>some (n,l)
 | _,_=>none
def klP (es : List Ent) (k : List (Nat × Nat) -> Prop) : Prop := List.rec (motive := fun _ => (List (Nat × Nat) -> Prop) -> Prop) (fun k => k []) (fun e _ ih k => match klE (kvE e) with
 | some (n,l)=>fnP n fun n=>fnP l fun l=>ih fun t=>k ((n,l)::t)
 | none=>False) es k
theorem qki : ∀ {es : List Ent} {k : List (Nat × Nat) -> Prop},klP es k -> ∃ l,(es.map kvE).map klE = l.map some /\ k l
 | [],k,h=>⟨[],rfl,h⟩
 | e::es, k, h=>by
   have h : (match klE (kvE e) with
    | some (n,l)=>fnP n fun n=>fnP l fun l=>klP es fun t=>k ((n,l)::t)
    | none=>False):=h
   split at h
   . rename_i n l hnl;rw [qo,qo] at h;obtain ⟨t,h1,h2⟩:=qki h;exact ⟨(n,l)::t,by rw [List.map_cons,List.map_cons,List.map_cons,hnl,h1],h2⟩
   exact h.elim
def qys (xs:List AV) (hp:List HObj) (k:AV->List HObj->Prop):Prop:=match xs with
 | [.ref rc 0,.v (.int .i64 (.ofNat N))]=>Jl hp rc fun cells=>match cells with
   | [_,c1,.mp m] => (match qpE c1 with
     | some n => YN hp m fun o => (match o with
       | .mp es kk=>okP (Nat.beq kk 0) (klP es fun l=>okP (Nat.ble n 12&&Nat.ble N 1000&&l.all fun p=>Nat.blt p.1 (2 ^ n)&&Nat.blt 0 p.2&&Nat.ble p.2 10000) (fnP (Z5 (gw2 (2 ^ n) l N (2 ^ n - 1))) fun v=>Z4 hp .gone fun _ hp=>Z4 hp .gone fun _ hp=>k (.v (.int .i64 (.ofNat v))) hp))
       | _=>False)
     | none=>False)
   | _=>False
 | _=>False
theorem HR.app2 {Z:ZZ} {hp hq G:List HObj} (h:HR Z hp hq) (ha:Agr hq G) (hl:G.length=hq.length+2) (hm:∀ i o,hq.length<=i->qz G i=some o->nmP o=true):HR Z (hp++[.gone]++[.gone]) G:=by
 refine ⟨by rw [hl,h.len];simp,fun i hi=>h.new i (by simp at hi;omega),fun i o o' h1 h2=>?_⟩;rcases Nat.lt_or_ge i hp.length with hlt | hge
 . rw [List.append_assoc,List.getElem?_append_left hlt] at h1;have:=ha.2 i (by rw [h.len];exact hlt);rw [qk,qk,h2] at this;exact h.obj i o o' h1 this.symm
 have e:o = .gone:=by
  rw [List.append_assoc,List.getElem?_append_right hge] at h1;generalize i - hp.length=j at h1
  match j,h1 with
  | 0,h1=>simp at h1;exact h1.symm
  | 1,h1=>simp at h1;exact h1.symm
  | j+2,h1=>simp at h1
 subst e;rw [h.new i hge];exact hm i o' (by rw [h.len];exact hge) (by rw [qk];exact h2)
theorem qoy:qdO Tryz.prog 609 qys:=by
 intro xs hp k h;unfold qys at h;split at h
 . rename_i rc N;obtain ⟨cells,hc,h⟩:=zp h;split at h
   . rename_i c0 c1 m;split at h
     . rename_i n hlen;obtain ⟨o,ho,h⟩:=zr h;split at h
       . rename_i es kk;obtain ⟨hk0,h⟩:=qj h;obtain ⟨l,hl,h⟩:=qki h;obtain ⟨hb,h⟩:=qj h;simp only [Bool.and_eq_true,List.all_eq_true] at hb;obtain ⟨⟨hn,hN⟩,hall⟩:=hb;have hn:=Nat.le_of_ble_eq_true hn;have hN:=Nat.le_of_ble_eq_true hN;rw [qo] at h;have h:=zj (zj h);have ew:qc (qc hp [(hp.length,HObj.gone)]) [((qc hp [(hp.length,HObj.gone)]).length,HObj.gone)]=hp++[.gone]++[.gone]:=by simp [qc,qn]
         rw [ew] at h;refine ⟨_,_,fun Z hq hr=>?_,h⟩;obtain ⟨es',clk,hm',hs,_⟩:=hr.mp (show hpf hp m=some (.mp es kk) from ho);have ent:∀ e∈es',∃ x∈l,klE (kvE e)=some x:=fun e he=>by have h1:kvE e∈es.map kvE:=hs.perm.mem_iff.2 (List.mem_map.2 ⟨e,he,rfl⟩);have h2:klE (kvE e)∈(es.map kvE).map klE:=List.mem_map.2 ⟨_,h1,rfl⟩;rw [hl] at h2;obtain ⟨x,h3,h4⟩:=List.mem_map.1 h2;exact ⟨x,h3,h4.symm⟩
         have kl : ∀ e ∈ es',∀ x,klE (kvE e) = some x -> qiH e.1 = some x.1 /\ qpE e.2.2 = some x.2 := fun e _ x hx => by
          unfold klE at hx;split at hx
          . rename_i a b h1 h2;cases hx;exact ⟨h1,h2⟩
          cases hx
         have hkey:∀ e∈es',∃ n,e.1=qkh n:=fun e he=>by obtain ⟨x,_,h2⟩:=ent e he;exact ⟨x.1,qfQ (kl e he x h2).1⟩
         have hE:=qfj hkey
         have glen : ∀ e ∈ es',∀ x,klE (kvE e) = some x -> ((VJ e).key,(VJ e).len) = x := fun e he x hx => by
          obtain ⟨h1,h2⟩:=kl e he x hx;have a1:(VJ e).key=x.1:=by unfold VJ;rw [h1];rfl
          have a2:(VJ e).len=x.2:=by unfold qpE at h2;unfold VJ GE.len;split at h2 <;> rename_i e3 <;> first | (cases h2;done) | (simp only [e3];cases h2;rfl)
          rw [a1,a2]
         have hperm : ((es'.map VJ).map fun e => (e.key,e.len)).Perm l := by
          have h1:=(hs.perm.map klE);rw [hl] at h1;have h2:(es'.map kvE).map klE=((es'.map VJ).map fun e=>(e.key,e.len)).map some:=by rw [List.map_map,List.map_map,List.map_map];refine List.map_congr_left fun e he=>?_;obtain ⟨x,_,hx⟩:=ent e he;show klE (kvE e)=some ((VJ e).key,(VJ e).len);rw [glen e he x hx,hx]
          rw [h2] at h1;have fs:∀ z:List (Nat × Nat),(z.map some).filterMap id=z:=fun z=>by rw [List.filterMap_map,show (id ∘ some:Nat × Nat->_)=some from rfl,List.filterMap_some]
          have h3:=h1.symm.filterMap id;rwa [fs,fs] at h3
         have gr:GrH hq m (es'.map VJ) clk:=by
          refine ⟨?_,?_,fun e he=>?_⟩
          . rw [qk];unfold mpG;rw [hE];exact hm'
          . rw [List.pairwise_map];have:=hs.born;rw [List.Nodup,List.pairwise_map] at this;exact this
          obtain ⟨e',h1,rfl⟩:=List.mem_map.1 he;exact hs.clk e' h1
         have bd:BdC hq rc m (es'.map VJ) clk n:=by refine ⟨⟨c0,c1,by rw [qk];exact (hr.cel hc).1,fun K=>?_⟩,gr⟩;unfold qpE at hlen;split at hlen <;> first | (cases hlen;done) | (cases hlen;rfl)
         have each:∀ e∈es'.map VJ,∃ e'∈es',∃ x∈l,VJ e'=e/\klE (kvE e')=some x:=fun e he=>by obtain ⟨e',h1,rfl⟩:=List.mem_map.1 he;obtain ⟨x,h2,h3⟩:=ent e' h1;exact ⟨e',h1,x,h2,rfl,h3⟩
         refine qhM bd hn (fun e he=>?_) (fun e he=>?_) hN fun L G hL ha hlG hmG=>⟨?_,hr.app2 ha hlG hmG⟩
         . obtain ⟨e',h1,x,h2,rfl,h3⟩:=each e he;have h4:=hall x h2;rw [show (VJ e').key=x.1 from congrArg Prod.fst (glen e' h1 x h3)];exact Nat.le_of_ble_eq_true h4.1.1
         . obtain ⟨e',h1,x,h2,rfl,h3⟩:=each e he;have h4:=hall x h2;have h5:(VJ e').len=x.2:=congrArg Prod.snd (glen e' h1 x h3);refine ⟨by rw [h5];exact Nat.le_of_ble_eq_true h4.1.2,by rw [h5];exact Nat.le_of_ble_eq_true h4.2,fun K=>?_⟩;have h6:=(kl e' h1 x h3).2;rw [h5];show qlx e'.2.2 K=_;unfold qpE at h6;split at h6 <;> rename_i e3 <;> first | (cases h6;done) | (rw [e3];cases h6;rfl)
         show I (Z5 (gwR (pwN n) L N (pwN n - 1)):Nat)=_;rw [W4,show pwN n=2 ^ n from rfl,qie ((hL.map _).trans hperm) fun x hx=>?_]
         . rfl
         have:=((hL.map fun e:GE=>(e.key,e.len)).trans hperm).mem_iff.1 hx;exact Nat.le_of_ble_eq_true (hall x this).1.1
       exact h.elim
     exact h.elim
   exact h.elim
 exact h.elim
def qEs:Kn := .law qys
theorem qmZ:qdO Tryz.prog 609 qys:=qoy
end Go.AM
