/-
  Px34: Cv5. Own work.
-/
import Derived.Test.YtlahcgdnieenpaaGreatDoorPx4
import Derived.Test.YtlahcgdnieenpaaGreatDoorRows

set_option linter.all false
set_option maxRecDepth 100000
namespace Go.Proofs.YtlahcgdnieenpaaGreatDoor.Facts
open Go Go.AM
def LC:List Nat:=[4,11,36,66,112,157,205,273,340,398,442,488,567,568,500,489,490,569,643,680,573,644,58,109,681,682,705,683,706,576,645,578,582,653,647,646,684,648,570,491,571,572,492,574,575,493,577,494,579,649,651,650,495,580,585,654,584,652,496,581,146,194,259,260,199,262,268,261,263,337,264,333,334,265,338,339,397,266,267,269,270,141,197,497,498,583,98,153,499,501,502,443,503,14,38,82,139,140,196,151,202,83,39,84,142,144,85,143,86,87,88,19,43,505,504,90,586,588,587,655,656,685,686,707,91,506,507,508,509,510,589,657,15,41,40,89,511,590,512,591,658,659,660,592,661,513,593,662,687,663,594,664,688,665,514,515,444,516,595,528,518,517,596,666,689,29,59,690,708,616,667,600,669,598,668,692,691,597,599,204,271,272,519,520,601,602,521,603,670,604,671,610,694,711,693,709,715,710,716,718,724,730,719,727,720,721,728,729,731,722,723,725,726,605,672,695,696,712,697,698,713,714,717,699,700,701,702,606,608,642,607,522,609,523,612,611,673,613,524,614,615,674,703,704,525,526,7,30,527,529,530,531,617,675,618,619,399,445,460,446,532,620,546,633,533,622,634,677,621,623,676,447,534,448,535,542,241,536,537,449,450,538,624,626,541,540,625,451,539,543,627,630,629,628,452,453,454,544,631,632,455,545,456,457,547,458,548,635,549,636,550,637,678,459,461,462,463,341,400,464,410,401,402,46,97,148,149,200,150,201,52,105,152,203,99,465,403,466,404,154,51,94,147,93,145,198,53,22,47,100,101,155,103,102,405,406,467,407,468,408,409,469,24,411,412,274,342,413,343,414,415,471,551,420,479,552,638,472,475,553,554,555,476,556,368,473,474,470,423,344,345,346,347,416,349,348,417,419,477,478,350,418,351,421,352,353,422,480,481,354,424,482,425,355,356,206,275,357,289,276,277,358,426,483,372,434,484,557,427,359,278,360,365,279,361,363,362,429,428,430,280,364,281,366,367,282,283,369,284,285,370,371,373,435,486,558,564,559,639,560,561,640,641,679,562,563,565,566,436,437,487,431,485,432,433,286,287,374,438,288,375,378,439,377,376,290,291,292,379,293,380,158,207,294,295,208,296,303,298,381,306,300,382,301,383,384,309,390,387,388,441,304,307,297,305,385,386,440,209,299,302,210,211,308,389,212,213,214,310,215,311,391,312,392,313,216,217,314,218,219,315,316,220,317,393,318,221,222,223,113,159,160,224,319,238,328,320,394,225,321,161,226,162,227,228,229,60,110,163,230,232,231,322,236,323,324,234,325,326,327,164,165,233,166,235,237,167,239,240,168,242,169,170,171,172,243,329,330,244,67,114,173,115,174,179,181,247,180,116,175,178,245,176,117,118,119,177,246,331,395,120,121,182,184,185,183,122,186,248,249,123,187,124,125,188,189,190,126,191,192,250,127,37,68,128,69,70,9,31,44,92,65,111,56,61,62,32,63,64,33,34,35,28,57,20,6,26,55,106,107,108,156,71,129,193,251,252,332,253,254,335,336,396,255,256,257,258,130,195,72,131,73,133,134,135,132,75,74,76,136,77,137,78,138,79,80,81,12,13,16,17,18,42,10]
theorem GB {α β:Type} {f g:α->Option β}:∀ {l:List α},(∀ x∈l,f x=g x)->l.filterMap f=l.filterMap g
 | [],_=>rfl
 | a::l,h=>by rw [qnI,qnI,h a List.mem_cons_self,GB fun x u=>h x (List.mem_cons_of_mem _ u)]
theorem Wq:Tryz.prog.closure 4=LC:=TN (by kernel_rfl)
theorem rng:∀ g∈LC,2<=g/\g<732:=fun g h=>by have:=LL.1 (show LC.all (fun g=>Nat.ble 2 g&&Nat.blt g 732)=true by kernel_rfl) g h;rw [qd] at this;exact ⟨xr this.1,zJ this.2⟩
theorem c9:(Rows.topPermutedStrokesRow.inPlace==Tryz.prog.inPlace 4)=true:=by
 unfold Program.inPlace;rw [Wq,GB fun g h=>qib (rng g h).1 (rng g h).2]
 kernel_rfl
theorem unf:Tryz.prog.unfollowed 4=true:=by unfold Program.unfollowed;rw [Wq];exact qnG.2 ⟨109,List.contains_iff_mem.1 (by kernel_rfl),by kernel_rfl⟩
theorem c10:(Rows.topPermutedStrokesRow.unfollowed==Tryz.prog.unfollowed 4)=true:=by rw [unf];kernel_rfl
theorem c11:(Rows.topPermutedStrokesRow.recurses==Tryz.prog.recurses 4)=true:=by
 have e:Tryz.prog.recurses 4=true:=by unfold Program.recurses;rw [unf,Bool.true_or]
 rw [e];rfl
theorem c12:(Rows.topPermutedStrokesRow.named==Tryz.prog.varsNamed 4)=true:=by
 unfold Program.varsNamed
 have e:∀ {L:List Nat},(∀ g∈L,g<753)->L.flatMap (fun g=>((Tryz.prog.funcs[g]?).bind (·.body)).elim [] Code.globalsNamed)=L.flatMap gvT:=fun {L} h=>by
  induction L with
  | nil=>rfl
  | cons a L i=>rw [qmH,qmH,i fun g u=>h g (List.mem_cons_of_mem _ u),qh3 (h a List.mem_cons_self)]
 have E:LC.filterMap (fun g=>(Tryz.prog.funcs[g]?).bind fun f=>if f.body.isNone then entryReads.lookup f.name else none)=LC.filterMap fun _=>(none:Option String):=GB fun g u=>qhW (rng g u).1 (rng g u).2
 rw [Wq,e (L:=LC) fun g u=>Nat.lt_trans (rng g u).2 (by decide),E];show (Rows.topPermutedStrokesRow.named==((LC.flatMap gvT).eraseDups.filterMap (fun g=>(Tryz.prog.globals[g]?).map (·.name))++LC.filterMap fun _=>(none:Option String)).eraseDups)=true
 kernel_rfl
theorem t5 (h:Tryz.prog.funcNamed Rows.topPermutedStrokesRow.func=some 4):false=Rows.topPermutedStrokesRow.goesBy Tryz.prog:=by unfold OpenClaim.goesBy Program.goesAt Program.goesFrom;rw [h,Option.any_some,yH,show Rows.topPermutedStrokesRow.start = .entering from rfl];rfl
end Go.Proofs.YtlahcgdnieenpaaGreatDoor.Facts
