/-
  Kn6: texts joined: FmNS Hp2 Hp3 Hp4 Hp5 Hc1 Hc2 Hc3 Hp6 Hp7 Ly1 Lb1 Lb2 Ly2 Lb3 Hc4 Lb4 Hc5 Ns33 Ns34 Ns35 Hc6 Nt27 Hc7 Hc8 Hp8 Hp9 Hd1 Hd2 Hd3 Hs1 Hs2 Hs3 Hx1. Own work.
-/
import Derived.Test.YtopelhnmgjkneaaGreatDoorKn5
import Derived.Test.YtopelhnmgjkneaaGreatDoorProg
import Derived.Shelf.Strings.Search2
import Derived.Shelf.Strings.Count
import Derived.Shelf.Strings.SplitCore
import Derived.Shelf.GgClosure.StringsIndexFuncTop
import Derived.Lib.DecodeN
import Derived.Lib.IndexBytes
import Derived.Lib.CountLaws
import Derived.Lib.SplitLaws
import Derived.Shelf.Strconv.Itoa4
import Derived.Shelf.Strconv.ParseIntPublic10
set_option linter.all false
set_option linter.unusedSimpArgs false
set_option linter.unusedVariables false
set_option linter.unusedSectionVars false

set_option maxRecDepth 100000
set_option maxHeartbeats 0
namespace Go.AM
open Go.RowKit Go.Proofs
def Vw:AC:=Subtype.val (p:=fun g=>qo Tryz.prog Tryz.f64 [4]=some g) (by refine ⟨?g,?h⟩;case h=>conv=>lhs;reduce)
theorem Xf:qo Tryz.prog Tryz.f64 [4]=some Vw:=by kernel_rfl
def qbF:AC:=(.seq (.rgn [⟨none,[.mv 4 (.k (B false))]⟩] [0,1]) (.seq (.seq (.rgn [⟨none,[.mv 6 (.t 0),.len 7 (.t 6),.mv 8 (.t 1),.len 9 (.t 8),.bin 10 .neq (.t 7) (.t 9)]⟩] [0,1,10]) (.cond (.t 10) (.seq (.rgn [⟨none,[.mv 4 (.k (B false))]⟩] [4]) .ret) .skip)) (.seq (.seq (.rgn [⟨none,[.mv 11 (.t 0),.len 12 (.t 11),.mv 13 (.k (I 0))]⟩] [0,1,12,13]) (.block 0 (.loop (.seq (.rgn [⟨none,[.bin 14 .lss (.t 13) (.t 12)]⟩] [0,1,12,13,14]) (.seq (.cond (.t 14) .skip (.exit 0)) (.seq (.block 1 (.seq (.rgn [⟨none,[.mv 15 (.t 13),.mv 5 (.t 15)]⟩] [0,1,5,12,13]) (.seq (.drw [⟨none,[.mv 16 (.t 0),.mv 17 (.t 5),.ia 18 3 (.t 16) (.t 17),.ld 19 true 3 (.t 18),.mv 20 (.t 1),.mv 21 (.t 5),.ia 22 3 (.t 20) (.t 21),.ld 23 true 3 (.t 22),.eqk 24 true (true,[.int,.str,.int]) (.t 19) (.t 23)]⟩] [(3,7)] [0,1,12,13,24]) (.cond (.t 24) (.seq (.rgn [⟨none,[.mv 4 (.k (B false))]⟩] [4]) .ret) .skip)))) (.rgn [⟨none,[.bin 25 .add (.t 13) (.k (I 1)),.mv 13 (.t 25)]⟩] [0,1,12,13]))))))) (.seq (.rgn [⟨none,[.mv 4 (.k (B true))]⟩] [4]) .ret))))
theorem qcS:qo Tryz.prog Tryz.f65 [4]=some qbF:=by kernel_rfl
def qea:AC:=Subtype.val (p:=fun g=>qo Tryz.prog Tryz.f100 [4]=some g) (by refine ⟨?g,?h⟩;case h=>conv=>lhs;reduce)
theorem qeV:qo Tryz.prog Tryz.f100 [4]=some qea:=by kernel_rfl
def qdR:AC:=Subtype.val (p:=fun g=>qo Tryz.prog Tryz.f104 [4]=some g) (by refine ⟨?g,?h⟩;case h=>conv=>lhs;reduce)
theorem qez:qo Tryz.prog Tryz.f104 [4]=some qdR:=by kernel_rfl
def qg4:AC:=Subtype.val (p:=fun g=>qo Tryz.prog Tryz.f108 [2]=some g) (by refine ⟨?g,?h⟩;case h=>conv=>lhs;reduce)
theorem qgb:qo Tryz.prog Tryz.f108 [2]=some qg4:=by kernel_rfl
def Jn:AC:=Subtype.val (p:=fun g=>qo Tryz.prog Tryz.f123 [4]=some g) (by refine ⟨?g,?h⟩;case h=>conv=>lhs;reduce)
theorem YL:qo Tryz.prog Tryz.f123 [4]=some Jn:=by kernel_rfl
def qd8:AC:=Subtype.val (p:=fun g=>qo Tryz.prog Tryz.f135 [2]=some g) (by refine ⟨?g,?h⟩;case h=>conv=>lhs;reduce)
theorem qeT:qo Tryz.prog Tryz.f135 [2]=some qd8:=by kernel_rfl
def qjg:AC:=Subtype.val (p:=fun g=>qo Tryz.prog Tryz.f136 [4,5,6]=some g) (by refine ⟨?g,?h⟩;case h=>conv=>lhs;reduce)
theorem qio:qo Tryz.prog Tryz.f136 [4,5,6]=some qjg:=by kernel_rfl
def Vs:AC:=Subtype.val (p:=fun g=>qo Tryz.prog Tryz.f141 [4,5]=some g) (by refine ⟨?g,?h⟩;case h=>conv=>lhs;reduce)
theorem Xb:qo Tryz.prog Tryz.f141 [4,5]=some Vs:=by kernel_rfl
def qbE:AC:=Subtype.val (p:=fun g=>qo Tryz.prog Tryz.f145 [2]=some g) (by refine ⟨?g,?h⟩;case h=>conv=>lhs;reduce)
theorem qcR:qo Tryz.prog Tryz.f145 [2]=some qbE:=by kernel_rfl
def YW:AC:=Subtype.val (p:=fun g=>qo Tryz.prog Tryz.f148 [4]=some g) (by refine ⟨?g,?h⟩;case h=>conv=>lhs;reduce)
theorem Ws:qo Tryz.prog Tryz.f148 [4]=some YW:=by kernel_rfl
def qgS:AC:=Subtype.val (p:=fun g=>qo Tryz.prog Tryz.f155 [4,5,6]=some g) (by refine ⟨?g,?h⟩;case h=>conv=>lhs;reduce)
theorem qfY:qo Tryz.prog Tryz.f155 [4,5,6]=some qgS:=by kernel_rfl
def YQ:AC:=Subtype.val (p:=fun g=>qo Tryz.prog Tryz.f161 [4,5]=some g) (by refine ⟨?g,?h⟩;case h=>conv=>lhs;reduce)
theorem Wm:qo Tryz.prog Tryz.f161 [4,5]=some YQ:=by kernel_rfl
def XG:AC:=Subtype.val (p:=fun g=>qo Tryz.prog Tryz.f163 [2]=some g) (by refine ⟨?g,?h⟩;case h=>conv=>lhs;reduce)
theorem qbk:qo Tryz.prog Tryz.f163 [2]=some XG:=by kernel_rfl
def Jo:AC:=Subtype.val (p:=fun g=>qo Tryz.prog Tryz.f164 [4]=some g) (by refine ⟨?g,?h⟩;case h=>conv=>lhs;reduce)
theorem YM:qo Tryz.prog Tryz.f164 [4]=some Jo:=by kernel_rfl
def YR:AC:=Subtype.val (p:=fun g=>qo Tryz.prog Tryz.f177 [4]=some g) (by refine ⟨?g,?h⟩;case h=>conv=>lhs;reduce)
theorem Wn:qo Tryz.prog Tryz.f177 [4]=some YR:=by kernel_rfl
def qd5:AC:=Subtype.val (p:=fun g=>qo Tryz.prog Tryz.f178 [4]=some g) (by refine ⟨?g,?h⟩;case h=>conv=>lhs;reduce)
theorem qeQ:qo Tryz.prog Tryz.f178 [4]=some qd5:=by kernel_rfl
def YX:AC:=Subtype.val (p:=fun g=>qo Tryz.prog Tryz.f179 [4]=some g) (by refine ⟨?g,?h⟩;case h=>conv=>lhs;reduce)
theorem Wt:qo Tryz.prog Tryz.f179 [4]=some YX:=by kernel_rfl
def Ext (H H':List HObj):Prop:=H.length≤H'.length∧∀ j,j<H.length→qr H' j=qr H j
theorem Ext.refl (H:List HObj):Ext H H:=⟨Nat.le_refl _,fun _ _=>rfl⟩
theorem Ext.trans {H H' H'':List HObj} (h:Ext H H') (k:Ext H' H''):Ext H H'':=⟨Nat.le_trans h.1 k.1,fun j hj=>(k.2 j (Nat.lt_of_lt_of_le hj h.1)).trans (h.2 j hj)⟩
theorem Ext.app (H os:List HObj):Ext H (H++os):=⟨by rw [List.length_append];omega,fun j hj=>qk hj⟩
theorem qjn {s : Sht} {l : Ln} {a : Nat} {H : List HObj} (ha : qr H a = some (.cells (lnC l))) {K : AV → List HObj → Prop}
 (hK:∀ H',Ext H H'→K (B (decide (s.num=l.num))) H'):zG Tryz.prog 165 [.agg (shC s),.ref a 0] H K:=by
 refine zj Tryz.func165 qaa (QB qwe) (by show 2≤_;decide) ?_
 obtain ⟨sn,sb,sg,sp⟩:=s
 have hx:=Ext.app H [HObj.cells [I sn,I sb,I sg,Pts sp]]
 have a1:=(hx.2 a (qj ha)).trans ha
 simp -implicitDefEqProofs (disch:=omega)[WQ,qb,shC]
 generalize H++[HObj.cells [I sn,I sb,I sg,Pts sp]]=H1 at *
 have e:(sn==l.num)=decide (sn=l.num):=rfl
 simp -implicitDefEqProofs (disch:=omega)[qb,a1,qf,lnC]
 exact ⟨[B (decide (sn=l.num))],⟨rfl,trivial⟩,hK _ hx⟩
theorem qmr {g : Bool} {ss : List Sht} {l : Ln} {a : Nat} {H : List HObj} (ha : qr H a = some (.cells (lnC l))) (hl : ss.length ≤ 1000000) {K : AV → List HObj → Prop}
 (hK:∀ H',Ext H H'→K (I (qiy (fun s:Sht=>decide (s.num=l.num)) ss)) H'):zG Tryz.prog 179 [qtm g ss,.fn (.func 165) [] [.ref a 0]] H K:=by
 refine walk Tryz.func179 Wt (by kernel_rfl) (by show 2≤_;decide) ?_
 simp -implicitDefEqProofs (disch:=omega)[YX,qb]
 refine qO (fun q:Nat × List HObj=>⟨[(0,qtm g ss),(1,.fn (.func 165) [] [.ref a 0]),(7,I (ss.length:Int)),(8,I (q.1:Int))],q.2⟩) (fun q=>q.1≤ss.length∧Ext H q.2∧∀ j (hj:j<ss.length),j<q.1→ss[j].num≠l.num) (fun q=>ss.length - q.1) (0,H) ⟨Nat.zero_le _,.refl H,fun j _ h=>by omega⟩ rfl ?_
 rintro ⟨i,H2⟩ ⟨c1,c2,c3⟩
 simp only at c1 c2 c3 ⊢
 refine qW fun K0 hK0=>?_
 simp -implicitDefEqProofs (disch:=omega)[qb]
 refine qP (fun hc=>?_) (fun hc=>?_)
 · have hi : i < ss.length := by simpa using hc
   have ix:((i:Int)+1)=((i+1:Nat):Int):=by omega
   simp -implicitDefEqProofs (disch:=omega)[qb,hi]
   refine ⟨by kernel_rfl,qjn (s:=ss[i]) ((c2.2 a (qj ha)).trans ha) fun H3 x3=>?_⟩
   simp -implicitDefEqProofs (disch:=omega)[qb]
   by_cases h:ss[i].num=l.num
   · have e : qiy (fun s : Sht => decide (s.num = l.num)) ss = (i : Int) := qas hi (by simpa using h) fun k hk hlt => by simpa using c3 k hk hlt
     have h':decide (ss[i].num=l.num)=true:=decide_eq_true h
     subst hK0
     simp -implicitDefEqProofs (disch:=omega)[qb,h']
     rw [←e]
     exact hK _ (c2.trans x3)
   · have h' : decide (ss[i].num = l.num) = false := decide_eq_false h
     simp -implicitDefEqProofs (disch:=omega)[qb,h']
     rw [hK0]
     refine qz (i+1,H3) ⟨by simp only;omega,c2.trans x3,fun j hj hlt=>?_⟩ (by simp only;omega) (by simp only [ix])
     by_cases e:j=i
     · subst e;exact h
     · exact c3 j hj (by simp only at hlt;omega)
 · have hi : i = ss.length := by simp at hc; omega
   subst hi
   subst hK0
   have e : qiy (fun s : Sht => decide (s.num = l.num)) ss = -1 := by
    unfold qiy
    rw [List.findIdx?_eq_none_iff.2 fun s hs=>?_]
    obtain ⟨j,hj,rfl⟩:=List.mem_iff_getElem.1 hs
    simpa using c3 j hj hj
   simp -implicitDefEqProofs (disch:=omega)[qb]
   rw [e] at hK
   exact hK _ c2
theorem qfO {g : Bool} {ss : List Sht} {l : Ln} {a : Nat} {H : List HObj} (ha : qr H a = some (.cells (lnC l))) (hl : ss.length ≤ 1000000) {K : AV → List HObj → Prop}
 (hK:∀ H',Ext H H'→K (B (decide (0≤qiy (fun s:Sht=>decide (s.num=l.num)) ss))) H'):zG Tryz.prog 164 [qtm g ss,.fn (.func 165) [] [.ref a 0]] H K:=by
 refine walk Tryz.func164 YM (by kernel_rfl) (by show 2≤_;decide) ?_
 simp -implicitDefEqProofs (disch:=omega)[Jo,qb]
 refine qmr ha hl fun H1 x1=>?_
 simp -implicitDefEqProofs (disch:=omega)[qb]
 exact hK _ x1
theorem qcX {H : List HObj} {K : AV → List HObj → Prop}
 (hK:K (.ref (H.length+1) 0) (H++[mpK Qb [] 0,.cells [.sl true 0 [],I 0,I 0,.sl true 0 [],.sl true 0 [],.mp H.length,.sl true 0 [],I 0]])):zG Tryz.prog 115 [] H K:=by
 refine zj Tryz.func115 Xc (QB qwd) (by show 0≤_;decide) ?_
 simp -implicitDefEqProofs (disch:=omega)[Vt,qb]
 refine ⟨_,_,⟨rfl,rfl⟩,?_⟩
 simp -implicitDefEqProofs (disch:=omega)[qb]
 exact ⟨[.ref (H.length+1) 0],⟨rfl,trivial⟩,hK⟩
def AccP (H:List HObj) (x:AV) (l:List Pt):Prop:=(x = .sl true 0 []∧l=[])∨∃ id cs,x = .ms id 0 l.length 3∧qr H id=some (.cells cs)∧l.length*3≤cs.length∧zT cs 0 (l.length*3)=fl ptC l∧(cs.all AV.isPC)=true
theorem AccP.out {H x l} (h:AccP H x l):qi7 (Pts l) x H:=by
 rcases h with ⟨rfl,rfl⟩ | ⟨id,cs,rfl,h1,h2,h3,h4⟩
 · exact qG (r' := .sl true 0 []) (is:=[]) rfl .slf
 · refine qG (r' := Pts l) (is := [id]) ?_ (.refl _)
   simp only [qU,zu,ze,zh,h1]
   rw [if_pos ⟨by omega,Xv h4⟩,h3]
theorem qly {hp : List HObj} {x : AV} {l m : List Pt} {g : Bool} {K : AV → List (Nat × HObj) → Prop} (h : AccP hp x l) (hl : l.length ≤ 1000000) (hm : m.length ≤ 1000000)
 (hK:∀ y ws,AccP (qH hp ws) y (l++m)→K y ws):qnk hp 3 24 x (JG g m) K:=by
 have e:l.length+m.length=(l++m).length:=by simp
 have pm:((fl ptC m).all AV.isPC)=true:=Xa qhL m
 rcases h with ⟨rfl,rfl⟩ | ⟨id,cs,rfl,h1,h2,h3,h4⟩
 · rw [qee]
   have hn:qr (qH hp [(hp.length,HObj.cells ([]++fl ptC m))]) hp.length=some (.cells ([]++fl ptC m)):=by
    rw [zt (by simp)];simp [Hp.write,Hp.set_same]
   refine ⟨⟨rfl,by rw [qaK],pm,rfl,by omega,by omega,.inl rfl⟩,hK _ _ (.inr ⟨hp.length,fl ptC m,by simp,hn,by simp,?_,pm⟩)⟩
   simp only [zT,List.drop_zero]
   rw [List.take_of_length_le (by simp)];rfl
 · have hlt := qj h1
   rw [qed,h1,J4,h3]
   have hn:qr (qH hp [(id,HObj.gone),(hp.length,HObj.cells (fl ptC l++fl ptC m))]) hp.length=some (.cells (fl ptC l++fl ptC m)):=by
    rw [zt (by simp;omega)]
    simp only [Hp.write,Hp.set_same]
   refine ⟨⟨by rw [qaK],pm,rfl,by omega,by omega,by omega⟩,hK _ _ (.inr ⟨hp.length,fl ptC l++fl ptC m,by rw [e],hn,by simp;omega,?_,by rw [List.all_append,Xa qhL,pm];rfl⟩)⟩
   simp only [zT,List.drop_zero]
   rw [List.take_of_length_le (by simp;omega),jr]
theorem qlB {P : Program} {F : Nat → AV} {hp : List HObj} {K : AV → List (Nat × HObj) → Prop} {d m : Nat} {z : List AV} {x k : Opd} (hx : evF F x = .sl true 0 []) (hk : evF F k = I m) (hz : z.length = 3) (hb : m ≤ 1000000) (kk : K (.ms hp.length 0 m 3) [(hp.length,.cells (zP m z))]) :
 (AOp.appz d 3 24 z x k).wp P F hp K:=by
 refine ⟨_,_,?_,kk⟩
 simp only [AOp.sem,hx,hk]
 refine ⟨m,rfl,?_⟩
 simp only [jt]
 exact ⟨by trivial,by first | rfl | trivial,by omega,by omega,by simp,by simp⟩
theorem qlh {z : List AV} (h : (z.all AV.isPC) = true) : ∀ n,((zP n z).all AV.isPC) = true
 | 0=>by simp [zP]
 | n+1=>by simp only [zP,List.all_append,qlh h n,h,Bool.and_true]
theorem qov {n:Nat} (hn:n≤1000000) {H:List HObj} {K:AV→List HObj→Prop} (hK:∀ x H',AccP H' x []→K x H'):zG Tryz.prog 178 [.sl true 0 [],I (n:Int)] H K:=by
 refine walk Tryz.func178 qeQ (by kernel_rfl) (by show 2≤_;decide) ?_
 have n0:((n:Int)<0)=False:=by simp only [eq_iff_iff,iff_false];omega
 simp -implicitDefEqProofs (disch:=omega)[qd5,qb,n0]
 refine qel (x := .t 9) (n:=0) (cs:=[]) rfl ?_
 simp -implicitDefEqProofs (disch:=omega)[qb]
 by_cases h:0<n
 · have h' : (0 < (n : Int)) = True := by simp only [eq_iff_iff,iff_true]; omega
   simp -implicitDefEqProofs (disch:=omega)[qb,h,h']
   refine qel (x := .t 18) (n:=0) (cs:=[]) rfl ?_
   simp -implicitDefEqProofs (disch:=omega)[qb]
   refine qlB (m:=n) rfl rfl rfl hn ?_
   simp -implicitDefEqProofs (disch:=omega)[qb]
   refine qso (h:=0) rfl (by omega) ?_
   simp -implicitDefEqProofs (disch:=omega)[qb]
   refine hK _ _ (.inr ⟨H.length,zP n [U 0,I 0,I 0],rfl,qdb,by simp,by simp [zT,YY],qlh rfl n⟩)
 · have h' : (0 < (n : Int)) = False := by simp only [eq_iff_iff,iff_false]; omega
   simp -implicitDefEqProofs (disch:=omega)[qb,h,h']
   exact hK _ _ (.inl ⟨rfl,rfl⟩)
def qkf (ll:List (List Pt)) (i:Nat):Nat:=((ll.take i).flatten).length
theorem qe2 {ll:List (List Pt)} {i:Nat} (h:i<ll.length):qkf ll (i+1)=qkf ll i+ll[i].length:=by
 unfold qkf
 rw [List.take_succ_eq_append_getElem h,List.flatten_append,List.length_append]
 congr 1
 rw [List.flatten_cons,List.flatten_nil,List.append_nil]
theorem qc5 {ll:List (List Pt)} (i:Nat):qkf ll i≤ll.flatten.length:=by
 unfold qkf
 conv=>rhs;rw [←List.take_append_drop i ll,List.flatten_append,List.length_append]
 omega
theorem qkn {ll:List (List Pt)} {i:Nat} (h:i<ll.length):YO (ll.map Pts) i=some (Pts ll[i]):=by
 rw [Jl];simp [h]
theorem qjK {ll:List (List Pt)} {i:Nat} (h:i<ll.length):(ll.take (i+1)).flatten=(ll.take i).flatten++ll[i]:=by
 rw [List.take_succ_eq_append_getElem h,List.flatten_append,List.flatten_cons,List.flatten_nil,List.append_nil]
theorem qfn (ll:List (List Pt)) (hl:ll.length≤1000) (ht:ll.flatten.length≤1000000):qC Tryz.prog 163 [.sl true ll.length (ll.map Pts)] (Pts ll.flatten):=by
 refine zO (walk Tryz.func163 qbk (by kernel_rfl) (by show 1≤_;decide) ?_)
 simp -implicitDefEqProofs (disch:=omega)[XG,qb]
 refine qO (fun i:Nat=>⟨[(0,.sl true ll.length (ll.map Pts)),(3,I (qkf ll i:Int)),(9,.sl true ll.length (ll.map Pts)),(10,I (ll.length:Int)),(11,I (i:Int))],[]⟩) (fun i=>i≤ll.length) (fun i=>ll.length - i) 0 (Nat.zero_le _) rfl ?_
 intro i c1
 refine qW fun K0 hK0=>?_
 simp -implicitDefEqProofs (disch:=omega)[qb]
 have hf:=qc5 (ll:=ll) i
 generalize hFL:ll.flatten.length=FL at *
 refine qP (fun hc=>?_) (fun hc=>?_)
 · have hi : i < ll.length := by simpa using hc
   have ix:((i:Int)+1)=((i+1:Nat):Int):=by omega
   have st:=qe2 hi
   have hf1:=qc5 (ll:=ll) (i+1)
   rw [hFL] at hf1
   have sx:((qkf ll i:Int)+(ll[i].length:Int))=(qkf ll (i+1):Int):=by omega
   have n0:((qkf ll (i+1):Int)<0)=False:=by simp only [eq_iff_iff,iff_false];omega
   simp -implicitDefEqProofs (disch:=omega)[qb,hi,qkn hi,sx,n0]
   rw [hK0]
   exact qz (i+1) (by omega) (by omega) (by simp only [ix])
 · have hi : i = ll.length := by simp at hc; omega
   subst hi
   subst hK0
   simp -implicitDefEqProofs (disch:=omega)[qb]
   refine qov (n:=qkf ll ll.length) (by omega) fun x H hx=>?_
   simp -implicitDefEqProofs (disch:=omega)[qb]
   refine qO (fun q:Nat × AV × List HObj=>⟨[(6,q.2.1),(25,.sl true ll.length (ll.map Pts)),(26,I (ll.length:Int)),(27,I (q.1:Int))],q.2.2⟩) (fun q=>q.1≤ll.length∧AccP q.2.2 q.2.1 ((ll.take q.1).flatten)) (fun q=>ll.length - q.1) (0,x,H) ⟨Nat.zero_le _,hx⟩ rfl ?_
   rintro ⟨i,y,H2⟩ ⟨c1,c2⟩
   simp only at c1 c2 ⊢
   refine qW fun K0 hK0=>?_
   simp -implicitDefEqProofs (disch:=omega)[qb]
   have hf:=qc5 (ll:=ll) i
   refine qP (fun hc=>?_) (fun hc=>?_)
   · have hi : i < ll.length := by simpa using hc
     have ix:((i:Int)+1)=((i+1:Nat):Int):=by omega
     have st:=qe2 hi
     have hf1:=qc5 (ll:=ll) (i+1)
     rw [hFL] at hf1
     have b1:((ll.take i).flatten).length≤1000000:=by show qkf ll i≤_;omega
     simp -implicitDefEqProofs (disch:=omega)[qb,hi,qkn hi]
     refine qly c2 b1 (by omega) fun z ws w3=>?_
     simp -implicitDefEqProofs (disch:=omega)[qb]
     rw [hK0]
     refine qz (i+1,z,qH H2 ws) ⟨by simp only;omega,?_⟩ (by simp only;omega) (by simp only [ix])
     rw [qjK hi];exact w3
   · have hi : i = ll.length := by simp at hc; omega
     subst hi
     subst hK0
     rw [List.take_length] at c2
     simp -implicitDefEqProofs (disch:=omega)[qb]
     exact c2.out
abbrev Stp:=List UInt8 × Ln × Dy × Dy
def stC (t:Stp):List AV:=S t.1::(lnC t.2.1++(dyC t.2.2.1++dyC t.2.2.2))
theorem qdB (t:Stp):(stC t).length=15:=rfl
theorem qkY (t:Stp):((stC t).all AV.isPC)=true:=rfl
abbrev qlt (f:Bool) (l:List Stp):AV := .sl f l.length (fl stC l)
abbrev Xj (l:List Stp):AV:=qlt false l
theorem JQ {l:List Stp}:(fl stC l).length=l.length*15:=J9 qdB l
theorem qct {l:List Stp} {i:Nat} {K:AV→List (Nat × HObj)→Prop} (h:i<l.length):Qm (fl stC l) (i*15) 15 true K=K (.agg (stC l[i])) []:=VD qdB h
theorem qei {P:Program} {f:FuncId} {xs:List AV} {hp:List HObj} {K:AV→List HObj→Prop} {sz:Nat} (h:zG P f xs hp fun x H=>(x = .sl true 0 []∧K (.ms H.length 0 0 sz) (H++[.cells []]))∨K x H):zG P f xs hp K:=by
 intro ro n w g vs hok hvs hrep
 refine (h ro n w g vs hok hvs hrep).mono ?_
 rintro e w' ⟨v,x,H,g',rfl,hq,hx,hok',hu⟩
 rcases hq with ⟨rfl,hK⟩ | hK
 · have hn : hpf H H.length = none := by simp [hpf]
   obtain ⟨q1,q2⟩:=hok'.virgin hn
   have e:hpf (H++[.cells []])=Hp.set (hpf H) H.length (.cells []):=by
    funext i
    simp only [hpf,Hp.set]
    by_cases e:i=H.length
    · subst e;simp
    · rw [if_neg e]
      rcases Nat.lt_or_ge i H.length with h | h
      · rw [List.getElem?_append_left h]
      · rw [List.getElem?_eq_none (by simp;omega),List.getElem?_eq_none h]
   refine ⟨v,_,_,_,rfl,hK,?_,by rw [e];exact q1,by rw [e];exact hu.trans q2⟩
   cases hx with
   | sl _ _ _ _ ad cap vs hn hf hc hr =>
     have:cap=0:=hf rfl
     subst this
     exact .msz _ _ _ ad .virg (by simp [G.home])
 · exact ⟨v,x,H,g',rfl,hK,hx,hok',hu⟩
theorem qdv (f:Bool) (l:List Stp) (hl:l.length≤1000000):qbH Tryz.prog 145 [qlt f l] l.length 15 (fl stC l):=by
 refine qoY (Xa qkY l) (qei (sz:=15) (walk Tryz.func145 qcR (by kernel_rfl) (by show 1≤_;decide) ?_))
 simp -implicitDefEqProofs (disch:=omega)[qbE,qb]
 refine qrZ (f:=f) (n:=l.length) (cs:=fl stC l) rfl (fun h c=>?_) (fun h=>?_)
 · have h0:l=[]:=by
    cases l with
    | nil=>rfl
    | cons a r=>rw [Qi] at h;cases h
   subst h0
   cases c with
   | true =>
     simp -implicitDefEqProofs (disch:=omega)[qb]
     rfl
   | false =>
     simp -implicitDefEqProofs (disch:=omega)[qb]
     refine zq (ys:=[]) (ids:=[]) rfl rfl ?_
     simp -implicitDefEqProofs (disch:=omega)[qb,zP,YY]
     rfl
 · simp -implicitDefEqProofs (disch := omega) [qb]
   refine zq (ys:=[]) (ids:=[]) rfl rfl ?_
   simp -implicitDefEqProofs (disch:=omega)[qb,zP,JQ,Xa qkY]
   exact ⟨⟨by omega,by omega⟩,rfl⟩
theorem Yq (c:Int):qC Tryz.prog 79 [U c] (B (VZ c)):=by
 refine qT (walk Tryz.func79 qeE (by kernel_rfl) (by show 1≤_;decide) ?_)
 simp -implicitDefEqProofs (disch:=omega)[qdV,qb]
 unfold VZ
 by_cases h:97≤c
 · simp -implicitDefEqProofs (disch:=omega)[qb,h]
 · simp -implicitDefEqProofs (disch:=omega)[qb,h]
theorem qld (x lo hi : Int) (a b : Nat) (hp : List HObj) (ha : qr hp a = some (.cells [I lo])) (hb : qr hp b = some (.cells [I hi])) (K : AV → List HObj → Prop) (hK : K (B (decide (x < lo) || decide (hi < x))) hp) :
 zG Tryz.prog 124 [I x,.ref a 0,.ref b 0] hp K:=by
 refine walk Tryz.func124 X9 (by kernel_rfl) (by show 3≤_;decide) ?_
 simp -implicitDefEqProofs (disch:=omega)[WP,qb,ha,hb,qf]
 by_cases h:x<lo
 · simp -implicitDefEqProofs (disch:=omega)[qb,ha,hb,qf,h] at hK ⊢;exact hK
 · simp -implicitDefEqProofs (disch:=omega)[qb,ha,hb,qf,h] at hK ⊢;exact hK
theorem qmq (f : Bool) (x lo hi : Int) (a b : Nat) (hp : List HObj) (ha : qr hp a = some (.cells [I lo])) (hb : qr hp b = some (.cells [I hi])) (K : AV → List HObj → Prop)
 (hK:K (I (if x<lo∨hi<x then 0 else -1)) hp) :
 zG Tryz.prog 148 [.sl f 1 [I x],.fn (.func 124) [] [.ref a 0,.ref b 0]] hp K:=by
 refine walk Tryz.func148 Ws (by kernel_rfl) (by show 2≤_;decide) ?_
 simp -implicitDefEqProofs (disch:=omega)[YW,qb]
 refine qO (fun i:Nat=>⟨[(0,.sl f 1 [I x]),(1,.fn (.func 124) [] [.ref a 0,.ref b 0]),(7,I 1),(8,I (i:Int))],hp⟩) (fun i=>i≤1∧(i=1→¬ (x<lo∨hi<x))) (fun i=>1 - i) 0 ⟨by omega,by omega⟩ rfl ?_
 rintro i ⟨hi1,hi2⟩
 have:i=0∨i=1:=by omega
 rcases this with rfl | rfl
 · refine qW fun K0 hK0 => ?_
   simp -implicitDefEqProofs (disch:=omega)[qb]
   refine ⟨by kernel_rfl,qld _ _ _ _ _ _ ha hb _ ?_⟩
   simp -implicitDefEqProofs (disch:=omega)[qb]
   refine qP (fun h3=>?_) (fun h3=>?_)
   · have h3' : x < lo ∨ hi < x := by simpa using h3
     rw [if_pos h3'] at hK
     subst hK0
     simp -implicitDefEqProofs (disch:=omega)[qb]
     exact hK
   · have h3' : ¬ (x < lo ∨ hi < x) := by simpa using h3
     simp -implicitDefEqProofs (disch:=omega)[qb]
     rw [hK0]
     exact qz 1 ⟨by omega,fun _=>h3'⟩ (by omega) rfl
 · rw [if_neg (hi2 rfl)] at hK
   simp -implicitDefEqProofs (disch:=omega)[qb]
   exact hK
theorem qfN (f : Bool) (x lo hi : Int) (a b : Nat) (hp : List HObj) (ha : qr hp a = some (.cells [I lo])) (hb : qr hp b = some (.cells [I hi])) (K : AV → List HObj → Prop)
 (hK:K (B (decide (x<lo∨hi<x))) hp) :
 zG Tryz.prog 123 [.sl f 1 [I x],.fn (.func 124) [] [.ref a 0,.ref b 0]] hp K:=by
 refine walk Tryz.func123 YL (by kernel_rfl) (by show 2≤_;decide) ?_
 simp -implicitDefEqProofs (disch:=omega)[Jn,qb]
 refine qmq f x lo hi a b hp ha hb _ ?_
 by_cases h:x<lo∨hi<x
 · rw [if_pos h]
   rw [decide_eq_true h] at hK
   simp -implicitDefEqProofs (disch:=omega)[qb]
   exact hK
 · rw [if_neg h]
   rw [decide_eq_false h] at hK
   simp -implicitDefEqProofs (disch:=omega)[qb]
   exact hK
def Ze (lo hi x:Int):Bool:=decide (lo≤x)&&decide (x≤hi)
theorem Qj (lo hi:Int) (f:Bool) (x:Int):qC Tryz.prog 82 [I lo,I hi,.sl f 1 [I x]] (B (Ze lo hi x)):=by
 refine qT (walk Tryz.func82 qcN (by kernel_rfl) (by show 3≤_;decide) ?_)
 simp -implicitDefEqProofs (disch:=omega)[qbA,qb]
 refine qfN f x lo hi 0 1 _ rfl rfl _ ?_
 have e:Ze lo hi x = !decide (x<lo∨hi<x):=by
  unfold Ze
  by_cases h1:lo≤x
  · by_cases h2 : x ≤ hi
    · simp [h1,h2,show ¬ x<lo by omega,show ¬ hi<x by omega]
    · simp [h1,h2,show hi<x by omega]
  · simp [h1,show x<lo by omega]
 rw [e]
 simp -implicitDefEqProofs (disch:=omega)[qb]
theorem Vd (n:Nat) (hn:n≤1000000) (p:Pt):qC Tryz.prog 120 [I (n:Int),.agg (ptC p)] (B (qI n p)):=by
 obtain ⟨a,r,t⟩:=p
 refine qT (walk Tryz.func120 qcI (by kernel_rfl) (by show 2≤_;decide) ?_)
 simp -implicitDefEqProofs (disch:=omega)[qbv,qb,ptC]
 refine zq (ys:=[I t]) (ids:=[]) rfl rfl ?_
 simp -implicitDefEqProofs (disch:=omega)[qb,zP]
 refine qg rfl (Qj 1 1000 true t) ?_
 simp -implicitDefEqProofs (disch:=omega)[qb,AV.scalar]
 by_cases hw:Ze 1 1000 t=true
 case neg =>
  have hw':Ze 1 1000 t=false:=by simpa using hw
  have:qI n (a,r,t)=false:=by
   unfold Ze at hw'
   unfold qI
   simp only
   rw [hw'];rfl
  rw [hw',this]
  simp -implicitDefEqProofs (disch:=omega)[qb]
 have hw2:1≤t∧t≤1000:=by
  unfold Ze at hw;simpa using hw
 rw [hw]
 simp -implicitDefEqProofs (disch:=omega)[qb]
 by_cases h3:r = -1
 case pos =>
  subst h3
  have:qI n (a,-1,t)=VZ a:=by simp [qI,hw2.1,hw2.2]
  rw [this]
  simp -implicitDefEqProofs (disch:=omega)[qb]
  refine qg rfl (Yq a) ?_
  simp -implicitDefEqProofs (disch:=omega)[qb]
 have h3':(r == -1)=false:=by rw [beq_eq_false_iff_ne];exact h3
 have e:qI n (a,r,t)=(decide (a=0)&&Ze 0 ((n:Int) - 1) r):=by
  unfold Ze
  have:(r<(n:Int))=(r≤(n:Int) - 1):=by simp only [eq_iff_iff];omega
  simp [qI,hw2.1,hw2.2,h3,this,Bool.and_assoc]
 rw [e]
 simp -implicitDefEqProofs (disch:=omega)[qb,h3']
 by_cases h4:a=0
 case neg =>
  have h4':(a==0)=false:=by rw [beq_eq_false_iff_ne];exact h4
  simp -implicitDefEqProofs (disch:=omega)[qb,h4',h4]
 have h4':(a==0)=true:=by rw [beq_iff_eq];exact h4
 simp -implicitDefEqProofs (disch:=omega)[qb,h4',h4]
 refine zq (ys:=[I r]) (ids:=[]) rfl rfl ?_
 simp -implicitDefEqProofs (disch:=omega)[qb,zP]
 refine qg rfl (Qj 0 ((n:Int) - 1) true r) ?_
 simp -implicitDefEqProofs (disch:=omega)[qb,AV.scalar]
theorem QN (f g:Bool) (long:List Int) (l:List Pt) (hL:J3 long) (hp:∀ p∈l,qI long.length p=true) (hl:l.length≤1000000):qC Tryz.prog 75 [Ls f long,JG g l] (I (QZ long l)):=by
 refine qT (walk Tryz.func75 qeJ (by kernel_rfl) (by show 2≤_;decide) ?_)
 simp -implicitDefEqProofs (disch:=omega)[qdY,qb]
 refine qO (fun q:Nat × List HObj=>⟨[(0,Ls f long),(5,I (QZ long (l.take q.1))),(9,JG g l),(10,I (l.length:Int)),(11,I (q.1:Int))],q.2⟩) (fun q=>q.1≤l.length) (fun q=>l.length - q.1) (0,[]) (Nat.zero_le _) rfl ?_
 rintro ⟨i,H⟩ c1
 simp only at c1 ⊢
 refine qW fun K0 hK0=>?_
 simp -implicitDefEqProofs (disch:=omega)[qb]
 refine qP (fun hc=>?_) (fun hc=>?_)
 · have hi : i < l.length := by simpa using hc
   have ix:((i:Int)+1)=((i+1:Nat):Int):=by omega
   have hfar:JS=1125899906842624:=rfl
   have hpi:=hp _ (List.getElem_mem hi)
   have st:QZ long (l.take (i+1))=jU long (QZ long (l.take i)) l[i]:=zI hi
   have r0:=Vo hL (l:=l.take i) fun p hq=>hp p (List.mem_of_mem_take hq)
   have m0:=qkq hL hpi
   have tm:=Qd hpi
   generalize hX:QZ long (l.take i)=X at *
   simp -implicitDefEqProofs (disch:=omega)[qb,hi]
   generalize l[i]=p at *
   obtain ⟨a,r,t⟩:=p
   simp only at tm
   simp -implicitDefEqProofs (disch:=omega)[qb,ptC]
   by_cases h0:0≤r
   case' pos =>
    have hr:r.toNat<long.length:=by
     rcases zk hpi with ⟨h,_⟩ | ⟨_,_,h⟩
     · simp only at h;omega
     · simp only at h;omega
    have hr2:r<(long.length:Int):=by omega
    have ho:ja long (a,r,t)=long[r.toNat]:=by
     unfold ja;rw [if_pos h0,List.getD_eq_getElem?_getD,List.getElem?_eq_getElem hr];rfl
    have mc:t*long[r.toNat]=ja long (a,r,t)*t:=by rw [ho,Int.mul_comm]
    simp -implicitDefEqProofs (disch:=omega)[qb,hi,h0,hr,hr2,JH]
    rw [mc,qb (n:=ja long (a,r,t)*t) (by simp only at m0;omega),qb (by simp only at m0;omega)]
   case' neg =>
    have ho:ja long (a,r,t)=1:=by unfold ja;rw [if_neg h0]
    simp -implicitDefEqProofs (disch:=omega)[qb,hi,h0]
   all_goals
    rw [hK0]
    refine qz (i+1,H++[.cells [U a,I r,I t]]) (by simp only;omega) (by simp only;omega) ?_
    have st2:QZ long (l.take (i+1))=min JS (X+ja long (a,r,t)*t):=st
    simp only [ix,st2]
    try rw [ho,Int.one_mul]
 · have hi : i = l.length := by simp at hc; omega
   subst hi
   subst hK0
   rw [List.take_length]
   simp -implicitDefEqProofs (disch:=omega)[qb]
theorem Z9 (f:Bool) (l:List Bk) (hR:RecV l) (hl:∀ b∈l,b.2.length≤1000000):qC Tryz.prog 76 [qlm f l] (Ls false (qu l)):=by
 have hln:=hR.2
 refine zO (walk Tryz.func76 qbf (by kernel_rfl) (by show 1≤_;decide) ?_)
 simp -implicitDefEqProofs (disch:=omega)[XC,qb]
 refine qO (fun q:Nat × AV × List HObj=>⟨[(3,q.2.1),(6,qlm f l),(7,I (l.length:Int)),(8,I (q.1:Int))],q.2.2⟩) (fun q=>q.1≤l.length∧AccG q.2.2 q.2.1 1 q.1 ((qu (l.take q.1)).map fun n=>I n)) (fun q=>l.length - q.1) (0,.sl true 0 [],[]) ⟨Nat.zero_le _,.nil⟩ rfl ?_
 rintro ⟨i,x,H⟩ ⟨c1,c2⟩
 simp only at c1 c2 ⊢
 refine qW fun K0 hK0=>?_
 simp -implicitDefEqProofs (disch:=omega)[qb]
 refine qP (fun hc=>?_) (fun hc=>?_)
 · have hi : i < l.length := by simpa using hc
   have ix:((i:Int)+1)=((i+1:Nat):Int):=by omega
   have st:=QL hi
   have hll:(qu (l.take i)).length=i:=by rw [zy,List.length_take];omega
   have hLO:=jO (hR.take i)
   have hpv:∀ p∈l[i].2,qI (qu (l.take i)).length p=true:=by rw [hll];exact hR.1 i hi
   have tg:=fun f=>QN f false _ l[i].2 hLO hpv (hl _ (List.getElem_mem hi))
   have bd:=Vo hLO hpv
   have hfar:JS=1125899906842624:=rfl
   generalize qu (l.take i)=L at *
   generalize QZ L l[i].2=T at *
   simp -implicitDefEqProofs (disch:=omega)[qb,hi,bkC]
   have c2':=c2.mono (H:=H++[HObj.cells [S l[i].1,Pts l[i].2]]) fun j hj=>qk (c2.lt hj)
   obtain ⟨ids,hp,_⟩:=c2'.pur
   have hpa : qE (hpf (H ++ [HObj.cells [S l[i].1,Pts l[i].2]])) [x,Pts l[i].2] = some ([.sl (decide (i = 0)) i (L.map fun n => I n),Pts l[i].2],ids ++ []) := by
    simp only [qE,hp];rfl
   have hLs:AV.sl (decide (i=0)) i (L.map fun n=>I n)=Ls (decide (i=0)) L:=by show _=AV.sl _ L.length _;rw [hll]
   rw [hLs] at hpa
   refine qg hpa (tg _) ?_
   simp -implicitDefEqProofs (disch:=omega)[qb,AV.scalar]
   refine zq (ys:=[I T]) (ids:=[]) rfl rfl ?_
   simp -implicitDefEqProofs (disch:=omega)[qb,zP]
   refine Q5 (ys:=[I T]) c2' (by omega) (by decide) rfl rfl fun ws w1 w2 w3=>?_
   simp -implicitDefEqProofs (disch:=omega)[qb,zP]
   rw [hK0]
   refine qz (i+1,.ms (H++[HObj.cells [S l[i].1,Pts l[i].2]]).length 0 (i+1) 1,qH (H++[HObj.cells [S l[i].1,Pts l[i].2]]) ws) ⟨by simp only;omega,?_⟩ (by simp only;omega) (by simp only [ix,List.length_append,List.length_cons,List.length_nil])
   rw [st,List.map_append]
   exact w3
 · have hi : i = l.length := by simp at hc; omega
   subst hi
   subst hK0
   rw [List.take_length] at c2
   simp -implicitDefEqProofs (disch:=omega)[qb]
   obtain ⟨ids,hp,_⟩:=c2.pur
   refine qG hp ?_
   show Wk _ (.sl false (qu l).length _)
   rw [zy]
   exact .slf
theorem jN (f g:Bool) (long:List Int) (l:List Pt) (hL:J3 long):qC Tryz.prog 119 [Ls f long,JG g l] (B (Yx long l)):=by
 refine qT (walk Tryz.func119 Wo (by kernel_rfl) (by show 2≤_;decide) ?_)
 simp -implicitDefEqProofs (disch:=omega)[YT,qb]
 by_cases h64:l.length≤64
 case neg =>
  have h64':(64<(l.length:Int))=True:=by simp only [eq_iff_iff,iff_true];omega
  have:Yx long l=false:=by simp [Yx,h64]
  rw [this]
  simp -implicitDefEqProofs (disch:=omega)[qb,h64']
 have h64':(64<(l.length:Int))=False:=by simp only [eq_iff_iff,iff_false];omega
 simp -implicitDefEqProofs (disch:=omega)[qb,h64']
 refine qO (fun q:Nat × List HObj=>⟨[(0,Ls f long),(1,JG g l),(10,JG g l),(11,I (l.length:Int)),(12,I (q.1:Int))],q.2⟩) (fun q=>q.1≤l.length∧(l.take q.1).all (qI long.length)=true) (fun q=>l.length - q.1) (0,[]) ⟨Nat.zero_le _,rfl⟩ rfl ?_
 rintro ⟨i,H⟩ ⟨c1,c2⟩
 simp only at c1 c2 ⊢
 have hL2:=hL.2
 refine qW fun K0 hK0=>?_
 simp -implicitDefEqProofs (disch:=omega)[qb]
 refine qP (fun hc=>?_) (fun hc=>?_)
 · have hi : i < l.length := by simpa using hc
   have ix:((i:Int)+1)=((i+1:Nat):Int):=by omega
   simp -implicitDefEqProofs (disch:=omega)[qb,hi,ptC]
   refine qg (ys:=[I (long.length:Int),.agg (ptC l[i])]) (ids:=[]) rfl (Vd _ (by omega) _) ?_
   cases hb:qI long.length l[i] with
   | false =>
     have:Yx long l=false:=by
      unfold Yx
      have:l.all (qI long.length)=false:=by rw [List.all_eq_false];exact ⟨_,List.getElem_mem hi,by rw [hb];decide⟩
      rw [this];simp
     rw [hK0,this]
     simp -implicitDefEqProofs (disch:=omega)[qb]
     try exact ⟨[],rfl⟩
   | true =>
     simp -implicitDefEqProofs (disch:=omega)[qb,AV.scalar]
     rw [hK0]
     refine qz (i+1,H++[.cells [U l[i].1,I l[i].2.1,I l[i].2.2]]) ⟨by simp only;omega,?_⟩ (by simp only;omega) (by simp only [ix])
     rw [List.take_succ_eq_append_getElem hi,List.all_append,c2]
     simp [hb]
 · have hi : i = l.length := by simp at hc; omega
   subst hi
   subst hK0
   rw [List.take_length] at c2
   have ht:=QN f g long l hL (List.all_eq_true.1 c2) (by omega)
   simp -implicitDefEqProofs (disch:=omega)[qb]
   refine qg rfl ht ?_
   simp -implicitDefEqProofs (disch:=omega)[qb,Yx,h64,c2]
   try exact ⟨[],rfl⟩
def Pw (E:List (K3 (List UInt8))):Prop:=E.Pairwise fun q r=>q.1≠r.1
theorem Pw.push {E:List (K3 (List UInt8))} {nm:List UInt8} {c:Nat} {v:Int} (h:Pw E) (hn:∀ q∈E,q.1≠nm):Pw (E++[(nm,c,v)]):=by
 unfold Pw
 rw [List.pairwise_append]
 refine ⟨h,by simp,fun q hq r hr=>?_⟩
 rw [List.mem_singleton] at hr
 subst hr
 exact hn q hq
def qvh (H:List HObj) (a mid:Nat) (x6 x7:AV) (y:Dy) (e:Int) (x:AV) (H':List HObj):Prop :=
 x=I e∧H.length≤H'.length∧(∀ j,j<H.length→j≠a→j≠mid→qr H' j=qr H j)∧qr H' a=some (.cells (dyC y++[.mp mid,x6,x7]))∧∃ E clk,qr H' mid=some (mpK Qb E clk)∧ByName y.rc E∧Pw E
def qnU (H:List HObj) (a mid:Nat) (x6 x7:AV) (y:Dy) (e:Int) (x:AV) (H':List HObj):Prop :=
 x=I e∧H.length≤H'.length∧(∀ j,j<H.length→j≠a→j≠mid→qr H' j=qr H j)∧(∃ cs is,qr H' a=some (.cells cs)∧FzL H' is cs (dyC y++[.mp mid,x6,x7])∧∀ i∈is,H.length≤i∧∃ c,qr H' i=some (.cells c))∧∃ E clk,qr H' mid=some (mpK Qb E clk)∧ByName y.rc E∧Pw E
theorem qlv {P:Program} {f:FuncId} {xs:List AV} {H:List HObj} {a mid:Nat} {x6 x7:AV} {y:Dy} {e:Int} (ha:a<H.length) (hm:mid<H.length) (hne:mid≠a) (h:zG P f xs H (qnU H a mid x6 x7 y e)):zG P f xs H (qvh H a mid x6 x7 y e):=by
 refine Y7 (jI (fun x H' hq=>?_) h)
 obtain ⟨rfl,hlen,hk,⟨cs,is,c1,c2,c3⟩,E,clk,c4,c5⟩:=hq
 have hna:a∉is:=fun hh=>by have:=(c3 a hh).1;omega
 have hnm:mid∉is:=fun hh=>by have:=(c3 mid hh).1;omega
 have lt:∀ i∈is,i<H'.length:=fun i hi=>by obtain ⟨c,hc⟩:=(c3 i hi).2;exact qj hc
 have fz:=fun j=>qaA (H:=H') (o := .cells (dyC y++[.mp mid,x6,x7])) lt (qj c1) j
 refine ⟨a,cs,_,is,c1,c2,fun i hi=>(c3 i hi).2,hna,rfl,?_,fun j hj h1 h2=>?_,(fz a).trans (if_pos rfl),E,clk,?_,c5⟩
 · exact Nat.le_trans hlen (Zz _ _)
 · rw [fz j,if_neg h1,if_neg (fun hh => by have := (c3 j hh).1; omega)]
   exact hk j hj h1 h2
 · rw [fz mid,if_neg hne,if_neg hnm];exact c4
theorem qdA {sz n:Nat} {f:Bool} {cs:List AV} {j k:Int} {K:AV→List (Nat × HObj)→Prop} (hj:j=n) (hk:k=n) (hl:cs.length=n*sz) (h:K (.sl true n cs) []):qnr sz (.sl f n cs) none (some (I j)) (some (I k)) K:=by
 subst hj hk
 refine ⟨_,_,⟨0,n,rfl,rfl,Nat.zero_le _,Nat.le_refl _,hl,⟨rfl,rfl,rfl⟩,rfl⟩,?_⟩
 simp only [Nat.sub_zero,Nat.zero_mul,zT,List.drop_zero]
 rw [List.take_of_length_le (by omega)]
 exact h
theorem ByName.push {rc:List Bk} {E:List (K3 (List UInt8))} {clk:Nat} {nm:List UInt8} {p:List Pt} (h:ByName rc E) (hn:¬ 0≤zL rc nm):ByName (rc++[(nm,p)]) (E++[(nm,clk,(rc.length:Int))]):=by
 have hno:∀ q∈E,q.1≠nm:=QG (by rw [h nm,if_neg hn])
 have habs:∀ b∈rc,b.1≠nm:=by
  rcases VK rc nm with ⟨_,h⟩ | ⟨i,hi,h,_⟩
  · exact h
  · rw [h] at hn;omega
 intro x
 rw [qag hno,h x]
 by_cases e:x=nm
 · subst e
   have:zL (rc++[(x,p)]) x=(rc.length:Int):=by
    unfold zL
    refine qas (i:=rc.length) (by simp) (by simp) fun k hk hlt=>?_
    rw [List.getElem_append_left (by omega)]
    simpa using habs _ (List.getElem_mem (by omega))
   rw [if_pos rfl,this,if_pos (by omega)]
 · rw [if_neg e]
   have:zL (rc++[(nm,p)]) x=zL rc x:=by
    unfold zL qiy
    rw [List.findIdx?_append]
    cases hf:rc.findIdx? (fun b:Bk=>decide (b.1=x)) with
    | some i=>simp
    | none =>
      have:¬ nm=x:=fun h=>e h.symm
      simp [this]
   rw [this]
theorem qiH {d : Dy} {l : Ln} (hd : DyW d) (hrl : d.rc.length ≤ 32) (hl : LnV' l) {H : List HObj} {a mid : Nat} {E : List (K3 (List UInt8))} {clk : Nat} {x6 x7 : AV} (h1 : qr H a = some (.cells (dyC d ++ [.mp mid,x6,x7]))) (h3 : qr H mid = some (mpK Qb E clk)) (hE : ByName d.rc E) (hPw : Pw E) :
 zG Tryz.prog 144 [.ref a 0,LnV l] H (qvh H a mid x6 x7 (zi d l).1 (zi d l).2):=by
 have la:=qj h1
 have lm:=qj h3
 have hne:mid≠a:=fun e=>by subst e;rw [h1] at h3;cases h3
 refine qlv la lm hne (walk Tryz.func144 qcO (by kernel_rfl) (by show 2≤_;decide) ?_)
 have rl:d.rc.length≤100000:=hd.i.rl
 have wl:l.words.length≤8:=hl.len
 have hsl:=hd.i.sl
 have hpt:=hd.i.pat.2
 have hLO:=jO hd.rc
 have hLn:(qu d.rc).length=d.rc.length:=zy _
 have hlaid:=hd.laid
 have hbath:=hd.bath
 simp -implicitDefEqProofs (disch:=omega)[qbB,qb,lnC]
 have x0:=Ext.app H [HObj.cells (lnC l)]
 have b0:qr (H++[HObj.cells (lnC l)]) H.length=some (.cells (lnC l)):=Qn
 have a0:=(x0.2 a la).trans h1
 have m0:=(x0.2 mid lm).trans h3
 have l0:(H++[HObj.cells (lnC l)]).length=H.length+1:=by simp
 have el:[I l.kind,S l.name,Wds l.words,I l.num]=lnC l:=rfl
 simp only [el] at *
 generalize H++[HObj.cells (lnC l)]=H1 at *
 obtain ⟨b,hb⟩:∃ b,H.length=b:=⟨_,rfl⟩
 rw [hb] at b0
 simp -implicitDefEqProofs (disch:=omega)[qb,b0,hb,qf,lnC]
 refine qiI (id:=a) (mid:=mid) (rc:=d.rc) (E:=E) (clk:=clk) (ws:=l.words) a0 rfl m0 hE (by omega) fun H2 k2 l2=>?_
 generalize hP:Qf d.rc l.words=P at *
 have a2:=(k2 a (by omega)).trans a0
 have m2:=(k2 mid (by omega)).trans m0
 have b2:=(k2 b (by omega)).trans b0
 have x2:Ext H H2:=⟨by omega,fun j hj=>(k2 j (by omega)).trans (x0.2 j hj)⟩
 simp -implicitDefEqProofs (disch:=omega)[qb,a2,qf,dyC]
 refine qg (ys:=[qlm false d.rc]) (ids:=[]) rfl (Z9 false d.rc hd.rc (fun b hb=>by have:=(hd.i.rc b hb).1.2;omega)) ?_
 simp -implicitDefEqProofs (disch:=omega)[qb,b2,qf,lnC,AV.scalar]
 have err : ∀ (e : Int),zi d l = (d,e) → qnU H a mid x6 x7 (zi d l).1 (zi d l).2 (I e) H2 := fun e he => by
  rw [he]
  exact ⟨rfl,x2.1,fun j hj _ _=>x2.2 j hj,⟨_,[],a2,FzL.refl,by simp⟩,E,clk,m2,hE,hPw⟩
 by_cases k1:l.kind=1
 case pos =>
  have k1':(l.kind==1)=true:=by rw [beq_iff_eq];exact k1
  simp -implicitDefEqProofs (disch:=omega)[qb,k1',a2,b2,qf,dyC,lnC]
  refine qr7 qoV (x:=mid) (D:=l.name) rfl rfl m2 ?_
  rw [hE l.name]
  by_cases c1:0≤zL d.rc l.name
  case pos =>
   have hn:zi d l=(d,11):=by unfold zi;rw [if_pos k1,if_pos c1]
   simp -implicitDefEqProofs (disch:=omega)[qb,c1,zW,zJ,zE]
   exact err 11 hn
  rw [if_neg c1]
  simp -implicitDefEqProofs (disch:=omega)[qb,zW,zJ,zE,a2,qf,dyC]
  by_cases c2:32≤d.rc.length
  case pos =>
   have hn:zi d l=(d,10):=by unfold zi;rw [if_pos k1,if_neg c1,if_pos c2]
   have c2':((d.rc.length:Int)==32)=true:=by rw [beq_iff_eq];omega
   simp -implicitDefEqProofs (disch:=omega)[qb,c2']
   exact err 10 hn
  have c2':((d.rc.length:Int)==32)=false:=by rw [beq_eq_false_iff_ne];omega
  simp -implicitDefEqProofs (disch:=omega)[qb,c2']
  cases P with
  | none =>
    have hn:zi d l=(d,5):=by unfold zi;rw [if_pos k1,if_neg c1,if_neg c2,hP]
    simp -implicitDefEqProofs (disch:=omega)[qb]
    exact err 5 hn
  | some p =>
  have hpB:∀ q∈p,qI (qu d.rc).length q=true:=by rw [hLn];exact VN hl.words hP
  have hpl:=Yw hP
  simp -implicitDefEqProofs (disch:=omega)[qb]
  refine qg (ys:=[Ls false (qu d.rc),JG false p]) (ids:=[]) rfl (QN false false _ p hLO hpB (by omega)) ?_
  simp -implicitDefEqProofs (disch:=omega)[qb,AV.scalar]
  by_cases c3:QM<QZ (qu d.rc) p
  case pos =>
   have hn:zi d l=(d,4):=by unfold zi;rw [if_pos k1,if_neg c1,if_neg c2,hP];exact if_pos c3
   have c3':(1099511627776<QZ (qu d.rc) p)=True:=by simp only [eq_iff_iff,iff_true];exact c3
   simp -implicitDefEqProofs (disch:=omega)[qb,c3']
   exact err 4 hn
  have hn:zi d l=({ d with rc:=d.rc++[(l.name,p)] },0):=by unfold zi;rw [if_pos k1,if_neg c1,if_neg c2,hP];exact if_neg c3
  have c3':(1099511627776<QZ (qu d.rc) p)=False:=by simp only [eq_iff_iff,iff_false];exact c3
  simp -implicitDefEqProofs (disch:=omega)[qb,c3',a2,b2,qf,dyC,lnC]
  have hno:∀ q∈E,q.1≠l.name:=QG (by rw [hE l.name,if_neg c1])
  refine qrY qoV (x:=mid) (D:=l.name) (v:=(d.rc.length:Int)) rfl rfl rfl m2 (fun A q B e e2 _=>absurd e2 (hno q (by rw [e];simp))) (fun _=>?_)
  have l2m:=qj m2
  have l2a:=qj a2
  have l2b:=qj b2
  have bne:b≠mid:=by omega
  simp -implicitDefEqProofs (disch:=omega)[qb,zW,zJ,zE,l2m]
  have n3:∀ j,j≠mid→qr (H2.set mid (mpK Qb (E++[(l.name,clk,(d.rc.length:Int))]) (clk+1))) j=qr H2 j:=fun j hj=>qh (by omega)
  have m3:qr (H2.set mid (mpK Qb (E++[(l.name,clk,(d.rc.length:Int))]) (clk+1))) mid=some (mpK Qb (E++[(l.name,clk,(d.rc.length:Int))]) (clk+1)):=qi l2m
  have a3:=(n3 a (by omega)).trans a2
  have b3:=(n3 b (by omega)).trans b2
  have l3:(H2.set mid (mpK Qb (E++[(l.name,clk,(d.rc.length:Int))]) (clk+1))).length=H2.length:=by simp
  generalize H2.set mid (mpK Qb (E++[(l.name,clk,(d.rc.length:Int))]) (clk+1))=H3 at *
  simp -implicitDefEqProofs (disch:=omega)[qb,a3,b3,qf,dyC,lnC]
  refine qdA (n:=d.rc.length) rfl rfl qco ?_
  simp -implicitDefEqProofs (disch:=omega)[qb,a3,b3,qf,dyC,lnC]
  refine zq (ys:=[.agg (bkC (l.name,p))]) (ids:=[]) rfl rfl ?_
  simp -implicitDefEqProofs (disch:=omega)[qb,zP,bkC,qco,Xa qnv,zW,zJ,zE]
  have a4:qr (H3++[HObj.cells (fl bkC d.rc++[S l.name,Pts p])]) a=some (.cells (dyC d++[.mp mid,x6,x7])):=(qk (by omega)).trans a3
  have m4:qr (H3++[HObj.cells (fl bkC d.rc++[S l.name,Pts p])]) mid=some (mpK Qb (E++[(l.name,clk,(d.rc.length:Int))]) (clk+1)):=(qk (by omega)).trans m3
  have n4:qr (H3++[HObj.cells (fl bkC d.rc++[S l.name,Pts p])]) H3.length=some (.cells (fl bkC d.rc++[S l.name,Pts p])):=Qn
  have k4:∀ j,j<H.length→j≠a→j≠mid→qr (H3++[HObj.cells (fl bkC d.rc++[S l.name,Pts p])]) j=qr H j:=fun j hj h1 h2=>(qk (by omega)).trans ((n3 j h2).trans (x2.2 j hj))
  have l4:(H3++[HObj.cells (fl bkC d.rc++[S l.name,Pts p])]).length=H3.length+1:=by simp
  generalize H3++[HObj.cells (fl bkC d.rc++[S l.name,Pts p])]=H4 at *
  have l4a:=qj a4
  simp -implicitDefEqProofs (disch:=omega)[qb,a4,qt,dyC,l4a,zW,zJ,zE]
  refine ⟨⟨by omega,by omega⟩,?_⟩
  rw [hn]
  have c5:qr (H4.set a (.cells [.ms H3.length 0 (d.rc.length+1) 2,I d.bath,I d.laid,Pts d.pat,Shs d.sh,.mp mid,x6,x7])) a=some (.cells [.ms H3.length 0 (d.rc.length+1) 2,I d.bath,I d.laid,Pts d.pat,Shs d.sh,.mp mid,x6,x7]):=qi l4a
  have n5:∀ j,j≠a→qr (H4.set a (.cells [.ms H3.length 0 (d.rc.length+1) 2,I d.bath,I d.laid,Pts d.pat,Shs d.sh,.mp mid,x6,x7])) j=qr H4 j:=fun j hj=>qh (by omega)
  refine ⟨rfl,by rw [List.length_set];omega,fun j hj h1 h2=>(n5 j h1).trans (k4 j hj h1 h2),⟨_,[H3.length],c5,?_,fun i hi=>?_⟩,E++[(l.name,clk,(d.rc.length:Int))],clk+1,(n5 mid hne).trans m4,hE.push c1,hPw.push hno⟩
  · have hcl : fl bkC d.rc ++ [S l.name,Pts p] = fl bkC (d.rc ++ [(l.name,p)]) := by rw [jr]; rfl
    refine .fz (y := .sl false (d.rc.length+1) (fl bkC (d.rc++[(l.name,p)]))) (js:=[H3.length]) ?_ (fun j hj=>hj) ?_ FzL.refl
    · have := (n5 H3.length (by omega)).trans n4
      rw [hcl] at this
      exact qgt this (by rw [qco];simp) (Xa qnv _)
    · have e : d.rc.length + 1 = (d.rc ++ [(l.name,p)]).length := by simp
      rw [e];exact .refl _
  · rw [List.mem_singleton] at hi
    subst hi
    exact ⟨by omega,_,(n5 _ (by omega)).trans n4⟩
 have k1':(l.kind==1)=false:=by rw [beq_eq_false_iff_ne];exact k1
 by_cases k2:l.kind=2
 case pos =>
  have k2':(l.kind==2)=true:=by rw [beq_iff_eq];exact k2
  have hn:zi d l=({ d with bath:=d.bath+1,laid:=0,pat:=[] },0):=by unfold zi;rw [if_neg k1,if_pos k2]
  have l2a:=qj a2
  have ss:∀ o,qr (H2.set a o) a=some o:=fun o=>qi l2a
  simp -implicitDefEqProofs (disch:=omega)[qb,k1',k2',a2,b2,qf,dyC,lnC,qt,l2a,ss,List.set_set]
  rw [hn]
  have n5:∀ j,j≠a→qr (H2.set a (.cells [Bks d.rc,I (d.bath+1),I 0,.sl true 0 [],Shs d.sh,.mp mid,x6,x7])) j=qr H2 j:=fun j hj=>qh (by omega)
  exact ⟨rfl,by rw [List.length_set];exact x2.1,fun j hj h1 h2=>(n5 j h1).trans (x2.2 j hj),⟨_,[],ss _,FzL.wk (.cons (.refl _) (.cons (.refl _) (.cons (.refl _) (.cons .slf (.cons (.refl _) .rfl'))))),by simp⟩,E,clk,(n5 mid hne).trans m2,hE,hPw⟩
 have k2':(l.kind==2)=false:=by rw [beq_eq_false_iff_ne];exact k2
 by_cases b0:d.bath=0
 case pos =>
  have hn:zi d l=(d,9):=by unfold zi;rw [if_neg k1,if_neg k2,if_pos b0]
  have b0':(d.bath==0)=true:=by rw [beq_iff_eq];exact b0
  simp -implicitDefEqProofs (disch:=omega)[qb,k1',k2',b0',a2,b2,qf,dyC,lnC]
  exact err 9 hn
 have b0':(d.bath==0)=false:=by rw [beq_eq_false_iff_ne];exact b0
 by_cases k3:l.kind=3
 case pos =>
  have k3':(l.kind==3)=true:=by rw [beq_iff_eq];exact k3
  have hpl:(P.getD []).length≤8:=by
   cases P with
   | none=>simp
   | some p=>simp [Yw hP,wl]
  simp -implicitDefEqProofs (disch:=omega)[qb,k1',k2',b0',k3',a2,b2,qf,dyC,lnC]
  refine zq (ys:=[Pts d.pat,Pts (P.getD [])]) (ids:=[]) rfl rfl ?_
  simp -implicitDefEqProofs (disch:=omega)[qb,zP]
  refine qg (ys:=[.sl true [d.pat,P.getD []].length ([d.pat,P.getD []].map Pts)]) (ids:=[]) rfl (qfn [d.pat,P.getD []] (by simp) (by simp;omega)) ?_
  have ef:[d.pat,P.getD []].flatten=d.pat++P.getD []:=by simp
  rw [ef]
  simp -implicitDefEqProofs (disch:=omega)[qb,AV.scalar]
  cases P with
  | none =>
    have hn:zi d l=(d,5):=by unfold zi;rw [if_neg k1,if_neg k2,if_neg b0,if_pos k3,hP]
    simp -implicitDefEqProofs (disch:=omega)[qb]
    exact err 5 hn
  | some p =>
  have hpB:∀ q∈p,qI (qu d.rc).length q=true:=by rw [hLn];exact VN hl.words hP
  have hpB2 : ∀ q ∈ d.pat ++ p,qI (qu d.rc).length q = true := fun q hq => by
   rcases List.mem_append.1 hq with hq | hq
   · rw [hLn];exact hd.pat q hq
   · exact hpB q hq
  have hU:zi d l=if 64<(d.pat++p).length then (d,10) else if QM<QZ (qu d.rc) (d.pat++p) then (d,4) else ({ d with pat:=d.pat++p },0):=by
   unfold zi;rw [if_neg k1,if_neg k2,if_neg b0,if_pos k3,hP]
  have hlen:(d.pat++p).length≤200000:=by
   rw [List.length_append]
   have:p.length≤8:=hpl
   omega
  have hg:d.pat++(some p).getD []=d.pat++p:=rfl
  simp only [hg]
  generalize d.pat++p=q at *
  simp -implicitDefEqProofs (disch:=omega)[qb]
  by_cases c2:64<q.length
  case pos =>
   have hn:zi d l=(d,10):=by rw [hU,if_pos c2]
   have c2':(64<(q.length:Int))=True:=by simp only [eq_iff_iff,iff_true];omega
   simp -implicitDefEqProofs (disch:=omega)[qb,c2']
   exact err 10 hn
  have c2':(64<(q.length:Int))=False:=by simp only [eq_iff_iff,iff_false];omega
  simp -implicitDefEqProofs (disch:=omega)[qb,c2']
  refine qg (ys:=[Ls false (qu d.rc),JG false q]) (ids:=[]) rfl (QN false false _ q hLO hpB2 (by omega)) ?_
  simp -implicitDefEqProofs (disch:=omega)[qb,AV.scalar]
  by_cases c3:QM<QZ (qu d.rc) q
  case pos =>
   have hn:zi d l=(d,4):=by rw [hU,if_neg c2,if_pos c3]
   have c3':(1099511627776<QZ (qu d.rc) q)=True:=by simp only [eq_iff_iff,iff_true];exact c3
   simp -implicitDefEqProofs (disch:=omega)[qb,c3']
   exact err 4 hn
  have hn:zi d l=({ d with pat:=q },0):=by rw [hU,if_neg c2,if_neg c3]
  have c3':(1099511627776<QZ (qu d.rc) q)=False:=by simp only [eq_iff_iff,iff_false];exact c3
  have l2a:=qj a2
  have ss:∀ o,qr (H2.set a o) a=some o:=fun o=>qi l2a
  simp -implicitDefEqProofs (disch:=omega)[qb,c3',a2,qt,l2a,dyC]
  rw [hn]
  have n5:∀ j,j≠a→qr (H2.set a (.cells [Bks d.rc,I d.bath,I d.laid,Pts q,Shs d.sh,.mp mid,x6,x7])) j=qr H2 j:=fun j hj=>qh (by omega)
  exact ⟨rfl,by rw [List.length_set];exact x2.1,fun j hj h1 h2=>(n5 j h1).trans (x2.2 j hj),⟨_,[],ss _,FzL.refl,by simp⟩,E,clk,(n5 mid hne).trans m2,hE,hPw⟩
 have k3':(l.kind==3)=false:=by rw [beq_eq_false_iff_ne];exact k3
 have hU : zi d l = if d.sh.any (fun s => decide (s.num = l.num)) then (d,11) else if 8 ≤ d.laid then (d,10) else ({ d with sh := d.sh ++ [⟨l.num,d.bath,d.laid,d.pat⟩],laid := d.laid + 1,pat := [] },0) := by
  unfold zi;rw [if_neg k1,if_neg k2,if_neg b0,if_neg k3]
 have hany : decide (0 ≤ qiy (fun s : Sht => decide (s.num = l.num)) d.sh) = d.sh.any (fun s => decide (s.num = l.num)) := by
  unfold qiy
  cases hf:d.sh.findIdx? (fun s:Sht=>decide (s.num=l.num)) with
  | none =>
    have:=List.findIdx?_eq_none_iff.1 hf
    symm
    rw [show decide ((0:Int)≤-1)=false from rfl,List.any_eq_false]
    intro x hx
    have:=this x hx
    simpa using this
  | some i =>
    obtain ⟨h1,h2,_⟩:=List.findIdx?_eq_some_iff_getElem.1 hf
    symm
    rw [List.any_eq_true.2 ⟨_,List.getElem_mem h1,h2⟩]
    simp
 simp -implicitDefEqProofs (disch:=omega)[qb,k1',k2',b0',k3',a2,b2,qf,dyC,lnC]
 refine qfO (l:=l) (a:=b) b2 (by omega) fun H3 x3=>?_
 have a3:=(x3.2 a (qj a2)).trans a2
 have b3:=(x3.2 b (qj b2)).trans b2
 have m3:=(x3.2 mid (qj m2)).trans m2
 have x3':Ext H H3:=x2.trans x3
 have err3 : ∀ (e : Int),zi d l = (d,e) → qnU H a mid x6 x7 (zi d l).1 (zi d l).2 (I e) H3 := fun e he => by
  rw [he]
  exact ⟨rfl,x3'.1,fun j hj _ _=>x3'.2 j hj,⟨_,[],a3,FzL.refl,by simp⟩,E,clk,m3,hE,hPw⟩
 rw [hany]
 cases c1:d.sh.any (fun s=>decide (s.num=l.num)) with
 | true =>
   have hn:zi d l=(d,11):=by rw [hU,c1];rfl
   simp -implicitDefEqProofs (disch:=omega)[qb]
   exact err3 11 hn
 | false =>
 simp -implicitDefEqProofs (disch:=omega)[qb,a3,qf,dyC]
 by_cases c2:8≤d.laid
 case pos =>
  have hn:zi d l=(d,10):=by rw [hU,c1];exact if_pos c2
  have c2':(d.laid==8)=true:=by rw [beq_iff_eq];omega
  simp -implicitDefEqProofs (disch:=omega)[qb,c2']
  exact err3 10 hn
 have hn:zi d l=({ d with sh:=d.sh++[⟨l.num,d.bath,d.laid,d.pat⟩],laid:=d.laid+1,pat:=[] },0):=by rw [hU,c1];exact if_neg c2
 have c2':(d.laid==8)=false:=by rw [beq_eq_false_iff_ne];omega
 have bne2:b≠a:=by omega
 simp -implicitDefEqProofs (disch:=omega)[qb,c2',a3,b3,qf,dyC,lnC]
 refine qdA (n:=d.sh.length) rfl rfl qdz ?_
 simp -implicitDefEqProofs (disch:=omega)[qb,a3,b3,qf,dyC,lnC]
 refine zq (ys:=[.agg (shC ⟨l.num,d.bath,d.laid,d.pat⟩)]) (ids:=[]) rfl rfl ?_
 simp -implicitDefEqProofs (disch:=omega)[qb,zP,shC,qdz,Xa qnM,zW,zJ,zE]
 have hcl:fl shC d.sh++[I l.num,I d.bath,I d.laid,Pts d.pat]=fl shC (d.sh++[⟨l.num,d.bath,d.laid,d.pat⟩]):=by rw [jr];rfl
 have l3a:=qj a3
 rw [hcl]
 have a4:qr (H3++[HObj.cells (fl shC (d.sh++[⟨l.num,d.bath,d.laid,d.pat⟩]))]) a=some (.cells (dyC d++[.mp mid,x6,x7])):=(qk l3a).trans a3
 have m4:qr (H3++[HObj.cells (fl shC (d.sh++[⟨l.num,d.bath,d.laid,d.pat⟩]))]) mid=some (mpK Qb E clk):=(qk (qj m3)).trans m3
 have n4:qr (H3++[HObj.cells (fl shC (d.sh++[⟨l.num,d.bath,d.laid,d.pat⟩]))]) H3.length=some (.cells (fl shC (d.sh++[⟨l.num,d.bath,d.laid,d.pat⟩]))):=Qn
 have k4:∀ j,j<H.length→qr (H3++[HObj.cells (fl shC (d.sh++[⟨l.num,d.bath,d.laid,d.pat⟩]))]) j=qr H j:=fun j hj=>(qk (by have:=x3'.1;omega)).trans (x3'.2 j hj)
 have l4:(H3++[HObj.cells (fl shC (d.sh++[⟨l.num,d.bath,d.laid,d.pat⟩]))]).length=H3.length+1:=by simp
 have l3H:H.length≤H3.length:=x3'.1
 generalize H3++[HObj.cells (fl shC (d.sh++[⟨l.num,d.bath,d.laid,d.pat⟩]))]=H4 at *
 have l4a:=qj a4
 have ss:∀ o,qr (H4.set a o) a=some o:=fun o=>qi l4a
 have lne:¬ H3.length=a:=by omega
 simp -implicitDefEqProofs (disch:=omega)[qb,a4,qt,dyC,l4a,zW,zJ,zE,ss,qf,List.set_set]
 rw [hn]
 have n5:∀ j,j≠a→qr (H4.set a (.cells [Bks d.rc,I d.bath,I (d.laid+1),.sl true 0 [],.ms H3.length 0 (d.sh.length+1) 4,.mp mid,x6,x7])) j=qr H4 j:=fun j hj=>qh (by omega)
 refine ⟨⟨by omega,by omega⟩,rfl,by rw [List.length_set];omega,fun j hj h1 h2=>(n5 j h1).trans (k4 j hj),⟨_,[H3.length],ss _,?_,fun i hi=>?_⟩,E,clk,(n5 mid hne).trans m4,hE,hPw⟩
 · refine .same (.refl _) (.same (.refl _) (.same (.refl _) (.same .slf (.fz (y := .sl false (d.sh.length + 1) (fl shC (d.sh ++ [⟨l.num,d.bath,d.laid,d.pat⟩]))) (js := [H3.length]) ?_ (fun j hj => hj) ?_ FzL.refl))))
   · exact qgt ((n5 H3.length (by omega)).trans n4) (by rw [qdz];simp) (Xa qnM _)
   · have e : d.sh.length + 1 = (d.sh ++ [(⟨l.num,d.bath,d.laid,d.pat⟩ : Sht)]).length := by simp
     rw [e];exact .refl _
 · rw [List.mem_singleton] at hi
   subst hi
   exact ⟨by omega,_,(n5 _ (by omega)).trans n4⟩
theorem Pw.del {A B:List (K3 (List UInt8))} {q:K3 (List UInt8)} (h:Pw (A++q::B)):Pw (A++B):=by
 unfold Pw at h ⊢
 rw [List.pairwise_append] at h ⊢
 obtain ⟨h1,h2,h3⟩:=h
 rw [List.pairwise_cons] at h2
 exact ⟨h1,h2.2,fun a ha b hb=>h3 a ha b (by simp [hb])⟩
theorem Pw.set {A B:List (K3 (List UInt8))} {q:K3 (List UInt8)} {b:Nat} {v:Int} (h:Pw (A++q::B)):Pw (A++(q.1,b,v)::B):=by
 unfold Pw at h ⊢
 rw [List.pairwise_append] at h ⊢
 obtain ⟨h1,h2,h3⟩:=h
 rw [List.pairwise_cons] at h2 ⊢
 refine ⟨h1,⟨h2.1,h2.2⟩,fun a ha b hb=>?_⟩
 rcases List.mem_cons.1 hb with rfl | hb
 · exact h3 a ha q (by simp)
 · exact h3 a ha b (by simp [hb])
theorem qmR {d : Dy} {st : List Stp} {n : Nat} (hn : n ≤ st.length) (hs : st.length ≤ 1000000) {H : List HObj} {a mid : Nat} {E : List (K3 (List UInt8))} {clk : Nat} (h1 : qr H a = some (.cells (dyC d ++ [.mp mid,Xj st,I (n : Int)]))) (h3 : qr H mid = some (mpK Qb E clk)) (hPw : Pw E) {K : AV → List HObj → Prop}
 (k0:n=0→K (I 5) H)
 (k1:∀ (h:n - 1<st.length),0<n→∀ H' E' clk',H.length≤H'.length→(∀ j,j<H.length→j≠a→j≠mid→qr H' j=qr H j)→qr H' a=some (.cells (dyC st[n - 1].2.2.1++[.mp mid,Xj st,I ((n - 1:Nat):Int)]))→qr H' mid=some (mpK Qb E' clk')→Pw E'→(∀ x,JT E' x=if st[n - 1].2.1.kind=1∧x=st[n - 1].2.1.name then none else JT E x)→K (I 0) H') :
 zG Tryz.prog 142 [.ref a 0] H K:=by
 refine walk Tryz.func142 qga (by kernel_rfl) (by show 1≤_;decide) ?_
 have la:=qj h1
 have lm:=qj h3
 have hne:mid≠a:=fun e=>by subst e;rw [h1] at h3;cases h3
 simp -implicitDefEqProofs (disch:=omega)[qg3,qb,h1,qf,dyC]
 by_cases h0:n=0
 case pos =>
  have h0':((n:Int)==0)=true:=by rw [beq_iff_eq];omega
  simp -implicitDefEqProofs (disch:=omega)[qb,h0']
  exact k0 h0
 have h0':((n:Int)==0)=false:=by rw [beq_eq_false_iff_ne];omega
 obtain ⟨m,rfl⟩:∃ m,n=m+1:=⟨n - 1,by omega⟩
 have nx:(((m+1:Nat):Int) - 1)=(m:Int):=by omega
 have hlt:m<st.length:=by omega
 have k1:=k1 hlt (by omega)
 simp only [Nat.add_sub_cancel] at k1
 have h0'':((m:Int)+1==0)=false:=by rw [beq_eq_false_iff_ne];omega
 have e0:(m:Int)+1 - 1=(m:Int):=by omega
 simp -implicitDefEqProofs (disch:=omega)[qb,h0'',h1,qf,dyC,e0,qt,la]
 have s1:qr (H.set a (.cells [Bks d.rc,I d.bath,I d.laid,Pts d.pat,Shs d.sh,.mp mid,Xj st,I (m:Int)])) a=some (.cells (dyC d++[.mp mid,Xj st,I (m:Int)])):=qi la
 have n1:∀ j,j≠a→qr (H.set a (.cells [Bks d.rc,I d.bath,I d.laid,Pts d.pat,Shs d.sh,.mp mid,Xj st,I (m:Int)])) j=qr H j:=fun j hj=>qh (by omega)
 have l1:(H.set a (.cells [Bks d.rc,I d.bath,I d.laid,Pts d.pat,Shs d.sh,.mp mid,Xj st,I (m:Int)])).length=H.length:=by simp
 have m1:=(n1 mid hne).trans h3
 generalize H.set a (.cells [Bks d.rc,I d.bath,I d.laid,Pts d.pat,Shs d.sh,.mp mid,Xj st,I (m:Int)])=H1 at *
 have hna:¬ H1.length=a:=by omega
 generalize hst:st[m]=t at *
 obtain ⟨tx,l,d1,d2⟩:=t
 have hcs:∀ (K:AV→List (Nat × HObj)→Prop),Qm (fl stC st) (m*15) 15 true K=K (.agg (stC (tx,l,d1,d2))) []:=fun K=>by rw [qct hlt,hst]
 simp -implicitDefEqProofs (disch:=omega)[qb,s1,qf,dyC,hlt,hcs,JQ,stC,lnC,hna,zW,zJ,zE]
 have es:[S tx,I l.kind,S l.name,Wds l.words,I l.num,Bks d1.rc,I d1.bath,I d1.laid,Pts d1.pat,Shs d1.sh,Bks d2.rc,I d2.bath,I d2.laid,Pts d2.pat,Shs d2.sh]=stC (tx,l,d1,d2):=rfl
 simp only [es]
 have s2:qr (H1++[HObj.cells (stC (tx,l,d1,d2))]) a=some (.cells (dyC d++[.mp mid,Xj st,I (m:Int)])):=(qk (by omega)).trans s1
 have m2:qr (H1++[HObj.cells (stC (tx,l,d1,d2))]) mid=some (mpK Qb E clk):=(qk (by omega)).trans m1
 have c2:qr (H1++[HObj.cells (stC (tx,l,d1,d2))]) H1.length=some (.cells (stC (tx,l,d1,d2))):=Qn
 have k2:∀ j,j<H.length→j≠a→qr (H1++[HObj.cells (stC (tx,l,d1,d2))]) j=qr H j:=fun j hj h=>(qk (by omega)).trans (n1 j h)
 have l2:(H1++[HObj.cells (stC (tx,l,d1,d2))]).length=H.length+1:=by simp;omega
 generalize H1++[HObj.cells (stC (tx,l,d1,d2))]=H2 at *
 rw [l1] at c2 ⊢
 have l2a:=qj s2
 have l2m:=qj m2
 have fin : ∀ (H3 : List HObj) (E' : List (K3 (List UInt8))),qr H3 a = some (.cells (dyC d ++ [.mp mid,Xj st,I (m : Int)])) → qr H3 mid = some (mpK Qb E' clk) → H3.length = H.length + 1 → (∀ j,j < H.length → j ≠ a → j ≠ mid → qr H3 j = qr H j) → Pw E' → (∀ x,JT E' x = if l.kind = 1 ∧ x = l.name then none else JT E x) →
  K (I 0) (H3.set a (.cells (dyC d1 ++ [.mp mid,Xj st,I (m : Int)]))) := fun H3 E' q1 q2 q3 q4 q5 q6 =>
  k1 _ E' clk (by rw [List.length_set];omega) (fun j hj h1 h2=>(qh (by omega)).trans (q4 j hj h1 h2)) (qi (qj q1)) ((qh (by omega)).trans q2) q5 q6
 by_cases hk:l.kind=1
 · have hk' : (l.kind == 1) = true := by rw [beq_iff_eq]; exact hk
   simp -implicitDefEqProofs (disch:=omega)[qb,hk',s2,c2,qf,dyC,stC,lnC]
   refine qvJ qoV (x:=mid) (D:=l.name) rfl rfl m2 (fun A q B eE eq hA=>?_) (fun hno=>?_)
   · simp -implicitDefEqProofs (disch := omega) [qb,l2m,zW,zJ,zE]
     have n3:∀ j,j≠mid→qr (H2.set mid (mpK Qb (A++B) clk)) j=qr H2 j:=fun j hj=>qh (by omega)
     have m3:qr (H2.set mid (mpK Qb (A++B) clk)) mid=some (mpK Qb (A++B) clk):=qi l2m
     have s3:=(n3 a (by omega)).trans s2
     have c3:=(n3 H.length (by omega)).trans c2
     have l3:(H2.set mid (mpK Qb (A++B) clk)).length=H.length+1:=by rw [List.length_set];exact l2
     have k3:∀ j,j<H.length→j≠a→j≠mid→qr (H2.set mid (mpK Qb (A++B) clk)) j=qr H j:=fun j hj h1 h2=>(n3 j h2).trans (k2 j hj h1)
     generalize H2.set mid (mpK Qb (A++B) clk)=H3 at *
     have l3a:=qj s3
     subst eE
     have:=fin H3 (A++B) s3 m3 l3 k3 hPw.del (fun x=>by rw [qhp hPw,eq];simp [hk])
     simp -implicitDefEqProofs (disch:=omega)[qb,s3,c3,qf,dyC,stC,lnC,qt,l3a]
     exact this
   · simp -implicitDefEqProofs (disch := omega) [qb,s2,c2,qf,dyC,stC,lnC,qt,l2a,zW,zJ,zE]
     exact fin H2 E s2 m2 l2 (fun j hj h1 _ => k2 j hj h1) hPw (fun x => by
      by_cases e:x=l.name
      · rw [if_pos ⟨hk,e⟩,e];exact jM hno
      · rw [if_neg (fun h=>e h.2)])
 · have hk' : (l.kind == 1) = false := by rw [beq_eq_false_iff_ne]; exact hk
   simp -implicitDefEqProofs (disch:=omega)[qb,hk',s2,c2,qf,dyC,stC,lnC,qt,l2a]
   exact fin H2 E s2 m2 l2 (fun j hj h1 _=>k2 j hj h1) hPw (fun x=>by rw [if_neg (fun h=>hk h.1)])
theorem qks {d : Dy} {st : List Stp} {n : Nat} (hn : n ≤ st.length) (hs : st.length ≤ 1000000) (hrc : ∀ t ∈ st,t.2.2.1.rc.length ≤ 1000000) {H : List HObj} {a mid : Nat} {E : List (K3 (List UInt8))} {clk : Nat} (h1 : qr H a = some (.cells (dyC d ++ [.mp mid,Xj st,I (n : Int)]))) (h3 : qr H mid = some (mpK Qb E clk)) (hPw : Pw E) {K : AV → List HObj → Prop}
 (k0:n=st.length→K (I 5) H)
 (k1:∀ (h:n<st.length),∀ H' E' clk',H.length≤H'.length→(∀ j,j<H.length→j≠a→j≠mid→qr H' j=qr H j)→qr H' a=some (.cells (dyC st[n].2.2.2++[.mp mid,Xj st,I ((n+1:Nat):Int)]))→qr H' mid=some (mpK Qb E' clk')→Pw E'→(∀ x,JT E' x=if st[n].2.1.kind=1∧x=st[n].2.1.name then some (st[n].2.2.1.rc.length:Int) else JT E x)→K (I 0) H') :
 zG Tryz.prog 143 [.ref a 0] H K:=by
 refine walk Tryz.func143 qeN (by kernel_rfl) (by show 1≤_;decide) ?_
 have la:=qj h1
 have lm:=qj h3
 have hne:mid≠a:=fun e=>by subst e;rw [h1] at h3;cases h3
 simp -implicitDefEqProofs (disch:=omega)[qd2,qb,h1,qf,dyC,zW,zJ,zE]
 by_cases h0:n=st.length
 case pos =>
  have h0':((n:Int)==(st.length:Int))=true:=by rw [beq_iff_eq];omega
  simp -implicitDefEqProofs (disch:=omega)[qb,h0',zW,zJ,zE]
  exact k0 h0
 have h0':((n:Int)==(st.length:Int))=false:=by rw [beq_eq_false_iff_ne];omega
 have hlt:n<st.length:=by omega
 have k1:=k1 hlt
 have hrc1:=hrc _ (List.getElem_mem hlt)
 have hna:¬ H.length=a:=by omega
 generalize hst:st[n]=t at *
 obtain ⟨tx,l,d1,d2⟩:=t
 simp only at hrc1
 have hcs:∀ (K:AV→List (Nat × HObj)→Prop),Qm (fl stC st) (n*15) 15 true K=K (.agg (stC (tx,l,d1,d2))) []:=fun K=>by rw [qct hlt,hst]
 simp -implicitDefEqProofs (disch:=omega)[qb,h0',h1,qf,dyC,hlt,hcs,JQ,stC,lnC,hna,zW,zJ,zE]
 have es:[S tx,I l.kind,S l.name,Wds l.words,I l.num,Bks d1.rc,I d1.bath,I d1.laid,Pts d1.pat,Shs d1.sh,Bks d2.rc,I d2.bath,I d2.laid,Pts d2.pat,Shs d2.sh]=stC (tx,l,d1,d2):=rfl
 simp only [es]
 have s2:qr (H++[HObj.cells (stC (tx,l,d1,d2))]) a=some (.cells (dyC d++[.mp mid,Xj st,I (n:Int)])):=(qk (by omega)).trans h1
 have m2:qr (H++[HObj.cells (stC (tx,l,d1,d2))]) mid=some (mpK Qb E clk):=(qk (by omega)).trans h3
 have c2:qr (H++[HObj.cells (stC (tx,l,d1,d2))]) H.length=some (.cells (stC (tx,l,d1,d2))):=Qn
 have k2:∀ j,j<H.length→qr (H++[HObj.cells (stC (tx,l,d1,d2))]) j=qr H j:=fun j hj=>qk (by omega)
 have l2:(H++[HObj.cells (stC (tx,l,d1,d2))]).length=H.length+1:=by simp
 generalize H++[HObj.cells (stC (tx,l,d1,d2))]=H2 at *
 have l2a:=qj s2
 have l2m:=qj m2
 have nx:(n:Int)+1=((n+1:Nat):Int):=by omega
 have fin : ∀ (H3 : List HObj) (E' : List (K3 (List UInt8))) (clk' : Nat),qr H3 a = some (.cells (dyC d ++ [.mp mid,Xj st,I (n : Int)])) → qr H3 mid = some (mpK Qb E' clk') → H3.length = H.length + 1 → (∀ j,j < H.length → j ≠ a → j ≠ mid → qr H3 j = qr H j) → Pw E' → (∀ x,JT E' x = if l.kind = 1 ∧ x = l.name then some (d1.rc.length : Int) else JT E x) →
  K (I 0) (H3.set a (.cells (dyC d2 ++ [.mp mid,Xj st,I ((n : Int) + 1)]))) := fun H3 E' clk' q1 q2 q3 q4 q5 q6 => by
  rw [nx]
  exact k1 _ E' clk' (by rw [List.length_set];omega) (fun j hj h1 h2=>(qh (by omega)).trans (q4 j hj h1 h2)) (qi (qj q1)) ((qh (by omega)).trans q2) q5 q6
 by_cases hk:l.kind=1
 · have hk' : (l.kind == 1) = true := by rw [beq_iff_eq]; exact hk
   have wr : ∀ (H3 : List HObj) (E' : List (K3 (List UInt8))) (clk' : Nat),H3 = H2.set mid (mpK Qb E' clk') → qr H3 a = some (.cells (dyC d ++ [.mp mid,Xj st,I (n : Int)])) ∧ qr H3 mid = some (mpK Qb E' clk') ∧ qr H3 H.length = some (.cells (stC (tx,l,d1,d2))) ∧ H3.length = H.length + 1 ∧ (∀ j,j < H.length → j ≠ a → j ≠ mid → qr H3 j = qr H j) := fun H3 E' clk' e => by
    subst e
    exact ⟨(qh (by omega)).trans s2,qi l2m,(qh (by omega)).trans c2,by rw [List.length_set];exact l2,fun j hj h1 h2=>(qh (by omega)).trans (k2 j hj)⟩
   simp -implicitDefEqProofs (disch:=omega)[qb,hk',s2,c2,qf,dyC,stC,lnC]
   refine qrY qoV (x:=mid) (D:=l.name) (v:=(d1.rc.length:Int)) rfl rfl rfl m2 (fun A q B eE eq hA=>?_) (fun hno=>?_)
   · simp -implicitDefEqProofs (disch := omega) [qb,l2m,zW,zJ,zE]
     obtain ⟨H3,hH3⟩:∃ H3,H3=H2.set mid (mpK Qb (A++(q.1,q.2.1,(d1.rc.length:Int))::B) clk):=⟨_,rfl⟩
     obtain ⟨s3,m3,c3,l3,k3⟩:=wr _ _ _ hH3
     rw [←hH3]
     have l3a:=qj s3
     subst eE
     have:=fin H3 _ clk s3 m3 l3 k3 hPw.set (fun x=>by rw [qhq (fun r hr=>by rw [eq];exact hA r hr),eq];simp [hk])
     have ss:∀ o,qr (H3.set a o) a=some o:=fun o=>qi l3a
     simp -implicitDefEqProofs (disch:=omega)[qb,s3,c3,qf,dyC,stC,lnC,qt,l3a,ss,List.set_set]
     exact this
   · simp -implicitDefEqProofs (disch := omega) [qb,l2m,zW,zJ,zE]
     obtain ⟨H3,hH3⟩:∃ H3,H3=H2.set mid (mpK Qb (E++[(l.name,clk,(d1.rc.length:Int))]) (clk+1)):=⟨_,rfl⟩
     obtain ⟨s3,m3,c3,l3,k3⟩:=wr _ _ _ hH3
     rw [←hH3]
     have l3a:=qj s3
     have:=fin H3 _ (clk+1) s3 m3 l3 k3 (hPw.push hno) (fun x=>by rw [qag hno];simp [hk])
     have ss:∀ o,qr (H3.set a o) a=some o:=fun o=>qi l3a
     simp -implicitDefEqProofs (disch:=omega)[qb,s3,c3,qf,dyC,stC,lnC,qt,l3a,ss,List.set_set]
     exact this
 · have hk' : (l.kind == 1) = false := by rw [beq_eq_false_iff_ne]; exact hk
   have ss:∀ o,qr (H2.set a o) a=some o:=fun o=>qi l2a
   simp -implicitDefEqProofs (disch:=omega)[qb,hk',s2,c2,qf,dyC,stC,lnC,qt,l2a,ss,List.set_set]
   exact fin H2 E clk s2 m2 l2 (fun j hj h1 _=>k2 j hj) hPw (fun x=>by rw [if_neg (fun h=>hk h.1)])
end Go.AM

namespace Go.AM
open Go.Shelf Go.Proofs
def qlq:Go.Shelf.Ren:=⟨fun | 219=>169 | 217=>181 | 225=>182 | 224=>183 | 267=>184 | 266=>189 | 314=>190 | n=>n,fun | 9=>9 | 3=>3 | 4=>4 | 5=>5 | 46=>189 | 146=>250 | 51=>217 | n=>n,fun | 1=>1 | n=>n⟩
theorem qvC : Go.Proofs.Lays.n219 Tryz.prog qlq := {
 mixed:=by kernel_rfl,
 f217:=Tryz.func181.trans (congrArg some (by kernel_rfl)),
 f219:=Tryz.func169.trans (congrArg some (by kernel_rfl)),
 f224:=Tryz.func183.trans (congrArg some (by kernel_rfl)),
 f225:=Tryz.func182.trans (congrArg some (by kernel_rfl)),
 f266:=Tryz.func189.trans (congrArg some (by kernel_rfl)),
 f267:=Tryz.func184.trans (congrArg some (by kernel_rfl)),
 f314:=Tryz.func190.trans (congrArg some (by kernel_rfl)),
 t3:=Tryz.underlying3,
 a3:=Tryz.isAgg3,
 z3:=Tryz.sizeOf3,
 v3:=Tryz.zeroValue3,
 t4:=Tryz.underlying4,
 a4:=Tryz.isAgg4,
 z4:=Tryz.sizeOf4,
 v4:=Tryz.zeroValue4,
 t5:=Tryz.underlying5,
 a5:=Tryz.isAgg5,
 z5:=Tryz.sizeOf5,
 v5:=Tryz.zeroValue5,
 t9:=Tryz.underlying9,
 a9:=Tryz.isAgg9,
 z9:=Tryz.sizeOf9,
 v9:=Tryz.zeroValue9,
 t46:=Tryz.underlying189,
 a46:=Tryz.isAgg189,
 z46:=Tryz.sizeOf189,
 v46:=Tryz.zeroValue189,
 t51:=Tryz.underlying217,
 a51:=Tryz.isAgg217,
 z51:=Tryz.sizeOf217,
 v51:=Tryz.zeroValue217,
 t146:=Tryz.underlying250,
 a146:=Tryz.isAgg250,
 z146:=Tryz.sizeOf250,
 v146:=Tryz.zeroValue250,
 g1:=by kernel_rfl }
def qjj:Go.Shelf.Ren:=⟨fun | 143=>152 | 219=>169 | 217=>181 | 225=>182 | 224=>183 | 267=>184 | 266=>189 | 314=>190 | n=>n,fun | 9=>9 | 3=>3 | 4=>4 | 5=>5 | 46=>189 | 146=>250 | 51=>217 | n=>n,fun | 1=>1 | n=>n⟩
theorem qtv : Go.Proofs.Lays.n143 Tryz.prog qjj := {
 mixed:=by kernel_rfl,
 f143:=Tryz.func152.trans (congrArg some (by kernel_rfl)),
 f217:=Tryz.func181.trans (congrArg some (by kernel_rfl)),
 f219:=Tryz.func169.trans (congrArg some (by kernel_rfl)),
 f224:=Tryz.func183.trans (congrArg some (by kernel_rfl)),
 f225:=Tryz.func182.trans (congrArg some (by kernel_rfl)),
 f266:=Tryz.func189.trans (congrArg some (by kernel_rfl)),
 f267:=Tryz.func184.trans (congrArg some (by kernel_rfl)),
 f314:=Tryz.func190.trans (congrArg some (by kernel_rfl)),
 t3:=Tryz.underlying3,
 a3:=Tryz.isAgg3,
 z3:=Tryz.sizeOf3,
 v3:=Tryz.zeroValue3,
 t4:=Tryz.underlying4,
 a4:=Tryz.isAgg4,
 z4:=Tryz.sizeOf4,
 v4:=Tryz.zeroValue4,
 t5:=Tryz.underlying5,
 a5:=Tryz.isAgg5,
 z5:=Tryz.sizeOf5,
 v5:=Tryz.zeroValue5,
 t9:=Tryz.underlying9,
 a9:=Tryz.isAgg9,
 z9:=Tryz.sizeOf9,
 v9:=Tryz.zeroValue9,
 t46:=Tryz.underlying189,
 a46:=Tryz.isAgg189,
 z46:=Tryz.sizeOf189,
 v46:=Tryz.zeroValue189,
 t51:=Tryz.underlying217,
 a51:=Tryz.isAgg217,
 z51:=Tryz.sizeOf217,
 v51:=Tryz.zeroValue217,
 t146:=Tryz.underlying250,
 a146:=Tryz.isAgg250,
 z146:=Tryz.sizeOf250,
 v146:=Tryz.zeroValue250,
 g1:=by kernel_rfl }
def qlo:Go.Shelf.Ren:=⟨fun | 138=>151 | 195=>166 | 218=>168 | 143=>152 | 219=>169 | 217=>181 | 225=>182 | 224=>183 | 267=>184 | 266=>189 | 314=>190 | n=>n,fun | 9=>9 | 3=>3 | 4=>4 | 5=>5 | 0=>0 | 46=>189 | 146=>250 | 51=>217 | n=>n,fun | 1=>1 | n=>n⟩
theorem qvA : Go.Proofs.Lays.n138 Tryz.prog qlo := {
 mixed:=by kernel_rfl,
 f138:=Tryz.func151.trans (congrArg some (by kernel_rfl)),
 f143:=Tryz.func152.trans (congrArg some (by kernel_rfl)),
 f195:=Tryz.func166.trans (congrArg some (by kernel_rfl)),
 f217:=Tryz.func181.trans (congrArg some (by kernel_rfl)),
 f218:=Tryz.func168.trans (congrArg some (by kernel_rfl)),
 f219:=Tryz.func169.trans (congrArg some (by kernel_rfl)),
 f224:=Tryz.func183.trans (congrArg some (by kernel_rfl)),
 f225:=Tryz.func182.trans (congrArg some (by kernel_rfl)),
 f266:=Tryz.func189.trans (congrArg some (by kernel_rfl)),
 f267:=Tryz.func184.trans (congrArg some (by kernel_rfl)),
 f314:=Tryz.func190.trans (congrArg some (by kernel_rfl)),
 t0:=Tryz.underlying0,
 a0:=Tryz.isAgg0,
 z0:=Tryz.sizeOf0,
 v0:=Tryz.zeroValue0,
 t3:=Tryz.underlying3,
 a3:=Tryz.isAgg3,
 z3:=Tryz.sizeOf3,
 v3:=Tryz.zeroValue3,
 t4:=Tryz.underlying4,
 a4:=Tryz.isAgg4,
 z4:=Tryz.sizeOf4,
 v4:=Tryz.zeroValue4,
 t5:=Tryz.underlying5,
 a5:=Tryz.isAgg5,
 z5:=Tryz.sizeOf5,
 v5:=Tryz.zeroValue5,
 t9:=Tryz.underlying9,
 a9:=Tryz.isAgg9,
 z9:=Tryz.sizeOf9,
 v9:=Tryz.zeroValue9,
 t46:=Tryz.underlying189,
 a46:=Tryz.isAgg189,
 z46:=Tryz.sizeOf189,
 v46:=Tryz.zeroValue189,
 t51:=Tryz.underlying217,
 a51:=Tryz.isAgg217,
 z51:=Tryz.sizeOf217,
 v51:=Tryz.zeroValue217,
 t146:=Tryz.underlying250,
 a146:=Tryz.isAgg250,
 z146:=Tryz.sizeOf250,
 v146:=Tryz.zeroValue250,
 g1:=by kernel_rfl }
def LSpl_ren:Go.Shelf.Ren:=⟨fun | 221=>132 | 268=>150 | 138=>151 | 143=>152 | 195=>166 | 197=>167 | 218=>168 | 219=>169 | 260=>180 | 217=>181 | 225=>182 | 224=>183 | 267=>184 | 266=>189 | 314=>190 | n=>n,fun | 9=>9 | 3=>3 | 31=>75 | 4=>4 | 0=>0 | 105=>226 | 21=>21 | 5=>5 | 46=>189 | 119=>246 | 139=>249 | 138=>248 | 146=>250 | 51=>217 | n=>n,fun | 1=>1 | 3=>6 | 4=>7 | n=>n⟩
theorem qvD : Go.Proofs.Lays.n221 Tryz.prog LSpl_ren := {
 mixed:=by kernel_rfl,
 f138:=Tryz.func151.trans (congrArg some (by kernel_rfl)),
 f143:=Tryz.func152.trans (congrArg some (by kernel_rfl)),
 f195:=Tryz.func166.trans (congrArg some (by kernel_rfl)),
 f197:=Tryz.func167.trans (congrArg some (by kernel_rfl)),
 f217:=Tryz.func181.trans (congrArg some (by kernel_rfl)),
 f218:=Tryz.func168.trans (congrArg some (by kernel_rfl)),
 f219:=Tryz.func169.trans (congrArg some (by kernel_rfl)),
 f221:=Tryz.func132.trans (congrArg some (by kernel_rfl)),
 f224:=Tryz.func183.trans (congrArg some (by kernel_rfl)),
 f225:=Tryz.func182.trans (congrArg some (by kernel_rfl)),
 f260:=Tryz.func180.trans (congrArg some (by kernel_rfl)),
 f266:=Tryz.func189.trans (congrArg some (by kernel_rfl)),
 f267:=Tryz.func184.trans (congrArg some (by kernel_rfl)),
 f268:=Tryz.func150.trans (congrArg some (by kernel_rfl)),
 f314:=Tryz.func190.trans (congrArg some (by kernel_rfl)),
 t0:=Tryz.underlying0,
 a0:=Tryz.isAgg0,
 z0:=Tryz.sizeOf0,
 v0:=Tryz.zeroValue0,
 t3:=Tryz.underlying3,
 a3:=Tryz.isAgg3,
 z3:=Tryz.sizeOf3,
 v3:=Tryz.zeroValue3,
 t4:=Tryz.underlying4,
 a4:=Tryz.isAgg4,
 z4:=Tryz.sizeOf4,
 v4:=Tryz.zeroValue4,
 t5:=Tryz.underlying5,
 a5:=Tryz.isAgg5,
 z5:=Tryz.sizeOf5,
 v5:=Tryz.zeroValue5,
 t9:=Tryz.underlying9,
 a9:=Tryz.isAgg9,
 z9:=Tryz.sizeOf9,
 v9:=Tryz.zeroValue9,
 t21:=Tryz.underlying21,
 a21:=Tryz.isAgg21,
 z21:=Tryz.sizeOf21,
 v21:=Tryz.zeroValue21,
 t31:=Tryz.underlying75,
 a31:=Tryz.isAgg75,
 z31:=Tryz.sizeOf75,
 v31:=Tryz.zeroValue75,
 t46:=Tryz.underlying189,
 a46:=Tryz.isAgg189,
 z46:=Tryz.sizeOf189,
 v46:=Tryz.zeroValue189,
 t51:=Tryz.underlying217,
 a51:=Tryz.isAgg217,
 z51:=Tryz.sizeOf217,
 v51:=Tryz.zeroValue217,
 t105:=Tryz.underlying226,
 a105:=Tryz.isAgg226,
 z105:=Tryz.sizeOf226,
 v105:=Tryz.zeroValue226,
 t119:=Tryz.underlying246,
 a119:=Tryz.isAgg246,
 z119:=Tryz.sizeOf246,
 t138:=Tryz.underlying248,
 a138:=Tryz.isAgg248,
 z138:=Tryz.sizeOf248,
 v138:=Tryz.zeroValue248,
 t139:=Tryz.underlying249,
 a139:=Tryz.isAgg249,
 z139:=Tryz.sizeOf249,
 v139:=Tryz.zeroValue249,
 t146:=Tryz.underlying250,
 a146:=Tryz.isAgg250,
 z146:=Tryz.sizeOf250,
 v146:=Tryz.zeroValue250,
 g1:=by kernel_rfl,
 g3:=by kernel_rfl,
 g4:=by kernel_rfl }
def qlp:Go.Shelf.Ren:=⟨fun | 17=>83 | 15=>125 | 20=>149 | n=>n,fun | 9=>9 | 23=>130 | 4=>4 | 3=>3 | 0=>0 | 21=>21 | n=>n,fun | n=>n⟩
theorem qvB : Go.Proofs.LaysGw.n17 Tryz.prog qlp := {
 mixed:=by kernel_rfl,
 f15:=Tryz.func125.trans (congrArg some (by kernel_rfl)),
 f17:=Tryz.func83.trans (congrArg some (by kernel_rfl)),
 f20:=Tryz.func149.trans (congrArg some (by kernel_rfl)),
 t0:=Tryz.underlying0,
 a0:=Tryz.isAgg0,
 z0:=Tryz.sizeOf0,
 v0:=Tryz.zeroValue0,
 i0:=by kernel_rfl,
 t3:=Tryz.underlying3,
 a3:=Tryz.isAgg3,
 z3:=Tryz.sizeOf3,
 v3:=Tryz.zeroValue3,
 i3:=by kernel_rfl,
 t4:=Tryz.underlying4,
 a4:=Tryz.isAgg4,
 z4:=Tryz.sizeOf4,
 v4:=Tryz.zeroValue4,
 i4:=by kernel_rfl,
 t9:=Tryz.underlying9,
 a9:=Tryz.isAgg9,
 z9:=Tryz.sizeOf9,
 v9:=Tryz.zeroValue9,
 i9:=by kernel_rfl,
 t21:=Tryz.underlying21,
 a21:=Tryz.isAgg21,
 z21:=Tryz.sizeOf21,
 v21:=Tryz.zeroValue21,
 i21:=by kernel_rfl,
 t23:=Tryz.underlying130,
 a23:=Tryz.isAgg130,
 z23:=Tryz.sizeOf130,
 v23:=Tryz.zeroValue130,
 i23:=by kernel_rfl }
end Go.AM

namespace Go.AM
open Go.RowKit Go.Proofs Go.Shelf
theorem HeapOK.below {hp:Hp} {g:G} {w w':World} (h:HeapOK hp g w) (hb:Below w.heap.size w w'):HeapOK hp g w'∧Upd hp g w hp g w':=by
 have hk:∀ b,b<w.heap.size→w'.heap[b]?=w.heap[b]?:=hb.block
 have hcell : ∀ b q,g.S b q → w'.cell? ⟨b,q,none⟩ = w.cell? ⟨b,q,none⟩ := fun b q hs => by
  obtain ⟨v,hv⟩:=h.ex b q hs
  exact World.cell?_of_block (hk b (World.block_lt_of_cell? _ _ hv))
 have tr:Trans w g w' g:=⟨fun _ _ x=>x,hcell,fun _ _ x=>x,fun b arr ty fz hb=>⟨arr,(hk b (Array.getElem?_eq_some_iff.1 hb).1).trans hb,rfl⟩,hb.os,hb.tape,hb.output,hb.size,Nat.le_refl _⟩
 refine ⟨h.change (fun _=>False) tr (fun _ _=>rfl) (fun _ _=>rfl) (fun i o c d hi ho hl hr'=>hk _ (h.lt ho hl hr')) (fun i o c d hi ho hl hr' q hq=>hq) (fun _ h=>h.elim) (fun _ _ _ _ _ _ _ h=>h.elim) (fun b q hs=>?_),tr,fun c hc => .inl hc,fun b q hs => .inl hs,fun b hb _=>hk b hb⟩
 obtain ⟨v,hv⟩:=h.ex b q hs
 exact ⟨v,(tr.cell b q hs).trans hv⟩
theorem qjo {w:World} {g:G} {p:Bool} {vs:Array Value} {xs:List Value} (h1:vs.size=(xs.map AV.v).length) (h2:∀ i (h:i<(xs.map AV.v).length),Rep w g p (xs.map AV.v)[i] (vs.getD i undef)):vs=xs.toArray:=by
 apply Array.ext
 · simp at h1 ⊢;exact h1
 · intro i ha hb
   have h:=QS (by have:=h2 i (by simp at h1 ⊢;omega);rw [List.getElem_map] at this;exact this)
   rw [Array.getD_eq_getD_getElem?,Array.getElem?_eq_getElem ha] at h
   simpa using h
theorem VP {P:Program} {f:FuncId} {xs:List Value} {r:Value} (h:∀ (g:G) (w:World),TabOK g w→Calls P f xs.toArray w fun e w'=>e = .returned r∧Below w.heap.size w w'):qC P f (xs.map AV.v) (.v r):=by
 intro ro n w g vs hok hvs hrep
 have:=qjo hvs hrep
 subst this
 have main2:CallsIn Fence.wide n P f xs.toArray w _:=callsIn_wide.2 (h g w hok.tab)
 refine CallsIn.mono (F:=W ro) main2 ?_
 rintro e w' ⟨rfl,hb⟩
 obtain ⟨k1,k2⟩:=hok.below hb
 exact ⟨_,g,rfl,.v _ _,k1,k2⟩
theorem qar (c:UInt8):∀ s:List UInt8,Lib.indexByte s c=match (JX c s).2 with | some _=>((JX c s).1.length:Int) | none => -1:=by
 intro s
 induction s with
 | nil=>rfl
 | cons b r ih =>
   unfold Lib.indexByte JX
   by_cases hb:b=c
   · subst hb;simp
   · have : (b == c) = false := by rw [beq_eq_false_iff_ne]; exact hb
     rw [this,if_neg hb,ih]
     cases (JX c r).2 with
     | none=>simp
     | some t=>simp
def qqy (c:UInt8) (s:List UInt8):Int:=match (JX c s).2 with | some _=>((JX c s).1.length:Int) | none => -1
theorem qgd (s:List UInt8) (c:UInt8):qC Tryz.prog 169 [S s,S [c]] (I (qqy c s)):=by
 have k:=fun w=>Any.stringslite_Index_one (P:=Tryz.prog) qvC ⟨s.toArray⟩ c w
 have e:Lib.indexByte s c=qqy c s:=qar c s
 refine VP (xs:=[.string ⟨s.toArray⟩,.string ⟨#[c]⟩]) (r := .int .i64 (qqy c s)) fun g w _=>?_
 refine (k w).mono ?_
 rintro e w' ⟨rfl,rfl⟩
 exact ⟨by rw [←e],Below.refl _ _⟩
theorem qhg {c:UInt8} {a:List UInt8} (h:∀ b∈a,b≠c):a.count c=0:=List.count_eq_zero.2 fun hc=>h c hc rfl
theorem qj6 (c:UInt8) (s:List UInt8):Lib.index s [c]=qqy c s:=(Lib.index_one s c).trans (qar c s)
theorem qfr (c : UInt8) : ∀ (k : Nat) (s : List UInt8),k = s.count c → Lib.splitK [c] 0 k s = qM c s
 | 0,s,hk=>by
   rcases qbM c s with ⟨a,h1,rfl,h3⟩ | ⟨a,r,h1,rfl,h3⟩
   · rw [YD h1];rfl
   · rw [List.count_append,List.count_cons_self] at hk;omega
 | k+1, s, hk=>by
   rcases qbM c s with ⟨a,h1,rfl,h3⟩ | ⟨a,r,h1,rfl,h3⟩
   · rw [qhg h1] at hk;omega
   · rw [List.count_append,List.count_cons_self,qhg h1] at hk
     have hi:Lib.index (a++c::r) [c]=(a.length:Int):=by rw [qj6];unfold qqy;rw [h3]
     rw [qfs h1]
     unfold Lib.splitK
     have hm:((a.length:Int) == -1)=false:=by rw [beq_eq_false_iff_ne];omega
     rw [hi,hm]
     simp only [Bool.false_eq_true,if_false,Int.toNat_natCast,Nat.add_zero,List.length_singleton]
     rw [List.take_left' rfl,show a++c::r=(a++[c])++r by simp,List.drop_left' (by simp),qfr c k r (by omega)]
theorem qcg (c : UInt8) : ∀ s : List UInt8,(qM c s).length = s.count c + 1
 | []=>rfl
 | b::r=>by
   have ih:=qcg c r
   unfold qM
   by_cases hb:b=c
   · subst hb
     rw [if_pos rfl,List.length_cons,ih,List.count_cons_self]
   · rw [if_neg hb,List.count_cons_of_ne hb]
     cases hs:qM c r with
     | nil=>exact absurd hs (Jz c r)
     | cons x xs=>rw [hs] at ih;simpa using ih
theorem qkX (c:UInt8) (s:List UInt8):Lib.splitB ⟨#[c]⟩ 0 (s.count c) ⟨s.toArray⟩=(qM c s).map fun x=>⟨x.toArray⟩:=by
 have h:=Lib.splitB_data ⟨#[c]⟩ 0 (s.count c) ⟨s.toArray⟩
 have h2:Lib.splitK (⟨#[c]⟩:ByteArray).data.toList 0 (s.count c) (⟨s.toArray⟩:ByteArray).data.toList=qM c s:=qfr c _ s rfl
 rw [h2] at h
 rw [←h,List.map_map]
 conv=>lhs;rw [←List.map_id (Lib.splitB ⟨#[c]⟩ 0 (s.count c) ⟨s.toArray⟩)]
 exact List.map_congr_left fun x _=>qsy x
theorem qcV (s:List UInt8) (c:UInt8) (hs:s.length≤1000000):qC Tryz.prog 132 [S s,S [c],I 0,I (-1)] (qqK (qM c s)):=by
 intro ro n w g vs hok hvs hrep
 have:=qjo (xs:=[.string ⟨s.toArray⟩,.string ⟨#[c]⟩,.int .i64 0,.int .i64 (-1)]) hvs hrep
 subst this
 have hcnt:s.count c≤s.length:=List.count_le_length
 have hcl:Lib.countB ⟨s.toArray⟩ ⟨#[c]⟩=s.count c:=Lib.count_one c s
 have main := Any.strings_genSplit_core (P := Tryz.prog) qvD (by kernel_rfl) ⟨s.toArray⟩ ⟨#[c]⟩ 0 (-1) (s.count c + 1) w (by show s.length < _; omega) (Nat.le_refl 1) (Nat.zero_le _)
  (fun x arr hx => by
   refine (Any.strings_Index_one (P:=Tryz.prog) qtv x c _).mono ?_
   rintro e w' ⟨rfl,rfl⟩
   exact ⟨by rw [←Lib.index_one],rfl⟩)
  (by
   refine (Any.strings_Count_one (P:=Tryz.prog) qvA ⟨s.toArray⟩ c w).mono ?_
   rintro e w' ⟨rfl,rfl⟩
   exact ⟨by rw [hcl];rfl,rfl⟩) (by decide) (by decide) (by
   rw [hcl]
   have:((⟨s.toArray⟩:ByteArray).size:Int)=(s.length:Int):=rfl
   rw [this,if_pos (by decide)]
   omega)
 rw [Nat.add_sub_cancel,qkX] at main
 have main2:CallsIn Fence.wide n Tryz.prog 132 #[.string ⟨s.toArray⟩,.string ⟨#[c]⟩,.int .i64 0,.int .i64 (-1)] w _:=callsIn_wide.2 main
 refine CallsIn.mono (F:=W ro) main2 ?_
 rintro e w' ⟨rfl,rfl⟩
 obtain ⟨k1,k2⟩:=hok.alloc_pub (Lib.cellsOf ((qM c s).map fun x=>⟨x.toArray⟩) (s.count c+1)) (LSpl_ren.t 9)
 have hl:=qcg c s
 refine ⟨_,_,rfl,?_,k1,k2⟩
 have hcells : fl WJ (qM c s) = (qM c s).map fun x => S x := by
  unfold fl WJ
  generalize qM c s=L
  induction L with
  | nil=>rfl
  | cons x L ih=>rw [List.flatMap_cons,ih];rfl
 have hget : ∀ i (h : i < (qM c s).length),(Lib.cellsOf ((qM c s).map fun x => ⟨x.toArray⟩) (s.count c + 1))[i]? = some (.string ⟨(qM c s)[i].toArray⟩) := fun i h => by
  unfold Lib.cellsOf
  rw [List.getElem?_toArray,List.getElem?_append_left (by simpa using h)]
  simp [h]
 rw [List.length_map]
 refine .sl true false _ _ (some ⟨w.heap.size,0,none⟩) _ (fun i => .string ⟨((qM c s).getD i []).toArray⟩) (by omega) (fun h=>by cases h) (fun i hi=>?_) (fun i hi=>?_)
 · have hi' : i < (qM c s).length := by rw [hcells] at hi; simpa using hi
   refine ⟨_,rfl,rfl,.inr ⟨rfl,?_⟩,?_⟩
   · rw [Lib.cellsOf_size (by rw [List.length_map]; omega)]
     show 0+i<_;omega
   · have := hget i hi'
     simp only [Nat.zero_add]
     rw [List.getD_eq_getElem?_getD,List.getElem?_eq_getElem hi']
     simpa using this
 · have hi' : i < (qM c s).length := by rw [hcells] at hi; simpa using hi
   have e:(fl WJ (qM c s))[i]=S ((qM c s).getD i []):=by
    simp only [hcells,List.getElem_map]
    rw [List.getD_eq_getElem?_getD,List.getElem?_eq_getElem hi'];rfl
   rw [e]
   exact .v _ _
theorem qbT (s:List UInt8) (c:UInt8) (hs:s.length≤1000000):qC Tryz.prog 104 [S s,S [c]] (qqK (qM c s)):=by
 refine qT (walk Tryz.func104 qez (by kernel_rfl) (by show 2≤_;decide) ?_)
 simp -implicitDefEqProofs (disch:=omega)[qdR,qb]
 refine qg (ys:=[S s,S [c],I 0,I (-1)]) (ids:=[]) rfl (qcV s c hs) ?_
 simp -implicitDefEqProofs (disch:=omega)[qb]
 exact ⟨[],rfl⟩
theorem qjA (n b0 b1 b2 b3:Nat) (h:128≤b0):128≤(Lib.decodeN n b0 b1 b2 b3).1:=by
 unfold Lib.decodeN
 repeat' split
 all_goals first | omega | (simp only;omega)
theorem qlV (n b0 b1 b2 b3:Nat) (h:b0<128):Lib.decodeN n b0 b1 b2 b3=(b0,1):=by simp [Lib.decodeN,h]
theorem qrO (s:List UInt8) (i:Nat) (h:i<s.length):(⟨s.toArray⟩:ByteArray).get! i=s[i]:=by
 show s.toArray[i]! = _
 simp [h]
def Vh (r:Nat):Bool:=decide (r<97) || decide (122<r)
theorem qj5 (s : List UInt8) : ∀ (f pos : Nat), s.length ≤ pos + f → (0 ≤ Lib.idxFuncFrom Vh true ⟨s.toArray⟩ f pos ↔ (s.drop pos).all YN = false)
 | 0,pos,h=>by
   rw [List.drop_eq_nil_of_le (by omega)]
   simp [Lib.idxFuncFrom]
 | f+1, pos, h=>by
   unfold Lib.idxFuncFrom
   by_cases hp:pos<s.length
   · rw [if_pos (show pos < (⟨s.toArray⟩ : ByteArray).size from hp), List.drop_eq_getElem_cons hp, List.all_cons]
     have hd:=Lib.decode_at ⟨s.toArray⟩ pos
     rw [qrO s pos hp] at hd
     by_cases h8:s[pos].toNat<128
     · rw [qlV _ _ _ _ _ h8] at hd
       rw [hd]
       simp only
       by_cases hl:YN s[pos]=true
       · have hn:Vh s[pos].toNat=false:=by
          unfold YN at hl;simp only [Bool.and_eq_true,decide_eq_true_eq] at hl
          unfold Vh;simp;omega
         rw [hn,hl,if_neg (by decide),Bool.true_and]
         exact qj5 s f (pos+1) (by omega)
       · have hl' : YN s[pos] = false := by simpa using hl
         have hn:Vh s[pos].toNat=true:=by
          unfold YN at hl';simp only [Bool.and_eq_false_iff,decide_eq_false_iff_not] at hl'
          unfold Vh;simp;omega
         rw [hn,hl',if_pos rfl]
         simp
     · have hh := qjA ((⟨s.toArray⟩ : ByteArray).size - pos) s[pos].toNat ((⟨s.toArray⟩ : ByteArray).get! (pos + 1)).toNat ((⟨s.toArray⟩ : ByteArray).get! (pos + 2)).toNat ((⟨s.toArray⟩ : ByteArray).get! (pos + 3)).toNat (by omega)
       rw [←hd] at hh
       have hn:Vh (Utf8.decode ⟨s.toArray⟩ pos).1=true:=by unfold Vh;simp;omega
       have hl':YN s[pos]=false:=by
        unfold YN;simp;omega
       rw [hn,hl',if_pos rfl]
       simp
   · rw [if_neg (show ¬ pos < (⟨s.toArray⟩ : ByteArray).size from hp),List.drop_eq_nil_of_le (by omega)]
     simp
theorem qoU (s:List UInt8):decide (0≤Lib.idxFunc Vh true ⟨s.toArray⟩) = !s.all YN:=by
 have:=qj5 s s.length 0 (by omega)
 rw [List.drop_zero] at this
 unfold Lib.idxFunc
 rw [show (⟨s.toArray⟩:ByteArray).size=s.length from rfl]
 cases h:s.all YN with
 | true =>
   rw [h] at this
   have:¬ 0≤Lib.idxFuncFrom Vh true ⟨s.toArray⟩ s.length 0:=fun h=>by have:=this.1 h;cases this
   simp [this]
 | false =>
   rw [h] at this
   simp [this.2 rfl]
end Go.AM

namespace Go.AM
open Go.Shelf Go.Proofs
def qg5:Go.Shelf.Ren:=⟨fun | 173=>64 | 246=>111 | 283=>137 | 284=>138 | 285=>139 | 286=>140 | 129=>157 | 317=>156 | 318=>158 | 319=>159 | 320=>160 | 337=>175 | 338=>176 | n=>n,fun | 2=>2 | 3=>3 | 9=>9 | 4=>4 | 171=>197 | 0=>0 | 53=>81 | 37=>69 | 5=>5 | 173=>200 | 212=>216 | 51=>217 | 20=>20 | 213=>218 | 46=>189 | 232=>244 | 233=>245 | n=>n,fun | 17=>0 | 18=>4 | 19=>5 | n=>n⟩
theorem qvn : Go.Proofs.LaysM.n173 Tryz.prog qg5 := {
 mixed:=by kernel_rfl,
 f129:=Tryz.func157.trans (congrArg some (by kernel_rfl)),
 f173:=Tryz.func64.trans (congrArg some (by kernel_rfl)),
 f246:=Tryz.func111.trans (congrArg some (by kernel_rfl)),
 f283:=Tryz.func137.trans (congrArg some (by kernel_rfl)),
 f284:=Tryz.func138.trans (congrArg some (by kernel_rfl)),
 f285:=Tryz.func139.trans (congrArg some (by kernel_rfl)),
 f286:=Tryz.func140.trans (congrArg some (by kernel_rfl)),
 f317:=Tryz.func156.trans (congrArg some (by kernel_rfl)),
 f318:=Tryz.func158.trans (congrArg some (by kernel_rfl)),
 f319:=Tryz.func159.trans (congrArg some (by kernel_rfl)),
 f320:=Tryz.func160.trans (congrArg some (by kernel_rfl)),
 f337:=Tryz.func175.trans (congrArg some (by kernel_rfl)),
 f338:=Tryz.func176.trans (congrArg some (by kernel_rfl)),
 t0:=Tryz.underlying0,
 a0:=Tryz.isAgg0,
 z0:=Tryz.sizeOf0,
 v0:=Tryz.zeroValue0,
 t2:=Tryz.underlying2,
 a2:=Tryz.isAgg2,
 z2:=Tryz.sizeOf2,
 v2:=Tryz.zeroValue2,
 t3:=Tryz.underlying3,
 a3:=Tryz.isAgg3,
 z3:=Tryz.sizeOf3,
 v3:=Tryz.zeroValue3,
 t4:=Tryz.underlying4,
 a4:=Tryz.isAgg4,
 z4:=Tryz.sizeOf4,
 v4:=Tryz.zeroValue4,
 t5:=Tryz.underlying5,
 a5:=Tryz.isAgg5,
 z5:=Tryz.sizeOf5,
 v5:=Tryz.zeroValue5,
 t9:=Tryz.underlying9,
 a9:=Tryz.isAgg9,
 z9:=Tryz.sizeOf9,
 v9:=Tryz.zeroValue9,
 t20:=Tryz.underlying20,
 a20:=Tryz.isAgg20,
 z20:=Tryz.sizeOf20,
 v20:=Tryz.zeroValue20,
 t37:=Tryz.underlying69,
 a37:=Tryz.isAgg69,
 z37:=Tryz.sizeOf69,
 v37:=Tryz.zeroValue69,
 t46:=Tryz.underlying189,
 a46:=Tryz.isAgg189,
 z46:=Tryz.sizeOf189,
 v46:=Tryz.zeroValue189,
 t51:=Tryz.underlying217,
 a51:=Tryz.isAgg217,
 z51:=Tryz.sizeOf217,
 v51:=Tryz.zeroValue217,
 t53:=Tryz.underlying81,
 a53:=Tryz.isAgg81,
 z53:=Tryz.sizeOf81,
 v53:=Tryz.zeroValue81,
 t171:=Tryz.underlying197,
 a171:=Tryz.isAgg197,
 z171:=Tryz.sizeOf197,
 v171:=Tryz.zeroValue197,
 t173:=Tryz.underlying200,
 a173:=Tryz.isAgg200,
 z173:=Tryz.sizeOf200,
 v173:=Tryz.zeroValue200,
 t212:=Tryz.underlying216,
 a212:=Tryz.isAgg216,
 z212:=Tryz.sizeOf216,
 v212:=Tryz.zeroValue216,
 t213:=Tryz.underlying218,
 a213:=Tryz.isAgg218,
 z213:=Tryz.sizeOf218,
 t232:=Tryz.underlying244,
 a232:=Tryz.isAgg244,
 z232:=Tryz.sizeOf244,
 v232:=Tryz.zeroValue244,
 t233:=Tryz.underlying245,
 a233:=Tryz.isAgg245,
 z233:=Tryz.sizeOf245,
 v233:=Tryz.zeroValue245,
 g17:=by kernel_rfl,
 g18:=by kernel_rfl,
 g19:=by kernel_rfl,
 i0:=by kernel_rfl,
 i2:=by kernel_rfl,
 i3:=by kernel_rfl,
 i4:=by kernel_rfl,
 i5:=by kernel_rfl,
 i9:=by kernel_rfl,
 i20:=by kernel_rfl,
 i37:=by kernel_rfl,
 i46:=by kernel_rfl,
 i51:=by kernel_rfl,
 i53:=by kernel_rfl,
 i171:=by kernel_rfl,
 i173:=by kernel_rfl,
 i212:=by kernel_rfl,
 i232:=by kernel_rfl,
 i233:=by kernel_rfl,
 m17:=by kernel_rfl,
 m18:=by kernel_rfl,
 m19:=by kernel_rfl }
def qlr:Go.Shelf.Ren:=⟨fun | 174=>133 | 247=>153 | 245=>154 | 287=>170 | 279=>171 | 280=>172 | 281=>173 | 282=>174 | 321=>185 | 322=>186 | 316=>187 | 171=>108 | 205=>188 | 243=>135 | 246=>111 | 283=>137 | 284=>138 | 285=>139 | 286=>140 | 129=>157 | 317=>156 | 318=>158 | 319=>159 | 320=>160 | 337=>175 | 338=>176 | n=>n,fun | 9=>9 | 3=>3 | 2=>2 | 75=>192 | 85=>193 | 4=>4 | 167=>229 | 5=>5 | 53=>81 | 175=>230 | 46=>189 | 168=>232 | 37=>69 | 0=>0 | 210=>242 | 21=>21 | 127=>252 | 145=>255 | 143=>253 | 171=>197 | 173=>200 | 212=>216 | 51=>217 | 20=>20 | 213=>218 | 232=>244 | 233=>245 | 80=>90 | n=>n,fun | 15=>2 | 16=>3 | 17=>0 | 18=>4 | 19=>5 | n=>n⟩
theorem qtw : Go.Proofs.LaysC.n174 Tryz.prog qlr := {
 mixed:=by kernel_rfl,
 f129:=Tryz.func157.trans (congrArg some (by kernel_rfl)),
 f171:=Tryz.func108.trans (congrArg some (by kernel_rfl)),
 f174:=Tryz.func133.trans (congrArg some (by kernel_rfl)),
 f205:=Tryz.func188.trans (congrArg some (by kernel_rfl)),
 f243:=Tryz.func135.trans (congrArg some (by kernel_rfl)),
 f245:=Tryz.func154.trans (congrArg some (by kernel_rfl)),
 f246:=Tryz.func111.trans (congrArg some (by kernel_rfl)),
 f247:=Tryz.func153.trans (congrArg some (by kernel_rfl)),
 f279:=Tryz.func171.trans (congrArg some (by kernel_rfl)),
 f280:=Tryz.func172.trans (congrArg some (by kernel_rfl)),
 f281:=Tryz.func173.trans (congrArg some (by kernel_rfl)),
 f282:=Tryz.func174.trans (congrArg some (by kernel_rfl)),
 f283:=Tryz.func137.trans (congrArg some (by kernel_rfl)),
 f284:=Tryz.func138.trans (congrArg some (by kernel_rfl)),
 f285:=Tryz.func139.trans (congrArg some (by kernel_rfl)),
 f286:=Tryz.func140.trans (congrArg some (by kernel_rfl)),
 f287:=Tryz.func170.trans (congrArg some (by kernel_rfl)),
 f316:=Tryz.func187.trans (congrArg some (by kernel_rfl)),
 f317:=Tryz.func156.trans (congrArg some (by kernel_rfl)),
 f318:=Tryz.func158.trans (congrArg some (by kernel_rfl)),
 f319:=Tryz.func159.trans (congrArg some (by kernel_rfl)),
 f320:=Tryz.func160.trans (congrArg some (by kernel_rfl)),
 f321:=Tryz.func185.trans (congrArg some (by kernel_rfl)),
 f322:=Tryz.func186.trans (congrArg some (by kernel_rfl)),
 f337:=Tryz.func175.trans (congrArg some (by kernel_rfl)),
 f338:=Tryz.func176.trans (congrArg some (by kernel_rfl)),
 t0:=Tryz.underlying0,
 a0:=Tryz.isAgg0,
 z0:=Tryz.sizeOf0,
 v0:=Tryz.zeroValue0,
 t2:=Tryz.underlying2,
 a2:=Tryz.isAgg2,
 z2:=Tryz.sizeOf2,
 v2:=Tryz.zeroValue2,
 t3:=Tryz.underlying3,
 a3:=Tryz.isAgg3,
 z3:=Tryz.sizeOf3,
 v3:=Tryz.zeroValue3,
 t4:=Tryz.underlying4,
 a4:=Tryz.isAgg4,
 z4:=Tryz.sizeOf4,
 v4:=Tryz.zeroValue4,
 t5:=Tryz.underlying5,
 a5:=Tryz.isAgg5,
 z5:=Tryz.sizeOf5,
 v5:=Tryz.zeroValue5,
 t9:=Tryz.underlying9,
 a9:=Tryz.isAgg9,
 z9:=Tryz.sizeOf9,
 v9:=Tryz.zeroValue9,
 t20:=Tryz.underlying20,
 a20:=Tryz.isAgg20,
 z20:=Tryz.sizeOf20,
 v20:=Tryz.zeroValue20,
 t21:=Tryz.underlying21,
 a21:=Tryz.isAgg21,
 z21:=Tryz.sizeOf21,
 v21:=Tryz.zeroValue21,
 t37:=Tryz.underlying69,
 a37:=Tryz.isAgg69,
 z37:=Tryz.sizeOf69,
 v37:=Tryz.zeroValue69,
 t46:=Tryz.underlying189,
 a46:=Tryz.isAgg189,
 z46:=Tryz.sizeOf189,
 v46:=Tryz.zeroValue189,
 t51:=Tryz.underlying217,
 a51:=Tryz.isAgg217,
 z51:=Tryz.sizeOf217,
 v51:=Tryz.zeroValue217,
 t53:=Tryz.underlying81,
 a53:=Tryz.isAgg81,
 z53:=Tryz.sizeOf81,
 v53:=Tryz.zeroValue81,
 t75:=Tryz.underlying192,
 a75:=Tryz.isAgg192,
 z75:=Tryz.sizeOf192,
 v75:=Tryz.zeroValue192,
 t85:=Tryz.underlying193,
 a85:=Tryz.isAgg193,
 z85:=Tryz.sizeOf193,
 v85:=Tryz.zeroValue193,
 t127:=Tryz.underlying252,
 a127:=Tryz.isAgg252,
 z127:=Tryz.sizeOf252,
 v127:=Tryz.zeroValue252,
 t143:=Tryz.underlying253,
 a143:=Tryz.isAgg253,
 z143:=Tryz.sizeOf253,
 v143:=Tryz.zeroValue253,
 t145:=Tryz.underlying255,
 a145:=Tryz.isAgg255,
 z145:=Tryz.sizeOf255,
 v145:=Tryz.zeroValue255,
 t167:=Tryz.underlying229,
 a167:=Tryz.isAgg229,
 z167:=Tryz.sizeOf229,
 v167:=Tryz.zeroValue229,
 t168:=Tryz.underlying232,
 a168:=Tryz.isAgg232,
 z168:=Tryz.sizeOf232,
 v168:=Tryz.zeroValue232,
 t171:=Tryz.underlying197,
 a171:=Tryz.isAgg197,
 z171:=Tryz.sizeOf197,
 v171:=Tryz.zeroValue197,
 t173:=Tryz.underlying200,
 a173:=Tryz.isAgg200,
 z173:=Tryz.sizeOf200,
 v173:=Tryz.zeroValue200,
 t175:=Tryz.underlying230,
 a175:=Tryz.isAgg230,
 z175:=Tryz.sizeOf230,
 v175:=Tryz.zeroValue230,
 t210:=Tryz.underlying242,
 a210:=Tryz.isAgg242,
 z210:=Tryz.sizeOf242,
 v210:=Tryz.zeroValue242,
 t212:=Tryz.underlying216,
 a212:=Tryz.isAgg216,
 z212:=Tryz.sizeOf216,
 v212:=Tryz.zeroValue216,
 t213:=Tryz.underlying218,
 a213:=Tryz.isAgg218,
 z213:=Tryz.sizeOf218,
 t232:=Tryz.underlying244,
 a232:=Tryz.isAgg244,
 z232:=Tryz.sizeOf244,
 v232:=Tryz.zeroValue244,
 t233:=Tryz.underlying245,
 a233:=Tryz.isAgg245,
 z233:=Tryz.sizeOf245,
 v233:=Tryz.zeroValue245,
 g15:=by kernel_rfl,
 g16:=by kernel_rfl,
 g17:=by kernel_rfl,
 g18:=by kernel_rfl,
 g19:=by kernel_rfl,
 t80:=Tryz.underlying90,
 a80:=Tryz.isAgg90,
 z80:=Tryz.sizeOf90,
 v80:=Tryz.zeroValue90,
 i0:=by kernel_rfl,
 i2:=by kernel_rfl,
 i3:=by kernel_rfl,
 i4:=by kernel_rfl,
 i5:=by kernel_rfl,
 i9:=by kernel_rfl,
 i20:=by kernel_rfl,
 i21:=by kernel_rfl,
 i37:=by kernel_rfl,
 i46:=by kernel_rfl,
 i51:=by kernel_rfl,
 i53:=by kernel_rfl,
 i75:=by kernel_rfl,
 i80:=by kernel_rfl,
 i85:=by kernel_rfl,
 i127:=by kernel_rfl,
 i143:=by kernel_rfl,
 i145:=by kernel_rfl,
 i167:=by kernel_rfl,
 i168:=by kernel_rfl,
 i171:=by kernel_rfl,
 i173:=by kernel_rfl,
 i175:=by kernel_rfl,
 i210:=by kernel_rfl,
 i212:=by kernel_rfl,
 i232:=by kernel_rfl,
 i233:=by kernel_rfl,
 m15:=by kernel_rfl,
 m16:=by kernel_rfl,
 m17:=by kernel_rfl,
 m18:=by kernel_rfl,
 m19:=by kernel_rfl,
 c0:=by kernel_rfl,
 c2:=by kernel_rfl,
 c3:=by kernel_rfl,
 c4:=by kernel_rfl,
 c5:=by kernel_rfl,
 c9:=by kernel_rfl,
 c20:=by kernel_rfl,
 c21:=by kernel_rfl,
 c37:=by kernel_rfl,
 c46:=by kernel_rfl,
 c51:=by kernel_rfl,
 c53:=by kernel_rfl,
 c75:=by kernel_rfl,
 c80:=by kernel_rfl,
 c85:=by kernel_rfl,
 c127:=by kernel_rfl,
 c143:=by kernel_rfl,
 c145:=by kernel_rfl,
 c167:=by kernel_rfl,
 c168:=by kernel_rfl,
 c171:=by kernel_rfl,
 c173:=by kernel_rfl,
 c175:=by kernel_rfl,
 c210:=by kernel_rfl,
 c212:=by kernel_rfl,
 c213:=by kernel_rfl,
 c232:=by kernel_rfl,
 c233:=by kernel_rfl }
end Go.AM

namespace Go.AM
open Go.RowKit Go.Proofs Go.Shelf
theorem qsA {g : G} {w : World} (h : TabOK g w) : Lib.TabIs Tryz.prog w "internal/strconv.uint64pow10" .u64 Lib.pow10Tab := by
 obtain ⟨⟨arr,ty,fz,e1,e2⟩,hc⟩:=h (0,20,fun i v=>v = .int .u64 (Lib.pow10Tab.getD i 0)) (by simp [qrP])
 have hg : Tryz.prog.globalNamed "internal/strconv.uint64pow10" = some 0 := by kernel_rfl
 unfold Lib.TabIs World.var?
 simp only at e1 e2 hc
 rw [hg]
 simp only [Option.bind_some,e1]
 congr 1
 apply Array.ext
 · rw [e2];simp [Lib.pow10Tab]
 · intro i h1 h2
   obtain ⟨_,v,h3,h4⟩:=hc i (by omega)
   have hi:i<Lib.pow10Tab.length:=by simpa using h2
   have e:w.cell? ⟨0,i,none⟩=some arr[i]:=by simp [World.cell?,e1,h1]
   rw [e] at h3
   cases h3
   rw [h4]
   simp only [List.getElem_toArray,List.getElem_map]
   rw [List.getD_eq_getElem?_getD,List.getElem?_eq_getElem hi];rfl
theorem qnA {g:G} {w:World} (h:TabOK g w) {b:Nat} (hb:b=2∨b=3):∃ ev,w.cell? ⟨b,0,none⟩=some ev∧(ev = .nilIface∨∃ te pe,ev = .iface te pe):=by
 rcases hb with rfl | rfl
 · obtain ⟨_,hc⟩ := h (2,1,fun _ v => ∃ te pe,v = .iface te pe) (by simp [qrP])
   obtain ⟨_,v,h3,h4⟩:=hc 0 (by simp)
   exact ⟨v,h3,.inr h4⟩
 · obtain ⟨_,hc⟩ := h (3,1,fun _ v => ∃ te pe,v = .iface te pe) (by simp [qrP])
   obtain ⟨_,v,h3,h4⟩:=hc 0 (by simp)
   exact ⟨v,h3,.inr h4⟩
theorem WU (w:World) (k:Nat) (os:Array Obj):Below w.heap.size w (Sort.grow (w.drewN k) os) :=
 ⟨rfl,rfl,rfl,by show w.heap.size≤(w.heap++os).size;rw [Array.size_append];omega,fun j hj=>Array.getElem?_append_left hj⟩
theorem Yk (n:Int) (h:i64 n):qC Tryz.prog 111 [I n,I 10] (S (Lib.itoa n)):=by
 refine VP (xs:=[.int .i64 n,.int .i64 10]) (r := .string ⟨(Lib.itoa n).toArray⟩) fun g w ht=>?_
 have k:=Any.internal_strconv_FormatInt_10 (P:=Tryz.prog) (ρ:=qg5) { qvn with } n h.1 h.2 w (qsA ht)
 refine k.mono ?_
 rintro e w' ⟨rfl,k,os,rfl⟩
 exact ⟨rfl,WU w k os⟩
theorem qbs (n:Int) (h:i64 n):qC Tryz.prog 64 [I n,I 10] (S (Lib.itoa n)):=by
 refine qT (walk Tryz.func64 Xf (by kernel_rfl) (by show 2≤_;decide) ?_)
 simp -implicitDefEqProofs (disch:=omega)[Vw,qb]
 refine qg (ys:=[I n,I 10]) (ids:=[]) rfl (Yk n h) ?_
 simp -implicitDefEqProofs (disch:=omega)[qb]
theorem qfu (n:Int) (h:i64 n):qC Tryz.prog 108 [I n] (S (Lib.itoa n)):=by
 refine qT (walk Tryz.func108 qgb (by kernel_rfl) (by show 1≤_;decide) ?_)
 simp -implicitDefEqProofs (disch:=omega)[qg4,qb]
 have k:qC Tryz.prog 135 [I n] (S (Lib.itoa n)):=by
  refine qT (walk Tryz.func135 qeT (by kernel_rfl) (by show 1≤_;decide) ?_)
  simp -implicitDefEqProofs (disch:=omega)[qd8,qb]
  refine qg (ys:=[I n,I 10]) (ids:=[]) rfl (Yk n h) ?_
  simp -implicitDefEqProofs (disch:=omega)[qb]
 refine qg (ys:=[I n]) (ids:=[]) rfl k ?_
 simp -implicitDefEqProofs (disch:=omega)[qb]
theorem qqc {w:World} {g:G} {p:Bool} (a b:Value):Rep w g p (.tup [.v a,.v b]) (.tuple #[a,b]):=by
 refine .tup p [.v a,.v b] [a,b] rfl fun i hi=>?_
 have:i=0∨i=1:=by simp at hi;omega
 rcases this with rfl | rfl
 · exact .v _ _
 · exact .v _ _
def piV (s:List UInt8):Int:=match Lib.parseIntB 64 s with
 | .ok v=>v
 | .range=>Lib.intSat 64 s
 | _=>0
theorem XY {fid:FuncId} (eg:∀ args w,(callFunc fid args).run Tryz.prog w = .ok (.enter fid args) w) (hp:∀ w,PredAt Tryz.prog fid #[] encR Vh w) (s:List UInt8):qC Tryz.prog 83 [S s,.fn (.func fid) [] []] (B (!s.all YN)):=by
 intro ro n w g vs hw hvs hrep
 have r0:=QS (hrep 0 (by simp))
 have r1:=hrep 1 (by simp)
 simp only [List.getElem_cons_succ,List.getElem_cons_zero] at r1
 have v1:vs.getD 1 undef = .func (.func fid) #[] #[]:=by
  generalize vs.getD 1 undef=v at r1
  cases r1 with
  | fn _ _ _ _ xs ys h1 h2=>rw [List.length_eq_zero_iff.1 h1,List.length_eq_zero_iff.1 h2]
 have evs:vs=#[.string ⟨s.toArray⟩,.func (.func fid) #[] #[]]:=by
  have hs2:vs.size=2:=hvs
  apply Array.ext
  · simp [hs2]
  · intro i h1 h2
    have:i=0∨i=1:=by simp at h2;omega
    rcases this with rfl | rfl
    · rw [Array.getD_eq_getD_getElem?,Array.getElem?_eq_getElem h1] at r0;exact r0
    · rw [Array.getD_eq_getD_getElem?,Array.getElem?_eq_getElem h1] at v1;exact v1
 subst evs
 have main:=Any.strings_ContainsFunc (P:=Tryz.prog) qvB fid #[] eg Vh ⟨s.toArray⟩ w (hp w)
 rw [qoU] at main
 refine CallsIn.mono (F:=W ro) (callsIn_wide.2 main) ?_
 rintro e w' ⟨rfl,hb⟩
 obtain ⟨k1,k2⟩:=hw.below hb
 exact ⟨_,g,rfl,.v _ _,k1,k2⟩
theorem qiz (w:World):PredAt Tryz.prog 134 #[] encR Vh w:=fun W r _=>by
 unfold FnGives Vh
 by_cases h1:r<97 <;> by_cases h2:122<r
 all_goals
  have z1:(r:Int)<97↔r<97:=by omega
  have z2:(122:Int)<(r:Int)↔122<r:=by omega
  go_enter Tryz.func134,Tryz.ntmps134
  go_wp2
  all_goals first | (exfalso;omega) | (go_ret;exact ⟨by simp [h1,h2],0,rfl⟩)
theorem ql3 (w:World):PredAt Tryz.prog 84 #[] encR Vh w:=fun W r _=>by
 unfold FnGives Vh
 by_cases h1:r<97 <;> by_cases h2:122<r
 all_goals
  have z1:(r:Int)<97↔r<97:=by omega
  have z2:(122:Int)<(r:Int)↔122<r:=by omega
  go_enter Tryz.func84,Tryz.ntmps84
  go_wp2
  all_goals first | (exfalso;omega) | (go_ret;exact ⟨by simp [h1,h2],0,rfl⟩)
theorem qiA (s:List UInt8):qC Tryz.prog 83 [S s,.fn (.func 134) [] []] (B (!s.all YN)):=XY (enters_of Tryz.func134 (by kernel_rfl) rfl) qiz s
theorem ql4 (s:List UInt8):qC Tryz.prog 83 [S s,.fn (.func 84) [] []] (B (!s.all YN)):=XY (enters_of Tryz.func84 (by kernel_rfl) rfl) ql3 s
theorem Zk (s:List UInt8) (hs:s.length≤1000000):qC Tryz.prog 107 [S s] (B (QW s)):=by
 refine qT (walk Tryz.func107 qcH (by kernel_rfl) (by show 1≤_;decide) ?_)
 simp -implicitDefEqProofs (disch:=omega)[qbu,qb]
 cases s with
 | nil =>
   simp -implicitDefEqProofs (disch:=omega)[qb,QW]
 | cons c r =>
   simp only [List.length_cons] at hs
   have l1:((r.length:Int)+1<1)=False:=by simp only [eq_iff_iff,iff_false];omega
   by_cases h1:r.length≤7
   case neg =>
    have h1':(8<(r.length:Int)+1)=True:=by simp only [eq_iff_iff,iff_true];omega
    simp -implicitDefEqProofs (disch:=omega)[qb,l1,h1,h1',QW]
   case pos =>
    have h1':(8<(r.length:Int)+1)=False:=by simp only [eq_iff_iff,iff_false];omega
    have hb:=UInt8.toNat_lt c
    have h1n:¬ 8<r.length+1:=by omega
    by_cases h2:65≤c.toNat
    case neg =>
     have h2':((c.toNat:Int)<65)=True:=by simp only [eq_iff_iff,iff_true];omega
     simp -implicitDefEqProofs (disch:=omega)[qb,l1,h1,h1',h1n,h2,h2',QW]
    case pos =>
     have h2':((c.toNat:Int)<65)=False:=by simp only [eq_iff_iff,iff_false];omega
     by_cases h3:c.toNat≤90
     case neg =>
      have h3':(90<(c.toNat:Int))=True:=by simp only [eq_iff_iff,iff_true];omega
      simp -implicitDefEqProofs (disch:=omega)[qb,l1,h1,h1',h1n,h2,h2',h3,h3',QW]
     case pos =>
      have h3':(90<(c.toNat:Int))=False:=by simp only [eq_iff_iff,iff_false];omega
      simp -implicitDefEqProofs (disch:=omega)[qb,l1,h1,h1',h1n,h2,h2',h3,h3',QW]
      rw [qnN (by decide) (by simp only [List.length_cons];omega)]
      simp -implicitDefEqProofs (disch:=omega)[qb]
      refine qg (ys:=[S r,.fn (.func 134) [] []]) (ids:=[]) rfl (qiA r) ?_
      simp -implicitDefEqProofs (disch:=omega)[qb,AV.scalar]
      try exact ⟨[],rfl⟩
theorem qpo {s:List UInt8} {v:Int} (h:Lib.parseIntB 64 s = .ok v):i64 v:=by
 unfold Lib.parseIntB at h
 split at h
 · cases h
 · rename_i c r
   dsimp only at h
   split at h
   · cases h
   · cases h
   · rename_i u hu
     have e:(2:Nat) ^ (64 - 1)=9223372036854775808:=by decide
     rw [e] at h
     unfold i64
     by_cases hn:c.toNat=45
     · simp only [hn,not_true_eq_false,false_and,if_false,true_and,if_true] at h
       split at h
       · cases h
       · cases h;omega
     · simp only [hn,not_false_eq_true,true_and,if_true,if_false,false_and] at h
       split at h
       · cases h
       · cases h;omega
theorem TabOK.below {g:G} {w w':World} (h:TabOK g w) (hb:Below w.heap.size w w'):TabOK g w':=fun t ht=>by
 obtain ⟨⟨arr,ty,fz,e1,e2⟩,hc⟩:=h t ht
 have lt:t.1<w.heap.size:=(Array.getElem?_eq_some_iff.1 e1).1
 refine ⟨⟨arr,ty,fz,(hb.block _ lt).trans e1,e2⟩,fun i hi=>?_⟩
 obtain ⟨h1,v,h2,h3⟩:=hc i hi
 exact ⟨h1,v,(World.cell?_of_block (hb.block _ lt)).trans h2,h3⟩
set_option maxRecDepth 100000 in
theorem qbn (s : List UInt8) (hs : s.length ≤ 1000000) (lo hi : Int) (w : World) (g : G) (ht : TabOK g w) :
 Calls Tryz.prog 105 #[.string ⟨s.toArray⟩,.int .i64 lo,.int .i64 hi] w fun e w'=>e = .returned (.tuple #[.int .i64 (piV s),.bool (qlk s lo hi)])∧Below w.heap.size w w':=by
 have t192:=Tryz.underlying192
 cases hp:Lib.parseIntB 64 s with
 | ok v =>
   have hv:piV s=v:=by unfold piV;rw [hp]
   have hC:qlk s lo hi=(decide (lo≤v)&&(decide (v≤hi)&&decide (Lib.itoa v=s))):=by unfold qlk;rw [hp]
   have hR:=qpo hp
   rw [hv,hC]
   have c1 : Calls Tryz.prog 133 #[.string ⟨s.toArray⟩,.int .i64 10,.int .i64 64] w fun e w' => e = .returned (.tuple #[.int .i64 v,.nilIface]) ∧ Below w.heap.size w w' := by
    refine (Any.strconv_ParseInt_10_at64_ok (P:=Tryz.prog) qtw ⟨s.toArray⟩ (by show s.length≤_;omega) v hp w).mono ?_
    rintro e w' ⟨rfl,hw'⟩
    refine ⟨rfl,?_⟩
    rcases hw' with rfl | ⟨t,rfl⟩
    · exact Below.refl _ _
    · exact Lib.bytesWorld_below w _ t
   have c2 : ∀ W1,Below w.heap.size w W1 → Calls Tryz.prog 64 #[.int .i64 v,.int .i64 10] W1 fun e w' => e = .returned (.string ⟨(Lib.itoa v).toArray⟩) ∧ Below w.heap.size w w' := fun W1 hb => by
    refine (Any.strconv_FormatInt_10 (P:=Tryz.prog) qvn v hR.1 hR.2 W1 (qsA (ht.below hb))).mono ?_
    rintro e w' ⟨rfl,k,os,rfl⟩
    exact ⟨rfl,hb.trans ((WU W1 k os).mono hb.size)⟩
   have hq:((⟨(Lib.itoa v).toArray⟩:ByteArray)==⟨s.toArray⟩)=decide (Lib.itoa v=s):=qk1 _ _
   go_enter Tryz.func105,Tryz.ntmps105
   go_wp2_with (first | (go_at_call 133;refine c1.mono ?_;rintro e W1 ⟨rfl,hW⟩) | (go_at_call 64;refine (c2 _ ‹_›).mono ?_;rintro e W2 ⟨rfl,hW2⟩))
   all_goals go_ret2
   · refine ⟨?_,hW2⟩
     show Ending.returned (.tuple #[.int .i64 v,.bool (Lib.itoa v==s)])=_
     have a1:lo≤v:=by assumption
     have a2:v≤hi:=by assumption
     have a3:(Lib.itoa v==s)=decide (Lib.itoa v=s):=by
      by_cases h:Lib.itoa v=s
      · rw [h];simp
      · rw [decide_eq_false h,beq_eq_false_iff_ne];exact h
     rw [a3,decide_eq_true a1,decide_eq_true a2];rfl
   · refine ⟨?_,hW⟩
     show Ending.returned (.tuple #[.int .i64 v,.bool false])=_
     have a2 : ¬ v ≤ hi := by have : hi < v := by assumption
                              omega
     rw [decide_eq_false a2];simp
   · refine ⟨?_,hW⟩
     show Ending.returned (.tuple #[.int .i64 v,.bool false])=_
     have a2 : ¬ lo ≤ v := by have : v < lo := by assumption
                              omega
     rw [decide_eq_false a2];simp
 | range =>
   have hv:piV s=Lib.intSat 64 s:=by unfold piV;rw [hp]
   have hC:qlk s lo hi=false:=by unfold qlk;rw [hp]
   rw [hv,hC]
   obtain ⟨ev,h1,h2⟩:=qnA ht (b:=3) (.inr rfl)
   have c1:=Any.strconv_ParseInt_10_at64_range (P:=Tryz.prog) qtw ⟨s.toArray⟩ (by show s.length≤_;omega) hp ev w h1 h2
   change Calls Tryz.prog 133 _ _ _ at c1
   go_enter Tryz.func105,Tryz.ntmps105
   go_wp2_with (go_at_call 133;refine c1.mono ?_;rintro e W1 ⟨N,rfl,_,_,hW⟩)
   all_goals go_ret2
   all_goals exact ⟨rfl,hW⟩
 | _ =>
   have hv:piV s=0:=by unfold piV;rw [hp]
   have hC:qlk s lo hi=false:=by unfold qlk;rw [hp]
   rw [hv,hC]
   obtain ⟨ev,h1,h2⟩:=qnA ht (b:=2) (.inl rfl)
   have c1:=Any.strconv_ParseInt_10_at64_syntax (P:=Tryz.prog) qtw ⟨s.toArray⟩ (by show s.length≤_;omega) hp ev w h1 h2
   change Calls Tryz.prog 133 _ _ _ at c1
   go_enter Tryz.func105,Tryz.ntmps105
   go_wp2_with (go_at_call 133;refine c1.mono ?_;rintro e W1 ⟨N,rfl,_,_,hW⟩)
   all_goals go_ret2
   all_goals exact ⟨rfl,hW⟩
theorem qal (s:List UInt8) (hs:s.length≤1000000) (lo hi:Int) (h1:1≤lo) (h2:hi≤9999999999999):qC Tryz.prog 105 [S s,I lo,I hi] (.tup [I (piV s),B (qaB s lo hi)]):=by
 intro ro n w g vs hw hvs hrep
 have:=qjo (xs:=[.string ⟨s.toArray⟩,.int .i64 lo,.int .i64 hi]) hvs hrep
 subst this
 refine CallsIn.mono (F:=W ro) (callsIn_wide.2 (qbn s hs lo hi w g hw.tab)) ?_
 rintro e w' ⟨rfl,hb⟩
 obtain ⟨k1,k2⟩:=hw.below hb
 rw [qpf h1 h2]
 exact ⟨_,g,rfl,qqc _ _,k1,k2⟩
end Go.AM

namespace Go.AM
open Go.RowKit Go.Proofs
theorem qjR (s:List UInt8) (c:UInt8) (hs:s.length≤1000000):qC Tryz.prog 155 [S s,S [c]] (.tup [S (JX c s).1,S ((JX c s).2.getD []),B (JX c s).2.isSome]):=by
 refine qT (walk Tryz.func155 qfY (by kernel_rfl) (by show 2≤_;decide) ?_)
 simp -implicitDefEqProofs (disch:=omega)[qgS,qb]
 refine qg (ys:=[S s,S [c]]) (ids:=[]) rfl (qgd s c) ?_
 unfold qqy
 rcases qbM c s with ⟨a,h1,rfl,h3⟩ | ⟨a,r,h1,rfl,h3⟩
 · rw [h3]
   simp -implicitDefEqProofs (disch:=omega)[qb,AV.scalar]
   try exact ⟨[],rfl⟩
 · rw [h3]
   have hl:(a++c::r).length=a.length+r.length+1:=by simp;omega
   rw [hl] at hs
   simp -implicitDefEqProofs (disch:=omega)[qb,AV.scalar,zW,zJ,zE]
   exact ⟨[],rfl⟩
theorem qmf (s:List UInt8) (c:UInt8) (hs:s.length≤1000000):qC Tryz.prog 136 [S s,S [c]] (.tup [S (JX c s).1,S ((JX c s).2.getD []),B (JX c s).2.isSome]):=by
 refine qT (walk Tryz.func136 qio (by kernel_rfl) (by show 2≤_;decide) ?_)
 simp -implicitDefEqProofs (disch:=omega)[qjg,qb]
 refine qg (ys:=[S s,S [c]]) (ids:=[]) rfl (qjR s c hs) ?_
 simp -implicitDefEqProofs (disch:=omega)[qb,AV.scalar]
 exact ⟨[],rfl⟩
theorem Yb (s:List UInt8) (hs:s.length≤1000000):qC Tryz.prog 109 [S s] (.tup [.agg (wdC (jX s).1),B (jX s).2]):=by
 refine zO (zj Tryz.func109 qf6 qgy (by show 1≤_;decide) ?_)
 simp -implicitDefEqProofs (disch:=omega)[qgZ,qb]
 refine qg (ys:=[S s,S [42]]) (ids:=[]) rfl (qmf s 42 hs) ?_
 have hl:(JX 42 s).1.length≤1000000∧∀ t,(JX 42 s).2=some t→t.length≤1000000:=by
  have e:=congrArg List.length (qog 42 s)
  rw [List.length_append] at e
  refine ⟨by omega,fun t h=>?_⟩
  rw [h] at e
  simp only [List.length_cons] at e
  omega
 have hW:jX s=match JA (JX 42 s).2 with
  | none=>((0,[],0),false)
  | some k=>match qbI (JX 42 s).1 with
    | some c=>((c,[],k),true)
    | none=>((0,(JX 42 s).1,k),QW (JX 42 s).1):=rfl
 rw [hW]
 clear hW
 generalize JX 42 s=C at *
 obtain ⟨nm,more⟩:=C
 simp only at hl ⊢
 cases more with
 | none =>
   simp -implicitDefEqProofs (disch:=omega)[qb,JA]
   by_cases h1:nm.length=1
   case pos =>
    obtain ⟨c,rfl⟩:=List.length_eq_one_iff.1 h1
    simp -implicitDefEqProofs (disch:=omega)[qb]
    refine qg (ys:=[U (c.toNat:Int)]) (ids:=[]) rfl (Yq _) ?_
    rw [qcl]
    cases hlw:YN c with
    | true =>
      have ha:qbI [c]=some (c.toNat:Int):=by show (if YN c=true then some (c.toNat:Int) else none)=_;rw [hlw];rfl
      rw [ha]
      simp -implicitDefEqProofs (disch:=omega)[qb,AV.scalar]
      refine qK (id:=0) (off:=0) rfl rfl (by simp) ?_
      exact qG (is:=[]) rfl (.refl _)
    | false =>
      have ha:qbI [c]=none:=by show (if YN c=true then some (c.toNat:Int) else none)=_;rw [hlw];rfl
      rw [ha]
      simp -implicitDefEqProofs (disch:=omega)[qb,AV.scalar]
      refine qQ (ys:=[S [c]]) (ids:=[]) rfl (Zk [c] (by simp)) ?_
      simp -implicitDefEqProofs (disch:=omega)[qb,AV.scalar,zW,zJ,zE]
      refine qK (id:=0) (off:=0) rfl rfl (by simp) ?_
      exact qG (is:=[]) rfl (.refl _)
   case neg =>
    have h1':((nm.length:Int)==1)=false:=by rw [beq_eq_false_iff_ne];omega
    have ha:qbI nm=none:=by
     unfold qbI
     split
     · exact absurd rfl h1
     · rfl
    rw [ha]
    simp -implicitDefEqProofs (disch:=omega)[qb,h1']
    refine qQ (ys:=[S nm]) (ids:=[]) rfl (Zk nm hl.1) ?_
    simp -implicitDefEqProofs (disch:=omega)[qb,AV.scalar,zW,zJ,zE]
    refine qK (id:=0) (off:=0) rfl rfl (by simp) ?_
    exact qG (is:=[]) rfl (.refl _)
 | some t =>
   simp -implicitDefEqProofs (disch:=omega)[qb]
   refine qg (ys:=[S t,I 2,I 1000]) (ids:=[]) rfl (qal t (hl.2 t rfl) 2 1000 (by decide) (by decide)) ?_
   cases hn:qaB t 2 1000 with
   | false =>
     have ht:JA (some t)=none:=by simp [JA,hn]
     rw [ht]
     simp -implicitDefEqProofs (disch:=omega)[qb]
     refine qK (id:=0) (off:=0) rfl rfl (by simp) ?_
     exact qG (is:=[]) rfl (.refl _)
   | true =>
   have hp:piV t=(Vq t:Int):=by
    unfold qaB at hn
    simp only [Bool.and_eq_true,decide_eq_true_eq] at hn
    unfold piV;rw [qaE hn.1.1]
   have ht:JA (some t)=some (Vq t:Int):=by simp [JA,hn]
   rw [ht,hp]
   simp -implicitDefEqProofs (disch:=omega)[qb]
   by_cases h1:nm.length=1
   case pos =>
    obtain ⟨c,rfl⟩:=List.length_eq_one_iff.1 h1
    simp -implicitDefEqProofs (disch:=omega)[qb]
    refine qg (ys:=[U (c.toNat:Int)]) (ids:=[]) rfl (Yq _) ?_
    rw [qcl]
    cases hlw:YN c with
    | true =>
      have ha:qbI [c]=some (c.toNat:Int):=by show (if YN c=true then some (c.toNat:Int) else none)=_;rw [hlw];rfl
      rw [ha]
      simp -implicitDefEqProofs (disch:=omega)[qb,AV.scalar]
      refine qK (id:=0) (off:=0) rfl rfl (by simp) ?_
      exact qG (is:=[]) rfl (.refl _)
    | false =>
      have ha:qbI [c]=none:=by show (if YN c=true then some (c.toNat:Int) else none)=_;rw [hlw];rfl
      rw [ha]
      simp -implicitDefEqProofs (disch:=omega)[qb,AV.scalar]
      refine qQ (ys:=[S [c]]) (ids:=[]) rfl (Zk [c] (by simp)) ?_
      simp -implicitDefEqProofs (disch:=omega)[qb,AV.scalar,zW,zJ,zE]
      refine qK (id:=0) (off:=0) rfl rfl (by simp) ?_
      exact qG (is:=[]) rfl (.refl _)
   case neg =>
    have h1':((nm.length:Int)==1)=false:=by rw [beq_eq_false_iff_ne];omega
    have ha:qbI nm=none:=by
     unfold qbI
     split
     · exact absurd rfl h1
     · rfl
    rw [ha]
    simp -implicitDefEqProofs (disch:=omega)[qb,h1']
    refine qQ (ys:=[S nm]) (ids:=[]) rfl (Zk nm hl.1) ?_
    simp -implicitDefEqProofs (disch:=omega)[qb,AV.scalar,zW,zJ,zE]
    refine qK (id:=0) (off:=0) rfl rfl (by simp) ?_
    exact qG (is:=[]) rfl (.refl _)
def BkI (x:Bk):Prop:=qnp x.2∧x.1.length≤100000
def ShI (s:Sht):Prop:=i64 s.num∧i64 s.bath∧i64 s.age∧qnp s.pat
def qie (b:List UInt8):Int:=if 65536<b.length then 7 else if b=[]∨(qgF b.dropLast:Int)≠((b.getLast?.getD 0).toNat:Int) then 14 else qfw b (qfP b).1 (qfP b).2
def qoi (b:List UInt8):Dy:=if qie b=0 then (qfP b).1 else dy0
theorem qmz {b:List UInt8} (h:0<b.length):b.getLast?.getD 0=b[b.length - 1]:=by
 rw [List.getLast?_eq_getElem?,List.getElem?_eq_getElem (by omega)];rfl
theorem qbV (f:Bool) (l:List (List UInt8)) (hl:l.length≤1000000) (hw:∀ w∈l,w.length≤1000000):qC Tryz.prog 106 [qjl f l] (.tup [Wds ((zg l).getD []),B (zg l).isSome]):=by
 refine zO (walk Tryz.func106 qeK (by kernel_rfl) (by show 1≤_;decide) ?_)
 simp -implicitDefEqProofs (disch:=omega)[qdZ,qb]
 refine qO (fun q : Nat × List Wd × AV × List HObj => ⟨[(4,q.2.2.1),(9,qjl f l),(10,I (l.length : Int)),(11,I (q.1 : Int))],q.2.2.2⟩)
  (fun q=>q.1≤l.length∧zg (l.take q.1)=some q.2.1∧AccG q.2.2.2 q.2.2.1 3 q.1 (fl wdC q.2.1))
  (fun q=>l.length - q.1) (0,[],.sl true 0 [],[]) ⟨Nat.zero_le _,rfl,.nil⟩ rfl ?_
 rintro ⟨i,ws,x,H⟩ ⟨c1,c2,c5⟩
 simp only at c1 c2 c5 ⊢
 refine qW fun K0 hK0=>?_
 simp -implicitDefEqProofs (disch:=omega)[qb]
 refine qP (fun hc=>?_) (fun hc=>?_)
 · have hi : i < l.length := by simpa using hc
   have ix:((i:Int)+1)=((i+1:Nat):Int):=by omega
   have st:=qgO hi c2
   have hh:=hw _ (List.getElem_mem hi)
   simp -implicitDefEqProofs (disch:=omega)[qb,hi]
   refine qg rfl (Yb _ hh) ?_
   generalize jX l[i]=R at *
   obtain ⟨w,ok⟩:=R
   simp only at st
   have hn:=Qn (H:=H) (o:=HObj.cells [U w.1,S w.2.1,I w.2.2])
   have d5:AccG (H++[HObj.cells [U w.1,S w.2.1,I w.2.2]]) x 3 i (fl wdC ws):=c5.mono fun j hj=>qk (c5.lt hj)
   simp -implicitDefEqProofs (disch:=omega)[qb,wdC]
   generalize H++[HObj.cells [U w.1,S w.2.1,I w.2.2]]=H1 at *
   cases ok with
   | false =>
     have hnone:zg l=none:=qgN (i:=i+1) (by rw [st];rfl)
     rw [hK0,hnone]
     simp -implicitDefEqProofs (disch:=omega)[qb]
     exact qG (r' := .tup [.sl true 0 [],B false]) (is:=[]) rfl (.tupL (.cons .slf (.cons (.refl _) .nil)))
   | true =>
     simp -implicitDefEqProofs (disch:=omega)[qb,qf,hn]
     refine zq (ys:=[.agg (wdC w)]) (ids:=[]) rfl rfl ?_
     simp -implicitDefEqProofs (disch:=omega)[qb,zP,wdC]
     refine Q5 (ys:=wdC w) d5 (by omega) (by decide) rfl rfl fun vs w1 w2 w3=>?_
     simp -implicitDefEqProofs (disch:=omega)[qb]
     rw [hK0]
     refine qz (i+1,ws++[w],.ms H1.length 0 (i+1) 3,qH H1 vs) ⟨by simp only;omega,by rw [st];rfl,?_⟩ (by simp only;omega) (by simp only [ix])
     rw [jr];exact w3
 · have hi : i = l.length := by simp at hc; omega
   subst hi
   subst hK0
   rw [List.take_length] at c2
   simp -implicitDefEqProofs (disch:=omega)[qb,c2]
   obtain ⟨ids,h1⟩:=c5.pur1
   have hle:=YJ c2
   refine qG (r' := .tup [.sl (decide (l.length=0)) l.length (fl wdC ws),B true]) (is:=ids++[]) ?_ ?_
   · simp only [qU,Qq,h1];rfl
   · rw [← hle]
     exact .tupL (.cons .slf (.cons (.refl _) .nil))
end Go.AM

namespace Go.AM
open Go.RowKit
def qfx (s:List UInt8):Ln × Bool :=
 if s=tBath then (⟨2,[],[],0⟩,true) else if s=qdE then (⟨5,[],[],0⟩,true) else if s=VX then (⟨6,[],[],0⟩,true) else
 match qM 32 s with
 | []=>(ln0,false)
 | a::l =>
   if a=qje∧l.length=1 then (⟨4,[],[],piV (l.getD 0 [])⟩,qaB (l.getD 0 []) 1 QM)
   else if a=tDo∧l.length=1 then (⟨3,[],(zg l).getD [],0⟩,(zg l).isSome)
   else if a=Zd∧(2≤l.length∧l.length≤9)∧QW (l.getD 0 [])=true then (⟨1,l.getD 0 [],(zg l.tail).getD [],0⟩,(zg l.tail).isSome)
   else (ln0,false)
theorem qpn {t:List UInt8} {lo hi:Int} (h:qaB t lo hi=true):piV t=(Vq t:Int):=by
 unfold qaB at h
 simp only [Bool.and_eq_true,decide_eq_true_eq] at h
 unfold piV;rw [qaE h.1.1]
theorem qpl (s:List UInt8):(qfx s).2=(WY s).isSome∧((qfx s).2=true→WY s=some (qfx s).1):=by
 unfold qfx
 by_cases h1:s=tBath
 · subst h1;rw [if_pos rfl];exact ⟨rfl,fun _=>rfl⟩
 rw [if_neg h1]
 by_cases h2:s=qdE
 · subst h2;rw [if_pos rfl];exact ⟨rfl,fun _=>rfl⟩
 rw [if_neg h2]
 by_cases h3:s=VX
 · subst h3;rw [if_pos rfl];exact ⟨rfl,fun _=>rfl⟩
 rw [if_neg h3]
 unfold WY
 cases hs:qM 32 s with
 | nil=>exact absurd hs (Jz 32 s)
 | cons a l =>
   have hj:=qch 32 s a l hs
   unfold qhF
   simp only
   by_cases e1:a=Zd
   · rw [if_pos e1, if_neg (fun h => absurd (e1.symm.trans h.1) (by decide)), if_neg (fun h => absurd (e1.symm.trans h.1) (by decide))]
     cases l with
     | nil=>rw [if_neg (fun h=>by have:=h.2.1.1;simp at this)];exact ⟨rfl,fun h=>by cases h⟩
     | cons n ws =>
       simp only [List.length_cons,List.getD_cons_zero,List.tail_cons]
       by_cases hc:1≤ws.length∧ws.length≤8∧QW n=true
       · rw [if_pos hc,if_pos ⟨e1,⟨by omega,by omega⟩,hc.2.2⟩]
         cases zg ws with
         | none=>exact ⟨rfl,fun h=>by cases h⟩
         | some w=>exact ⟨rfl,fun _=>rfl⟩
       · rw [if_neg hc,if_neg (fun h => hc ⟨by have := h.2.1.1; omega,by have := h.2.1.2; omega,h.2.2⟩)]
         exact ⟨rfl,fun h=>by cases h⟩
   rw [if_neg e1]
   by_cases e2:a=tDo
   · rw [if_pos e2,if_neg (fun h => absurd (e2.symm.trans h.1) (by decide))]
     by_cases hl:l.length=1
     · obtain ⟨w,rfl⟩ := List.length_eq_one_iff.1 hl
       rw [if_pos ⟨e2,rfl⟩]
       simp only
       cases zg [w] with
       | none=>exact ⟨rfl,fun h=>by cases h⟩
       | some w=>exact ⟨rfl,fun _=>rfl⟩
     · rw [if_neg (fun h => hl h.2),if_neg (fun h => e1 h.1)]
       match l,hl with
       | [],_=>exact ⟨rfl,fun h=>by cases h⟩
       | _::_::_,_=>exact ⟨rfl,fun h=>by cases h⟩
   rw [if_neg e2]
   by_cases e3:a=qje
   · rw [if_pos e3]
     by_cases hl:l.length=1
     · obtain ⟨w,rfl⟩ := List.length_eq_one_iff.1 hl
       rw [if_pos ⟨e3,rfl⟩]
       simp only [List.getD_cons_zero]
       cases hn:qaB w 1 QM with
       | false=>exact ⟨by simp,fun h=>by cases h⟩
       | true=>exact ⟨by simp,fun _=>by simp [qpn hn]⟩
     · rw [if_neg (fun h => hl h.2),if_neg (fun h => e2 h.1),if_neg (fun h => e1 h.1)]
       match l,hl with
       | [],_=>exact ⟨rfl,fun h=>by cases h⟩
       | _::_::_,_=>exact ⟨rfl,fun h=>by cases h⟩
   rw [if_neg e3,if_neg (fun h=>e3 h.1),if_neg (fun h=>e2 h.1),if_neg (fun h=>e1 h.1)]
   by_cases hl:l=[]
   · have hsa := hj hl
     subst hsa
     rw [if_pos hl,if_neg h1,if_neg h2,if_neg h3]
     exact ⟨rfl,fun h=>by cases h⟩
   · rw [if_neg hl]
     exact ⟨rfl,fun h=>by cases h⟩
end Go.AM

namespace Go.AM
open Go.RowKit Go.Proofs
theorem qiv (s:List UInt8) (hs:s.length≤1000000):qC Tryz.prog 58 [S s] (.tup [LnV (qfx s).1,B (qfx s).2]):=by
 refine zO (zj Tryz.func58 qeH qfi (by show 1≤_;decide) ?_)
 simp -implicitDefEqProofs (disch:=omega)[qdX,qb]
 refine qg (ys:=[S s,S [32]]) (ids:=[]) rfl (qbT s 32 hs) ?_
 have hsb:=YC (c:=32) (s:=s)
 by_cases c0:s=tBath
 case pos =>
  have hP:qfx s=(⟨2,[],[],0⟩,true):=by rw [c0];rfl
  have b0:(s==tBath)=true:=by rw [beq_iff_eq];exact c0
  rw [hP]
  simp -implicitDefEqProofs (disch:=omega)[qb,b0]
  refine qK (id:=0) (off:=0) rfl rfl (by simp) ?_
  exact qG (r' := .tup [.agg [I 2,S [],.sl true 0 [],I 0],B true]) (is:=[]) rfl (.tupL (.cons (.aggL (.cons (.refl _) (.cons (.refl _) (.cons .slf (.cons (.refl _) .nil))))) (.cons (.refl _) .nil)))
 have b0:(s==tBath)=false:=by rw [beq_eq_false_iff_ne];exact c0
 by_cases c1:s=qdE
 case pos =>
  have hP:qfx s=(⟨5,[],[],0⟩,true):=by rw [c1];rfl
  have b1:(s==qdE)=true:=by rw [beq_iff_eq];exact c1
  rw [hP]
  simp -implicitDefEqProofs (disch:=omega)[qb,b0,b1]
  refine qK (id:=0) (off:=0) rfl rfl (by simp) ?_
  exact qG (r' := .tup [.agg [I 5,S [],.sl true 0 [],I 0],B true]) (is:=[]) rfl (.tupL (.cons (.aggL (.cons (.refl _) (.cons (.refl _) (.cons .slf (.cons (.refl _) .nil))))) (.cons (.refl _) .nil)))
 have b1:(s==qdE)=false:=by rw [beq_eq_false_iff_ne];exact c1
 by_cases c2:s=VX
 case pos =>
  have hP:qfx s=(⟨6,[],[],0⟩,true):=by rw [c2];rfl
  have b2:(s==VX)=true:=by rw [beq_iff_eq];exact c2
  rw [hP]
  simp -implicitDefEqProofs (disch:=omega)[qb,b0,b1,b2]
  refine qK (id:=0) (off:=0) rfl rfl (by simp) ?_
  exact qG (r' := .tup [.agg [I 6,S [],.sl true 0 [],I 0],B true]) (is:=[]) rfl (.tupL (.cons (.aggL (.cons (.refl _) (.cons (.refl _) (.cons .slf (.cons (.refl _) .nil))))) (.cons (.refl _) .nil)))
 have b2:(s==VX)=false:=by rw [beq_eq_false_iff_ne];exact c2
 simp -implicitDefEqProofs (disch:=omega)[qb,b0,b1,b2]
 have hP : qfx s = (match qM 32 s with
  | []=>(ln0,false)
  | a::l =>
    if a=qje∧l.length=1 then (⟨4,[],[],piV (l.getD 0 [])⟩,qaB (l.getD 0 []) 1 QM)
    else if a=tDo∧l.length=1 then (⟨3,[],(zg l).getD [],0⟩,(zg l).isSome)
    else if a=Zd∧(2≤l.length∧l.length≤9)∧QW (l.getD 0 [])=true then (⟨1,l.getD 0 [],(zg l.tail).getD [],0⟩,(zg l.tail).isSome)
    else (ln0,false)):=by unfold qfx;rw [if_neg c0,if_neg c1,if_neg c2];all_goals (cases qM 32 s <;> rfl)
 obtain ⟨a,l,hL⟩:∃ a l,qM 32 s=a::l:=by
  cases h:qM 32 s with
  | nil=>exact absurd h (Jz _ _)
  | cons a l=>exact ⟨a,l,rfl⟩
 rw [hP]
 clear hP
 rw [hL] at hsb ⊢
 obtain ⟨hl1,hl2⟩:=hsb
 simp only [List.length_cons] at hl1
 have hl5:∀ w∈l,w.length≤1000000:=fun w hw=>by have:=hl2 w (by simp [hw]);omega
 clear hl2
 have hls:((a::l).length:Int)=(l.length:Int)+1:=by simp
 simp -implicitDefEqProofs (disch:=omega)[qb,hls,Qi,WJ]
 by_cases r1:a=qje
 case pos =>
  have n1:(a==qje)=true:=by rw [beq_iff_eq];exact r1
  have n2:(a==tDo)=false:=by rw [r1];rfl
  have n3:(a==Zd)=false:=by rw [r1];rfl
  have m2:¬ a=tDo:=by rw [r1];decide
  have m3:¬ a=Zd:=by rw [r1];decide
  by_cases h1:l.length=1
  case pos =>
   obtain ⟨n,rfl⟩:=List.length_eq_one_iff.1 h1
   rw [if_pos ⟨r1,rfl⟩]
   simp -implicitDefEqProofs (disch:=omega)[qb,n1,Qi,YY,WJ]
   refine qg (ys:=[S n,I 1,I 1099511627776]) (ids:=[]) rfl (qal n (hl5 n (by simp)) 1 1099511627776 (by decide) (by decide)) ?_
   simp -implicitDefEqProofs (disch:=omega)[qb]
   refine qK (id:=0) (off:=0) rfl rfl (by simp) ?_
   exact qG (r' := .tup [.agg [I 4,S [],.sl true 0 [],I (piV n)],B (qaB n 1 1099511627776)]) (is:=[]) rfl (.tupL (.cons (.aggL (.cons (.refl _) (.cons (.refl _) (.cons .slf (.cons (.refl _) .nil))))) (.cons (.refl _) .nil)))
  case neg =>
   have h1':((l.length:Int)+1==2)=false:=by rw [beq_eq_false_iff_ne];omega
   rw [if_neg (fun h=>h1 h.2),if_neg (fun h=>m2 h.1),if_neg (fun h=>m3 h.1)]
   simp -implicitDefEqProofs (disch:=omega)[qb,n1,n2,n3,h1',Qi,WJ]
   refine qK (id:=0) (off:=0) rfl rfl (by simp) ?_
   exact qG (r' := .tup [.agg [I 0,S [],.sl true 0 [],I 0],B false]) (is:=[]) rfl (.tupL (.cons (.aggL (.cons (.refl _) (.cons (.refl _) (.cons .slf (.cons (.refl _) .nil))))) (.cons (.refl _) .nil)))
 have n1:(a==qje)=false:=by rw [beq_eq_false_iff_ne];exact r1
 by_cases r2:a=tDo
 case pos =>
  have n2:(a==tDo)=true:=by rw [beq_iff_eq];exact r2
  have n3:(a==Zd)=false:=by rw [r2];rfl
  have m3:¬ a=Zd:=by rw [r2];decide
  by_cases h1:l.length=1
  case pos =>
   obtain ⟨n,rfl⟩:=List.length_eq_one_iff.1 h1
   rw [if_neg (fun h=>r1 h.1),if_pos ⟨r2,rfl⟩]
   simp -implicitDefEqProofs (disch:=omega)[qb,n1,n2,Qi,YY,WJ]
   refine qg (ys:=[qjl false [n]]) (ids:=[]) rfl (qbV false [n] (by simp) hl5) ?_
   simp -implicitDefEqProofs (disch:=omega)[qb]
   refine qK (id:=0) (off:=0) rfl rfl (by simp) ?_
   exact qG (r' := .tup [.agg [I 3,S [],Wds ((zg [n]).getD []),I 0],B (zg [n]).isSome]) (is:=[]) rfl (.tupL (.cons (.aggL (.cons (.refl _) (.cons (.refl _) (.cons .slf (.cons (.refl _) .nil))))) (.cons (.refl _) .nil)))
  case neg =>
   have h1':((l.length:Int)+1==2)=false:=by rw [beq_eq_false_iff_ne];omega
   rw [if_neg (fun h=>h1 h.2),if_neg (fun h=>h1 h.2),if_neg (fun h=>m3 h.1)]
   simp -implicitDefEqProofs (disch:=omega)[qb,n1,n2,n3,h1',Qi,WJ]
   refine qK (id:=0) (off:=0) rfl rfl (by simp) ?_
   exact qG (r' := .tup [.agg [I 0,S [],.sl true 0 [],I 0],B false]) (is:=[]) rfl (.tupL (.cons (.aggL (.cons (.refl _) (.cons (.refl _) (.cons .slf (.cons (.refl _) .nil))))) (.cons (.refl _) .nil)))
 have n2:(a==tDo)=false:=by rw [beq_eq_false_iff_ne];exact r2
 rw [if_neg (fun h=>r1 h.1),if_neg (fun h=>r2 h.1)]
 by_cases r3:a=Zd
 case neg =>
  have n3:(a==Zd)=false:=by rw [beq_eq_false_iff_ne];exact r3
  rw [if_neg (fun h=>r3 h.1)]
  simp -implicitDefEqProofs (disch:=omega)[qb,n1,n2,n3,Qi,WJ]
  refine qK (id:=0) (off:=0) rfl rfl (by simp) ?_
  exact qG (r' := .tup [.agg [I 0,S [],.sl true 0 [],I 0],B false]) (is:=[]) rfl (.tupL (.cons (.aggL (.cons (.refl _) (.cons (.refl _) (.cons .slf (.cons (.refl _) .nil))))) (.cons (.refl _) .nil)))
 have n3:(a==Zd)=true:=by rw [beq_iff_eq];exact r3
 by_cases hr:2≤l.length∧l.length≤9
 case neg =>
  have hw:Ze 3 10 ((l.length:Int)+1)=false:=by
   unfold Ze
   by_cases h:2≤l.length
   · have : ¬ ((l.length : Int) + 1 ≤ 10) := by omega
     simp [this]
   · have : ¬ (3 ≤ (l.length : Int) + 1) := by omega
     simp [this]
  rw [if_neg (fun h=>hr h.2.1)]
  simp -implicitDefEqProofs (disch:=omega)[qb,n1,n2,n3,Qi,WJ]
  refine zq (ys:=[I ((l.length:Int)+1)]) (ids:=[]) rfl rfl ?_
  simp -implicitDefEqProofs (disch:=omega)[qb,zP]
  refine qg rfl (Qj 3 10 true ((l.length:Int)+1)) ?_
  rw [hw]
  simp -implicitDefEqProofs (disch:=omega)[qb,AV.scalar,Qi,WJ]
  refine qK (id:=0) (off:=0) rfl rfl (by simp) ?_
  exact qG (r' := .tup [.agg [I 0,S [],.sl true 0 [],I 0],B false]) (is:=[]) rfl (.tupL (.cons (.aggL (.cons (.refl _) (.cons (.refl _) (.cons .slf (.cons (.refl _) .nil))))) (.cons (.refl _) .nil)))
 have hw:Ze 3 10 ((l.length:Int)+1)=true:=by
  unfold Ze
  have h1:3≤(l.length:Int)+1:=by omega
  have h2:(l.length:Int)+1≤10:=by omega
  simp [h1,h2]
 obtain ⟨n,ws,rfl⟩:∃ n ws,l=n::ws:=by
  cases l with
  | nil=>simp at hr
  | cons n ws=>exact ⟨n,ws,rfl⟩
 have hws:∀ w∈ws,w.length≤1000000:=fun w hw=>hl5 w (by simp [hw])
 have hln:((n::ws).length:Int)+1=(ws.length:Int)+1+1:=by simp
 rw [hln] at hw
 cases hnb:QW n with
 | false =>
   rw [if_neg (fun h=>by have:=h.2.2;simp [hnb] at this)]
   simp -implicitDefEqProofs (disch:=omega)[qb,n1,n2,n3,Qi,WJ]
   refine ⟨by omega,?_⟩
   refine zq (sz:=1) (ys:=[I ((ws.length:Int)+1+1)]) (ids:=[]) rfl rfl ?_
   simp -implicitDefEqProofs (disch:=omega)[qb,zP]
   refine qg rfl (Qj 3 10 true ((ws.length:Int)+1+1)) ?_
   rw [hw]
   simp -implicitDefEqProofs (disch:=omega)[qb,AV.scalar,Qi,WJ]
   refine ⟨by omega,?_⟩
   refine qg (ys:=[S n]) (ids:=[]) rfl (Zk n (hl5 n (by simp))) ?_
   rw [hnb]
   simp -implicitDefEqProofs (disch:=omega)[qb,AV.scalar]
   refine qK (id:=0) (off:=0) rfl rfl (by simp) ?_
   exact qG (r' := .tup [.agg [I 0,S [],.sl true 0 [],I 0],B false]) (is:=[]) rfl (.tupL (.cons (.aggL (.cons (.refl _) (.cons (.refl _) (.cons .slf (.cons (.refl _) .nil))))) (.cons (.refl _) .nil)))
 | true =>
   rw [if_pos ⟨r3,hr,by simpa using hnb⟩]
   simp only [List.length_cons] at hr
   simp -implicitDefEqProofs (disch:=omega)[qb,n1,n2,n3,Qi,WJ]
   refine ⟨by omega,?_⟩
   refine zq (sz:=1) (ys:=[I ((ws.length:Int)+1+1)]) (ids:=[]) rfl rfl ?_
   simp -implicitDefEqProofs (disch:=omega)[qb,zP]
   refine qg rfl (Qj 3 10 true ((ws.length:Int)+1+1)) ?_
   rw [hw]
   simp -implicitDefEqProofs (disch:=omega)[qb,AV.scalar,Qi,WJ]
   refine ⟨by omega,?_⟩
   refine qg (ys:=[S n]) (ids:=[]) rfl (Zk n (hl5 n (by simp))) ?_
   rw [hnb]
   simp -implicitDefEqProofs (disch:=omega)[qb,AV.scalar,Qi,WJ,qk7]
   refine ⟨by omega,?_⟩
   refine qg (ys:=[qjl false ws]) (ids:=[]) rfl (qbV false ws (by omega) hws) ?_
   simp -implicitDefEqProofs (disch:=omega)[qb,AV.scalar,Qi,WJ]
   refine ⟨by omega,?_⟩
   refine qK (id:=0) (off:=0) rfl rfl (by simp) ?_
   exact qG (r' := .tup [.agg [I 1,S n,Wds ((zg ws).getD []),I 0],B (zg ws).isSome]) (is:=[]) rfl (.tupL (.cons (.aggL (.cons (.refl _) (.cons (.refl _) (.cons .slf (.cons (.refl _) .nil))))) (.cons (.refl _) .nil)))
theorem qpm (s:List UInt8) (h:s.length≤200):zd s=(if (qfx s).2=true then (qfx s).1 else ln0)∧jc s=(if (qfx s).2=true then 0 else 8):=by
 obtain ⟨h1,h2⟩:=qpl s
 unfold zd jc
 rw [if_pos h,if_pos h,←h1]
 cases hb:(qfx s).2 with
 | true=>rw [h2 hb];exact ⟨rfl,rfl⟩
 | false =>
   rw [hb] at h1
   have:WY s=none:=by
    cases hp:WY s with
    | none=>rfl
    | some x=>rw [hp] at h1;cases h1
   rw [this];exact ⟨rfl,rfl⟩
theorem Yo (s:List UInt8) (hs:s.length≤1000000):qC Tryz.prog 19 [S s] (.tup [LnV (zd s),I (jc s)]):=by
 refine zO (zj Tryz.func19 qeA qfg (by show 1≤_;decide) ?_)
 simp -implicitDefEqProofs (disch:=omega)[qdS,qb]
 by_cases h1:s.length≤200
 case neg =>
  have h1':(200<(s.length:Int))=True:=by simp only [eq_iff_iff,iff_true];omega
  have e1:zd s=ln0:=by unfold zd;rw [if_neg h1]
  have e2:jc s=7:=by unfold jc;rw [if_neg h1]
  rw [e1,e2]
  simp -implicitDefEqProofs (disch:=omega)[qb,h1']
  refine qK (id:=0) (off:=0) rfl rfl (by simp) ?_
  exact qG (r' := .tup [.agg [I 0,S [],.sl true 0 [],I 0],I 7]) (is:=[]) rfl (.tupL (.cons (.aggL (.cons (.refl _) (.cons (.refl _) (.cons .slf (.cons (.refl _) .nil))))) (.cons (.refl _) .nil)))
 have h1':(200<(s.length:Int))=False:=by simp only [eq_iff_iff,iff_false];omega
 obtain ⟨e1,e2⟩:=qpm s h1
 rw [e1,e2]
 simp -implicitDefEqProofs (disch:=omega)[qb,h1']
 refine qg (ys:=[S s]) (ids:=[]) rfl (qiv s hs) ?_
 generalize qfx s=C
 obtain ⟨x,ok⟩:=C
 cases ok with
 | false =>
   simp -implicitDefEqProofs (disch:=omega)[qb,lnC]
   refine qK (id:=0) (off:=0) rfl rfl (by simp) ?_
   exact qG (r' := .tup [.agg [I 0,S [],.sl true 0 [],I 0],I 8]) (is:=[]) rfl (.tupL (.cons (.aggL (.cons (.refl _) (.cons (.refl _) (.cons .slf (.cons (.refl _) .nil))))) (.cons (.refl _) .nil)))
 | true =>
   simp -implicitDefEqProofs (disch:=omega)[qb,lnC]
   refine qK (id:=0) (off:=0) rfl rfl (by simp) ?_
   exact qG (is:=[]) rfl (.refl _)
theorem qhd {w:Wd} (h:WdI w):(V7 w).length≤100030:=by
 unfold V7
 have h1:(if w.2.1=[] then [UInt8.ofNat w.1.toNat] else w.2.1).length≤100001:=by
  split
  · simp
  · have:=h.2.2;omega
 have h2:(if w.2.2=1 then ([]:List UInt8) else 42::Lib.itoa w.2.2).length≤22:=by
  split
  · simp
  · have e : (10 : Nat) ^ (18 + 1) = 10000000000000000000 := by decide
    have hr:=h.2.1
    unfold i64 at hr
    unfold Lib.itoa
    split
    · have : (Lib.decDigits w.2.2.natAbs).length ≤ 18 + 1 := j8 18 w.2.2.natAbs (by omega)
      simp only [List.length_cons];omega
    · have : (Lib.decDigits w.2.2.toNat).length ≤ 18 + 1 := j8 18 w.2.2.toNat (by omega)
      simp only [List.length_cons];omega
 rw [List.length_append];omega
theorem qiR {a sz : Nat} {fr : List (Nat × AV)} {hp : List HObj} {id off : Nat} {cs : List AV} {K : AV → List HObj → Prop} (h1 : get fr a = .ref id off) (h2 : qr hp id = some (.cells cs)) (h3 : off + sz ≤ cs.length) (k : K (.agg (zT cs off sz)) hp) :
 qh5 [(a,some (true,sz))] K .ret ⟨fr,hp⟩:=by
 refine ⟨[.agg (zT cs off sz)],⟨?_,trivial⟩,k⟩
 simp only [WH,h1,zh,h2]
 exact ⟨trivial,h3,trivial⟩
theorem VH:qC Tryz.prog 110 [] (.agg (wdC (0,[],0))):=by
 refine zO (zj Tryz.func110 qf4 qgx (by show 0≤_;decide) ?_)
 simp -implicitDefEqProofs (disch:=omega)[qgY,qb]
 refine qiR (id:=0) (off:=0) rfl rfl (by simp) ?_
 exact qG (is:=[]) rfl (.refl _)
theorem Qc {neg:Bool} {a a' c c':Int} {b b':List UInt8} {K:AV→List (Nat × HObj)→Prop}:qnW neg (true,[.int,.str,.int]) (.agg [U a,S b,I c]) (.agg [U a',S b',I c']) K=K (B (neg != decide (((a,b,c):Wd)=(a',b',c')))) []:=qnz (a:=(a,b,c)) (b:=(a',b',c'))
theorem qeY (f:Bool) (l:List Wd) (hl:l.length≤1000) (hw:∀ w∈l, WdI w):qC Tryz.prog 63 [qlu f l] (.tup [S (XO l).1, B (XO l).2]):=by
 refine qT (walk Tryz.func63 qbh (by kernel_rfl) (by show 1≤_;decide) ?_)
 simp -implicitDefEqProofs (disch:=omega)[XE,qb]
 refine qO (fun q:Nat × List HObj=>⟨[(4,S ((l.take q.1).flatMap fun w=>32::V7 w)),(10,qlu f l),(11,I (l.length:Int)),(12,I (q.1:Int))],q.2⟩) (fun q=>q.1≤l.length∧(l.take q.1).all XN=true) (fun q=>l.length - q.1) (0,[]) ⟨Nat.zero_le _,rfl⟩ rfl ?_
 rintro ⟨i,H⟩ ⟨c1,c2⟩
 simp only at c1 c2 ⊢
 refine qW fun K0 hK0=>?_
 simp -implicitDefEqProofs (disch:=omega)[qb]
 refine qP (fun hc=>?_) (fun hc=>?_)
 · have hi : i < l.length := by simpa using hc
   have ix:((i:Int)+1)=((i+1:Nat):Int):=by omega
   have hwi:=hw _ (List.getElem_mem hi)
   have st:(l.take (i+1)).flatMap (fun w=>32::V7 w)=(l.take i).flatMap (fun w=>32::V7 w)++(32::V7 l[i]):=qcC (f:=fun w=>32::V7 w) hi
   have st2:(l.take (i+1)).all XN=((l.take i).all XN&&XN l[i]):=by rw [List.take_succ_eq_append_getElem hi,List.all_append];simp
   have hno : XN l[i] = false → XO l = ([],false) := fun h => by
    unfold XO
    rw [if_neg]
    intro ha
    rw [List.all_eq_true] at ha
    have:=ha _ (List.getElem_mem hi)
    rw [h] at this;cases this
   have hlen := qcB (f := fun w => 32 :: V7 w) (n := 100031) (l := l.take i) fun w hw' => by
    have:=qhd (hw w (List.mem_of_mem_take hw'))
    simp only [List.length_cons];omega
   have hol:=qhd hwi
   rw [List.length_take] at hlen
   have hW:XN l[i]=decide (jX (V7 l[i])=(l[i],true)):=rfl
   generalize hA:(l.take i).flatMap (fun w=>32::V7 w)=A at *
   simp -implicitDefEqProofs (disch:=omega)[qb,hi]
   generalize l[i]=w at *
   obtain ⟨a,nm,t⟩:=w
   simp -implicitDefEqProofs (disch:=omega)[qb,wdC]
   have hti:=hwi.2.1
   by_cases hnm:nm=[]
   case pos =>
    subst hnm
    obtain ⟨n,rfl⟩:∃ n:Nat,a=n:=⟨a.toNat,by have:=hwi.1;simp only at this;omega⟩
    have hn:n≤255:=by have:=hwi.1;simp only at this;omega
    have hB:V7 ((n:Int),[],t)=[UInt8.ofNat n]++(if t=1 then [] else 42::Lib.itoa t):=by unfold V7;rw [if_pos rfl];rfl
    simp -implicitDefEqProofs (disch:=omega)[qb]
    refine zq (ys:=[U (n:Int)]) (ids:=[]) rfl rfl ?_
    simp -implicitDefEqProofs (disch:=omega)[qb,zP]
    by_cases ht:t=1
    case pos =>
     subst ht
     have hO:V7 ((n:Int),[],1)=[UInt8.ofNat n]:=by rw [hB];simp
     simp -implicitDefEqProofs (disch:=omega)[qb]
     rw [hO] at st hW
     try rw [hO] at hol
     have hV:=fun h=>qa2 (s:=[UInt8.ofNat n]) h
     refine qg (ys:=[S [UInt8.ofNat n]]) (ids:=[]) rfl (Yb _ (by first | omega | (simp only [List.length_append];omega))) ?_
     generalize jX [UInt8.ofNat n]=R at *
     obtain ⟨⟨a2,nm2,t2⟩,ok⟩:=R
     cases ok with
     | false =>
       have h0:XN ((n:Int),[],1)=false:=by rw [hW];simp
       rw [hK0,hno h0]
       simp -implicitDefEqProofs (disch:=omega)[qb,wdC,V1,WL,jY,jZ,qt,qf,Qc,zW,zJ,zE]
       exact ⟨[],rfl⟩
     | true =>
       by_cases heq:((a2,nm2,t2):Wd)=((n:Int),[],1)
       case neg =>
        have h0:XN ((n:Int),[],1)=false:=by rw [hW];simp only [Prod.mk.injEq,and_true];rw [Prod.mk.injEq,Prod.mk.injEq] at heq;simpa using heq
        rw [hK0,hno h0]
        have hd:(true != decide (((a2,nm2,t2):Wd)=((n:Int),[],1)))=true:=by rw [decide_eq_false heq];rfl
        simp -implicitDefEqProofs (disch:=omega)[qb,wdC,V1,WL,jY,jZ,qt,qf,zW,zJ,zE]
        rw [Qc,hd]
        simp -implicitDefEqProofs (disch:=omega)[qb,wdC,V1,WL,jY,jZ,qt,qf,Qc,zW,zJ,zE]
        exact ⟨[],rfl⟩
       case pos =>
        have h0:XN ((n:Int),[],1)=true:=by rw [hW,heq];simp
        rw [h0,c2] at st2
        have hv:=heq
        simp only [Prod.mk.injEq] at hv
        obtain ⟨e1,e2,e3⟩:=hv
        subst a2;subst nm2;subst t2
        simp -implicitDefEqProofs (disch:=omega)[qb,wdC,V1,WL,jY,jZ,qt,qf,Qc,zW,zJ,zE]
        refine qQ (ys:=[]) (ids:=[]) rfl VH ?_
        have hv1:=(hV rfl).2.1
        have hz:(false != decide ((((n:Int),[],1):Wd)=(0,[],0)))=false:=by rw [decide_eq_false (fun h=>by simp only [Prod.mk.injEq] at h;simp only at hv1;omega)];rfl
        simp -implicitDefEqProofs (disch:=omega)[qb,wdC,AV.scalar]
        rw [Qc,hz]
        simp -implicitDefEqProofs (disch:=omega)[qb,wdC,V1,WL,jY,jZ,qt,qf,Qc,zW,zJ,zE]
        have e32:AV.v (Value.string ⟨#[32]⟩)=S [32]:=rfl
        rw [e32,Z5 (by first | omega | (simp only [List.length_append,List.length_cons,List.length_nil] at hol ⊢;omega))]
        simp -implicitDefEqProofs (disch:=omega)[qb,-List.cons_append,-List.nil_append]
        rw [Z5 (by first | omega | (simp only [List.length_append,List.length_cons,List.length_nil] at hol ⊢;omega))]
        simp -implicitDefEqProofs (disch:=omega)[qb,-List.cons_append,-List.nil_append]
        rw [hK0]
        refine qz (i+1,H++[.cells [U (n:Int),S [],I 1],.cells [U (n:Int),S [],I 1]]) ⟨by simp only;omega,st2⟩ (by simp only;omega) ?_
        simp only [ix,st]
        try simp
    case neg =>
     have ht':(t != 1)=true:=by rw [bne_iff_ne];exact ht
     have hO:V7 ((n:Int),[],t)=[UInt8.ofNat n]++([42]++Lib.itoa t):=by rw [hB,if_neg ht];rfl
     simp -implicitDefEqProofs (disch:=omega)[qb,ht']
     refine qg (ys:=[I t]) (ids:=[]) rfl (qfu t hti) ?_
     simp -implicitDefEqProofs (disch:=omega)[qb,AV.scalar]
     have e42:AV.v (Value.string ⟨#[42]⟩)=S [42]:=rfl
     rw [hO] at hol
     simp only [List.length_append] at hol
     rw [e42,Z5 (by omega)]
     simp -implicitDefEqProofs (disch:=omega)[qb,-List.cons_append,-List.nil_append]
     rw [Z5 (by first | omega | (simp only [List.length_append,List.length_cons,List.length_nil] at hol ⊢;omega))]
     simp -implicitDefEqProofs (disch:=omega)[qb,-List.cons_append,-List.nil_append]
     rw [hO] at st hW
     try rw [hO] at hol
     have hV:=fun h=>qa2 (s:=([UInt8.ofNat n]++([42]++Lib.itoa t))) h
     refine qg (ys:=[S ([UInt8.ofNat n]++([42]++Lib.itoa t))]) (ids:=[]) rfl (Yb _ (by first | omega | (simp only [List.length_append];omega))) ?_
     generalize jX ([UInt8.ofNat n]++([42]++Lib.itoa t))=R at *
     obtain ⟨⟨a2,nm2,t2⟩,ok⟩:=R
     cases ok with
     | false =>
       have h0:XN ((n:Int),[],t)=false:=by rw [hW];simp
       rw [hK0,hno h0]
       simp -implicitDefEqProofs (disch:=omega)[qb,wdC,V1,WL,jY,jZ,qt,qf,Qc,zW,zJ,zE]
       exact ⟨[],rfl⟩
     | true =>
       by_cases heq:((a2,nm2,t2):Wd)=((n:Int),[],t)
       case neg =>
        have h0:XN ((n:Int),[],t)=false:=by rw [hW];simp only [Prod.mk.injEq,and_true];rw [Prod.mk.injEq,Prod.mk.injEq] at heq;simpa using heq
        rw [hK0,hno h0]
        have hd:(true != decide (((a2,nm2,t2):Wd)=((n:Int),[],t)))=true:=by rw [decide_eq_false heq];rfl
        simp -implicitDefEqProofs (disch:=omega)[qb,wdC,V1,WL,jY,jZ,qt,qf,zW,zJ,zE]
        rw [Qc,hd]
        simp -implicitDefEqProofs (disch:=omega)[qb,wdC,V1,WL,jY,jZ,qt,qf,Qc,zW,zJ,zE]
        exact ⟨[],rfl⟩
       case pos =>
        have h0:XN ((n:Int),[],t)=true:=by rw [hW,heq];simp
        rw [h0,c2] at st2
        have hv:=heq
        simp only [Prod.mk.injEq] at hv
        obtain ⟨e1,e2,e3⟩:=hv
        subst a2;subst nm2;subst t2
        simp -implicitDefEqProofs (disch:=omega)[qb,wdC,V1,WL,jY,jZ,qt,qf,Qc,zW,zJ,zE]
        refine qQ (ys:=[]) (ids:=[]) rfl VH ?_
        have hv1:=(hV rfl).2.1
        have hz:(false != decide ((((n:Int),[],t):Wd)=(0,[],0)))=false:=by rw [decide_eq_false (fun h=>by simp only [Prod.mk.injEq] at h;simp only at hv1;omega)];rfl
        simp -implicitDefEqProofs (disch:=omega)[qb,wdC,AV.scalar]
        rw [Qc,hz]
        simp -implicitDefEqProofs (disch:=omega)[qb,wdC,V1,WL,jY,jZ,qt,qf,Qc,zW,zJ,zE]
        have e32:AV.v (Value.string ⟨#[32]⟩)=S [32]:=rfl
        rw [e32,Z5 (by first | omega | (simp only [List.length_append,List.length_cons,List.length_nil] at hol ⊢;omega))]
        simp -implicitDefEqProofs (disch:=omega)[qb,-List.cons_append,-List.nil_append]
        rw [Z5 (by first | omega | (simp only [List.length_append,List.length_cons,List.length_nil] at hol ⊢;omega))]
        simp -implicitDefEqProofs (disch:=omega)[qb,-List.cons_append,-List.nil_append]
        rw [hK0]
        refine qz (i+1,H++[.cells [U (n:Int),S [],I t],.cells [U (n:Int),S [],I t]]) ⟨by simp only;omega,st2⟩ (by simp only;omega) ?_
        simp only [ix,st]
        try simp
   case neg =>
    have hB:V7 (a,nm,t)=nm++(if t=1 then [] else 42::Lib.itoa t):=by unfold V7;rw [if_neg hnm]
    have hne:nm.isEmpty=false:=by simpa using hnm
    simp -implicitDefEqProofs (disch:=omega)[qb,hne]
    by_cases ht:t=1
    case pos =>
     subst ht
     have hO:V7 (a,nm,1)=nm:=by rw [hB];simp
     simp -implicitDefEqProofs (disch:=omega)[qb]
     rw [hO] at st hW
     try rw [hO] at hol
     have hV:=fun h=>qa2 (s:=nm) h
     refine qg (ys:=[S nm]) (ids:=[]) rfl (Yb _ (by first | omega | (simp only [List.length_append];omega))) ?_
     generalize jX nm=R at *
     obtain ⟨⟨a2,nm2,t2⟩,ok⟩:=R
     cases ok with
     | false =>
       have h0:XN (a,nm,1)=false:=by rw [hW];simp
       rw [hK0,hno h0]
       simp -implicitDefEqProofs (disch:=omega)[qb,wdC,V1,WL,jY,jZ,qt,qf,Qc,zW,zJ,zE]
       exact ⟨[],rfl⟩
     | true =>
       by_cases heq:((a2,nm2,t2):Wd)=(a,nm,1)
       case neg =>
        have h0:XN (a,nm,1)=false:=by rw [hW];simp only [Prod.mk.injEq,and_true];rw [Prod.mk.injEq,Prod.mk.injEq] at heq;simpa using heq
        rw [hK0,hno h0]
        have hd:(true != decide (((a2,nm2,t2):Wd)=(a,nm,1)))=true:=by rw [decide_eq_false heq];rfl
        simp -implicitDefEqProofs (disch:=omega)[qb,wdC,V1,WL,jY,jZ,qt,qf,zW,zJ,zE]
        rw [Qc,hd]
        simp -implicitDefEqProofs (disch:=omega)[qb,wdC,V1,WL,jY,jZ,qt,qf,Qc,zW,zJ,zE]
        exact ⟨[],rfl⟩
       case pos =>
        have h0:XN (a,nm,1)=true:=by rw [hW,heq];simp
        rw [h0,c2] at st2
        have hv:=heq
        simp only [Prod.mk.injEq] at hv
        obtain ⟨e1,e2,e3⟩:=hv
        subst a2;subst nm2;subst t2
        simp -implicitDefEqProofs (disch:=omega)[qb,wdC,V1,WL,jY,jZ,qt,qf,Qc,zW,zJ,zE]
        refine qQ (ys:=[]) (ids:=[]) rfl VH ?_
        have hv1:=(hV rfl).2.1
        have hz:(false != decide (((a,nm,1):Wd)=(0,[],0)))=false:=by rw [decide_eq_false (fun h=>by simp only [Prod.mk.injEq] at h;simp only at hv1;omega)];rfl
        simp -implicitDefEqProofs (disch:=omega)[qb,wdC,AV.scalar]
        rw [Qc,hz]
        simp -implicitDefEqProofs (disch:=omega)[qb,wdC,V1,WL,jY,jZ,qt,qf,Qc,zW,zJ,zE]
        have e32:AV.v (Value.string ⟨#[32]⟩)=S [32]:=rfl
        rw [e32,Z5 (by first | omega | (simp only [List.length_append,List.length_cons,List.length_nil] at hol ⊢;omega))]
        simp -implicitDefEqProofs (disch:=omega)[qb,-List.cons_append,-List.nil_append]
        rw [Z5 (by first | omega | (simp only [List.length_append,List.length_cons,List.length_nil] at hol ⊢;omega))]
        simp -implicitDefEqProofs (disch:=omega)[qb,-List.cons_append,-List.nil_append]
        rw [hK0]
        refine qz (i+1,H++[.cells [U a,S nm,I 1],.cells [U a,S nm,I 1]]) ⟨by simp only;omega,st2⟩ (by simp only;omega) ?_
        simp only [ix,st]
        try simp
    case neg =>
     have ht':(t != 1)=true:=by rw [bne_iff_ne];exact ht
     have hO:V7 (a,nm,t)=nm++([42]++Lib.itoa t):=by rw [hB,if_neg ht];rfl
     simp -implicitDefEqProofs (disch:=omega)[qb,ht']
     refine qg (ys:=[I t]) (ids:=[]) rfl (qfu t hti) ?_
     simp -implicitDefEqProofs (disch:=omega)[qb,AV.scalar]
     have e42:AV.v (Value.string ⟨#[42]⟩)=S [42]:=rfl
     rw [hO] at hol
     simp only [List.length_append] at hol
     rw [e42,Z5 (by omega)]
     simp -implicitDefEqProofs (disch:=omega)[qb,-List.cons_append,-List.nil_append]
     rw [Z5 (by first | omega | (simp only [List.length_append,List.length_cons,List.length_nil] at hol ⊢;omega))]
     simp -implicitDefEqProofs (disch:=omega)[qb,-List.cons_append,-List.nil_append]
     rw [hO] at st hW
     try rw [hO] at hol
     have hV:=fun h=>qa2 (s:=(nm++([42]++Lib.itoa t))) h
     refine qg (ys:=[S (nm++([42]++Lib.itoa t))]) (ids:=[]) rfl (Yb _ (by first | omega | (simp only [List.length_append];omega))) ?_
     generalize jX (nm++([42]++Lib.itoa t))=R at *
     obtain ⟨⟨a2,nm2,t2⟩,ok⟩:=R
     cases ok with
     | false =>
       have h0:XN (a,nm,t)=false:=by rw [hW];simp
       rw [hK0,hno h0]
       simp -implicitDefEqProofs (disch:=omega)[qb,wdC,V1,WL,jY,jZ,qt,qf,Qc,zW,zJ,zE]
       exact ⟨[],rfl⟩
     | true =>
       by_cases heq:((a2,nm2,t2):Wd)=(a,nm,t)
       case neg =>
        have h0:XN (a,nm,t)=false:=by rw [hW];simp only [Prod.mk.injEq,and_true];rw [Prod.mk.injEq,Prod.mk.injEq] at heq;simpa using heq
        rw [hK0,hno h0]
        have hd:(true != decide (((a2,nm2,t2):Wd)=(a,nm,t)))=true:=by rw [decide_eq_false heq];rfl
        simp -implicitDefEqProofs (disch:=omega)[qb,wdC,V1,WL,jY,jZ,qt,qf,zW,zJ,zE]
        rw [Qc,hd]
        simp -implicitDefEqProofs (disch:=omega)[qb,wdC,V1,WL,jY,jZ,qt,qf,Qc,zW,zJ,zE]
        exact ⟨[],rfl⟩
       case pos =>
        have h0:XN (a,nm,t)=true:=by rw [hW,heq];simp
        rw [h0,c2] at st2
        have hv:=heq
        simp only [Prod.mk.injEq] at hv
        obtain ⟨e1,e2,e3⟩:=hv
        subst a2;subst nm2;subst t2
        simp -implicitDefEqProofs (disch:=omega)[qb,wdC,V1,WL,jY,jZ,qt,qf,Qc,zW,zJ,zE]
        refine qQ (ys:=[]) (ids:=[]) rfl VH ?_
        have hv1:=(hV rfl).2.1
        have hz:(false != decide (((a,nm,t):Wd)=(0,[],0)))=false:=by rw [decide_eq_false (fun h=>by simp only [Prod.mk.injEq] at h;simp only at hv1;omega)];rfl
        simp -implicitDefEqProofs (disch:=omega)[qb,wdC,AV.scalar]
        rw [Qc,hz]
        simp -implicitDefEqProofs (disch:=omega)[qb,wdC,V1,WL,jY,jZ,qt,qf,Qc,zW,zJ,zE]
        have e32:AV.v (Value.string ⟨#[32]⟩)=S [32]:=rfl
        rw [e32,Z5 (by first | omega | (simp only [List.length_append,List.length_cons,List.length_nil] at hol ⊢;omega))]
        simp -implicitDefEqProofs (disch:=omega)[qb,-List.cons_append,-List.nil_append]
        rw [Z5 (by first | omega | (simp only [List.length_append,List.length_cons,List.length_nil] at hol ⊢;omega))]
        simp -implicitDefEqProofs (disch:=omega)[qb,-List.cons_append,-List.nil_append]
        rw [hK0]
        refine qz (i+1,H++[.cells [U a,S nm,I t],.cells [U a,S nm,I t]]) ⟨by simp only;omega,st2⟩ (by simp only;omega) ?_
        simp only [ix,st]
        try simp
 · have hi : i = l.length := by simp at hc; omega
   subst hi
   subst hK0
   rw [List.take_length] at c2 ⊢
   have:XO l=(l.flatMap fun w=>32::V7 w,true):=by unfold XO;rw [if_pos c2]
   rw [this]
   simp -implicitDefEqProofs (disch:=omega)[qb]
   exact ⟨[],rfl⟩
def Vn (q:Pl):List Stp:=(List.range q.kept.length).map fun i=>(q.kept.getD i [],zd (q.kept.getD i []),(dy0::q.ds).getD i dy0,q.ds.getD i dy0)
theorem VW (q:Pl):(Vn q).length=q.kept.length:=by simp [Vn]
theorem YE {q:Pl} {i:Nat} (h:i<(Vn q).length):(Vn q)[i]=(q.kept.getD i [],zd (q.kept.getD i []),(dy0::q.ds).getD i dy0,q.ds.getD i dy0):=by simp [Vn]
theorem qaf {α:Type} {l:List α} {i:Nat} {x:α} (h:i<l.length):l.getD i x=l[i]:=by
 rw [List.getD_eq_getElem?_getD,List.getElem?_eq_getElem h];rfl
theorem WW {α:Type} {l:List α} {n i:Nat} {x y:α} (hn:n≤l.length):(l.take n++[y]).getD i x=if i<n then l.getD i x else if i=n then y else x:=by
 have hl:(l.take n).length=n:=by rw [List.length_take];omega
 rw [List.getD_eq_getElem?_getD]
 by_cases h:i<n
 · rw [if_pos h,List.getElem?_append_left (by omega),List.getElem?_take,if_pos h,List.getD_eq_getElem?_getD]
 · rw [if_neg h,List.getElem?_append_right (by omega),hl]
   by_cases e:i=n
   · rw [if_pos e,e];simp
   · rw [if_neg e]
     obtain ⟨k,hk⟩:∃ k,i - n=k+1:=⟨i - n - 1,by omega⟩
     rw [hk];simp
theorem qk0 {n:Nat} {q:Pl} (hv:PlV n q) {s:List UInt8} {d':Dy} {e:List Int}:Vn ⟨q.ds.take q.at'++[d'],q.kept.take q.at'++[s],q.at'+1,e⟩=(Vn q).take q.at'++[(s,zd s,qX q,d')]:=by
 have ha:=hv.at'
 have hk:=hv.kept
 have l1:(q.kept.take q.at').length=q.at':=by rw [List.length_take];omega
 have l2:((Vn q).take q.at').length=q.at':=by rw [List.length_take,VW];omega
 refine List.ext_getElem ?_ fun i h1 h2=>?_
 · rw [VW];simp only [List.length_append,List.length_singleton,l1,l2]
 · rw [YE h1]
   simp only
   have hi:i<q.at'+1:=by rw [VW] at h1;simp only [List.length_append,List.length_singleton,l1] at h1;exact h1
   rw [WW (by omega),WW ha,qeX (by rw [List.length_take];omega),qeW (by omega) ha]
   by_cases hc:i<q.at'
   · rw [if_pos hc,if_pos hc,List.getElem_append_left (by omega),List.getElem_take,YE]
   · have e1 : i = q.at' := by omega
     subst e1
     rw [if_neg hc,if_pos rfl,if_neg hc,if_pos rfl,List.getElem_append_right (by omega)]
     simp [l2,qX]
theorem qbZ {rc:List Bk} {nm x:List UInt8} {p:List Pt} (hn:¬ 0≤zL rc nm):zL (rc++[(nm,p)]) x=if x=nm then (rc.length:Int) else zL rc x:=by
 have habs:∀ b∈rc,b.1≠nm:=by
  rcases VK rc nm with ⟨_,h⟩ | ⟨i,hi,h,_⟩
  · exact h
  · rw [h] at hn;omega
 by_cases e:x=nm
 · subst e
   rw [if_pos rfl]
   unfold zL
   refine qas (i:=rc.length) (by simp) (by simp) fun k hk hlt=>?_
   rw [List.getElem_append_left (by omega)]
   simpa using habs _ (List.getElem_mem (by omega))
 · rw [if_neg e]
   unfold zL qiy
   rw [List.findIdx?_append]
   cases hf:rc.findIdx? (fun b:Bk=>decide (b.1=x)) with
   | some i=>simp
   | none =>
     have:¬ nm=x:=fun h=>e h.symm
     simp [this]
theorem qkB {b d':Dy} {l:Ln} (h:zi b l=(d',0)):(l.kind=1∧¬ 0≤zL b.rc l.name∧∃ p,d'.rc=b.rc++[(l.name,p)])∨(l.kind≠1∧d'.rc=b.rc):=by
 unfold zi at h
 by_cases k1:l.kind=1
 · rw [if_pos k1] at h
   by_cases c1:0≤zL b.rc l.name
   · rw [if_pos c1] at h;simp at h
   rw [if_neg c1] at h
   by_cases c2:32≤b.rc.length
   · rw [if_pos c2] at h;simp at h
   rw [if_neg c2] at h
   split at h
   · simp at h
   · split at h
     · simp at h
     · rename_i p _ _
       left
       refine ⟨k1,c1,p,?_⟩
       have:=congrArg Prod.fst h
       simp only at this
       rw [←this]
 · right
   refine ⟨k1,?_⟩
   rw [if_neg k1] at h
   split at h
   · have:=congrArg Prod.fst h;simp only at this;rw [←this]
   · split at h
     · simp at h
     · split at h
       · split at h
         · simp at h
         · split at h
           · simp at h
           · split at h
             · simp at h
             · have:=congrArg Prod.fst h;simp only at this;rw [←this]
       · split at h
         · simp at h
         · split at h
           · simp at h
           · have:=congrArg Prod.fst h;simp only at this;rw [←this]
theorem qiF {b d':Dy} {l:Ln} (h:zi b l=(d',0)) {E E':List (K3 (List UInt8))} (hE:ByName d'.rc E) (hE':∀ x,JT E' x=if l.kind=1∧x=l.name then none else JT E x):ByName b.rc E':=by
 intro x
 rw [hE' x]
 rcases qkB h with ⟨k1,c1,p,hp⟩ | ⟨k1,hp⟩
 · by_cases e : x = l.name
   · rw [if_pos ⟨k1,e⟩,if_neg (by rw [e];exact c1)]
   · rw [if_neg (fun hh=>e hh.2),hE x,hp,qbZ c1,if_neg e]
 · rw [if_neg (fun hh=>k1 hh.1),hE x,hp]
theorem qgm {b d':Dy} {l:Ln} (h:zi b l=(d',0)) {E E':List (K3 (List UInt8))} (hE:ByName b.rc E) (hE':∀ x,JT E' x=if l.kind=1∧x=l.name then some (b.rc.length:Int) else JT E x):ByName d'.rc E':=by
 intro x
 rw [hE' x]
 rcases qkB h with ⟨k1,c1,p,hp⟩ | ⟨k1,hp⟩
 · rw [hp,qbZ c1]
   by_cases e:x=l.name
   · rw [if_pos ⟨k1,e⟩,if_pos e,if_pos (by omega)]
   · rw [if_neg (fun hh=>e hh.2),if_neg e,hE x]
 · rw [if_neg (fun hh=>k1 hh.1),hE x,hp]
theorem qmF {d:Dy} {l:Ln} (h:(zi d l).2≠0):(zi d l).1=d:=by
 unfold zi at h ⊢
 split
 · rename_i k1
   rw [if_pos k1] at h
   split
   · rfl
   · rename_i c1
     rw [if_neg c1] at h
     split
     · rfl
     · rename_i c2
       rw [if_neg c2] at h
       split
       · rfl
       · rename_i p hp
         rw [hp] at h
         simp only at h
         split
         · rfl
         · rename_i c3;rw [if_neg c3] at h;exact absurd rfl h
 · rename_i k1
   rw [if_neg k1] at h
   split
   · rename_i k2;rw [if_pos k2] at h;exact absurd rfl h
   · rename_i k2
     rw [if_neg k2] at h
     split
     · rfl
     · rename_i b0
       rw [if_neg b0] at h
       split
       · rename_i k3
         rw [if_pos k3] at h
         split
         · rfl
         · rename_i p hp
           rw [hp] at h
           simp only at h
           split
           · rfl
           · rename_i c2
             rw [if_neg c2] at h
             split
             · rfl
             · rename_i c3;rw [if_neg c3] at h;exact absurd rfl h
       · rename_i k3
         rw [if_neg k3] at h
         split
         · rfl
         · rename_i c1
           rw [if_neg c1] at h
           split
           · rfl
           · rename_i c2;rw [if_neg c2] at h;exact absurd rfl h
structure Lg (H:List HObj) (a mid:Nat) (q:Pl):Prop where
 obj:qr H a=some (.cells (dyC (qX q)++[.mp mid,Xj (Vn q),I (q.at':Int)]))
 map:∃ E clk,qr H mid=some (mpK Qb E clk)∧ByName (qX q).rc E∧Pw E
def DoQ (H:List HObj) (a mid:Nat) (q:Pl) (s:List UInt8) (x:AV) (H':List HObj):Prop :=
 ∃ e,x=I e∧(Ql q s).errs=q.errs++[e]∧Lg H' a mid (Ql q s)∧H.length≤H'.length∧∀ j,j<H.length→j≠a→j≠mid→qr H' j=qr H j
theorem qok {P : Program} {f : FuncId} {xs : List AV} {H : List HObj} {a mid : Nat} {q : Pl} {s : List UInt8} (ha : a < H.length) (hm : mid < H.length) (hne : mid ≠ a)
 (h : zG P f xs H fun x H' => DoQ H a mid q s x H' ∨ ∃ e id n,x = I e ∧ (Ql q s).errs = q.errs ++ [e] ∧ qr H' a = some (.cells (dyC (qX (Ql q s)) ++ [.mp mid,.ms id 0 n 15,I ((Ql q s).at' : Int)])) ∧ n = (Vn (Ql q s)).length ∧ qr H' id = some (.cells (fl stC (Vn (Ql q s)))) ∧ H.length ≤ id ∧
  (∃ E clk,qr H' mid=some (mpK Qb E clk)∧ByName (qX (Ql q s)).rc E∧Pw E)∧H.length≤H'.length∧∀ j,j<H.length→j≠a→j≠mid→qr H' j=qr H j):zG P f xs H (DoQ H a mid q s):=by
 refine Y7 (jI (fun x H' hq=>?_) h)
 rcases hq with ⟨e,rfl,h1,h2,h3,h4⟩ | ⟨e,id,n,rfl,h1,h2,rfl,h3,h5,⟨E,clk,h6,h7,h8⟩,h9,h10⟩
 · refine ⟨a,_,_,[],h2.obj,FzL.refl,by simp,by simp,e,rfl,h1,?_⟩
   have fz:=fun j=>qaA (H:=H') (ids:=[]) (id:=a) (o := .cells (dyC (qX (Ql q s))++[.mp mid,Xj (Vn (Ql q s)),I ((Ql q s).at':Int)])) (by simp) (qj h2.obj) j
   have fz2 : ∀ j,qr (qH H' (zB [] ++ [(a,.cells (dyC (qX (Ql q s)) ++ [.mp mid,Xj (Vn (Ql q s)),I ((Ql q s).at' : Int)]))])) j = qr H' j := fun j => by
    rw [fz j]
    by_cases e:j=a
    · rw [if_pos e,e];exact h2.obj.symm
    · rw [if_neg e,if_neg (by simp)]
   refine ⟨⟨(fz2 a).trans h2.obj,?_⟩,Nat.le_trans h3 (Zz _ _),fun j hj q1 q2=>(fz2 j).trans (h4 j hj q1 q2)⟩
   obtain ⟨E,clk,m1,m2⟩:=h2.map
   exact ⟨E,clk,(fz2 mid).trans m1,m2⟩
 · have lid := qj h3
   have fz:=fun j=>qaA (H:=H') (ids:=[id]) (id:=a) (o := .cells (dyC (qX (Ql q s))++[.mp mid,Xj (Vn (Ql q s)),I ((Ql q s).at':Int)])) (by simpa using lid) (qj h2) j
   refine ⟨a,_,_,[id],h2,?_,by simpa using ⟨_,h3⟩,by simp;omega,e,rfl,h1,⟨(fz a).trans (if_pos rfl),E,clk,?_,h7,h8⟩,Nat.le_trans h9 (Zz _ _),fun j hj q1 q2=>?_⟩
   · refine FzL.app FzL.refl (.same (.refl _) (.fz (y := Xj (Vn (Ql q s))) (js := [id]) ?_ (fun j hj => hj) (.refl _) FzL.refl))
     exact qgt h3 JQ (Xa qkY _)
   · rw [fz mid,if_neg hne,if_neg (by simp;omega)];exact h6
   · rw [fz j,if_neg q1,if_neg (by simp; omega)]
     exact h10 j hj q1 q2
theorem qsf {q:Pl} {m:Nat} (hv:PlV m q) (hm:m<400) (hr:PlR q) {s:List UInt8} (hs:s.length≤1000000) {H:List HObj} {a mid:Nat} (hL:Lg H a mid q):zG Tryz.prog 116 [.ref a 0,S s] H (DoQ H a mid q s):=by
 have h1:=hL.obj
 obtain ⟨E,clk,h3,hE,hPw⟩:=hL.map
 have la:=qj h1
 have lm:=qj h3
 have hne:mid≠a:=fun e=>by subst e;rw [h1] at h3;cases h3
 have hat:=hv.at'
 have hkl:=hv.kept
 have hdl:=hv.len
 have hsl:=VW q
 refine qok la lm hne (walk Tryz.func116 qjN (by kernel_rfl) (by show 2≤_;decide) ?_)
 simp -implicitDefEqProofs (disch:=omega)[qnm,qb]
 refine qg (ys:=[S s]) (ids:=[]) rfl (Yo s hs) ?_
 have el:[I (zd s).kind,S (zd s).name,Wds (zd s).words,I (zd s).num]=lnC (zd s):=rfl
 simp -implicitDefEqProofs (disch:=omega)[qb,AV.scalar,lnC]
 simp only [el]
 have x0:=Ext.app H [HObj.cells (lnC (zd s))]
 have b0:qr (H++[HObj.cells (lnC (zd s))]) H.length=some (.cells (lnC (zd s))):=Qn
 have a0:=(x0.2 a la).trans h1
 have m0:=(x0.2 mid lm).trans h3
 have l0:(H++[HObj.cells (lnC (zd s))]).length=H.length+1:=by simp
 generalize H++[HObj.cells (lnC (zd s))]=H1 at *
 obtain ⟨b,hb⟩:∃ b,H.length=b:=⟨_,rfl⟩
 rw [hb] at b0 l0 ⊢
 by_cases c1:jc s=0
 case neg =>
  have c1':(jc s != 0)=true:=by rw [bne_iff_ne];exact c1
  have hst:Ql q s={ q with errs:=q.errs++[jc s] }:=if_pos c1
  simp -implicitDefEqProofs (disch:=omega)[qb,c1']
  refine .inl ⟨jc s,rfl,by rw [hst],?_,x0.1,fun j hj _ _=>x0.2 j hj⟩
  rw [hst]
  exact ⟨a0,E,clk,m0,hE,hPw⟩
 have c1':(jc s != 0)=false:=by rw [c1];rfl
 have hst1 : Ql q s = if (zd s).kind = 5 ∧ q.at' = 0 ∨ (zd s).kind = 6 ∧ q.at' = q.kept.length then { q with errs := q.errs ++ [5] } else if (zd s).kind = 5 then { q with at' := q.at' - 1,errs := q.errs ++ [0] }
  else if (zd s).kind=6 then { q with at':=q.at'+1,errs:=q.errs++[0] } else if (zi (qX q) (zd s)).2=0 then ⟨q.ds.take q.at'++[(zi (qX q) (zd s)).1],q.kept.take q.at'++[s],q.at'+1,q.errs++[0]⟩ else { q with errs:=q.errs++[(zi (qX q) (zd s)).2] }:=by
  unfold Ql;rw [if_neg (by simpa using c1)]
 have hlV:=WB c1
 simp -implicitDefEqProofs (disch:=omega)[qb,c1',b0,qf,lnC]
 by_cases k5:(zd s).kind=5
 case pos =>
  have k5':((zd s).kind==5)=true:=by rw [beq_iff_eq];exact k5
  simp -implicitDefEqProofs (disch:=omega)[qb,k5']
  refine qmR (d:=qX q) (st:=Vn q) (n:=q.at') (by omega) (by omega) a0 m0 hPw (fun h0=>?_) (fun hlt hpos H2 E2 clk2 q1 q2 q3 q4 q5 q6=>?_)
  · have hst : Ql q s = { q with errs := q.errs ++ [5] } := by rw [hst1,if_pos (.inl ⟨k5,h0⟩)]
    simp -implicitDefEqProofs (disch:=omega)[qb]
    refine .inl ⟨5,rfl,by rw [hst],?_,x0.1,fun j hj _ _=>x0.2 j hj⟩
    rw [hst]
    exact ⟨a0,E,clk,m0,hE,hPw⟩
  · have hst : Ql q s = { q with at' := q.at' - 1,errs := q.errs ++ [0] } := by rw [hst1,if_neg (by omega),if_pos k5]
    simp -implicitDefEqProofs (disch:=omega)[qb]
    rw [YE hlt] at q3 q6
    obtain ⟨⟨r1,r2⟩,r3⟩:=hr (q.at' - 1) (by omega) (by omega)
    have ek:q.kept.getD (q.at' - 1) []=q.kept[q.at' - 1]'(by omega):=qaf (by omega)
    rw [ek] at q6
    refine .inl ⟨0,rfl,by rw [hst],?_,by omega,fun j hj h1 h2=>(q2 j (by omega) h1 h2).trans (x0.2 j hj)⟩
    rw [hst]
    refine ⟨q3,E2,clk2,q4,?_,q5⟩
    have ed : qX q = q.ds[q.at' - 1]'(by omega) := by
     obtain ⟨k,hk⟩:∃ k,q.at'=k+1:=⟨q.at' - 1,by omega⟩
     unfold qX
     simp only [hk,Nat.add_sub_cancel]
     rw [List.getD_eq_getElem?_getD,List.getElem?_cons_succ,List.getElem?_eq_getElem (by omega)];rfl
    rw [ed] at hE
    exact qiF r3 hE q6
 have k5':((zd s).kind==5)=false:=by rw [beq_eq_false_iff_ne];exact k5
 by_cases k6:(zd s).kind=6
 case pos =>
  have k6':((zd s).kind==6)=true:=by rw [beq_iff_eq];exact k6
  simp -implicitDefEqProofs (disch:=omega)[qb,k5',k6']
  refine qks (d:=qX q) (st:=Vn q) (n:=q.at') (by omega) (by omega) ?_ a0 m0 hPw (fun h0=>?_) (fun hlt H2 E2 clk2 q1 q2 q3 q4 q5 q6=>?_)
  · intro t ht
    obtain ⟨i,hi,rfl⟩:=List.mem_iff_getElem.1 ht
    rw [YE hi]
    simp only
    cases i with
    | zero=>show dy0.rc.length≤_;simp [dy0]
    | succ j =>
      rw [List.getD_eq_getElem?_getD,List.getElem?_cons_succ,←List.getD_eq_getElem?_getD,qaf (show j<q.ds.length by omega)]
      have:=(hv.days j (by omega)).1.rl;omega
  · have hst : Ql q s = { q with errs := q.errs ++ [5] } := by rw [hst1,if_pos (.inr ⟨k6,by omega⟩)]
    simp -implicitDefEqProofs (disch:=omega)[qb]
    refine .inl ⟨5,rfl,by rw [hst],?_,x0.1,fun j hj _ _=>x0.2 j hj⟩
    rw [hst]
    exact ⟨a0,E,clk,m0,hE,hPw⟩
  · have hst : Ql q s = { q with at' := q.at' + 1,errs := q.errs ++ [0] } := by rw [hst1,if_neg (by omega),if_neg k5,if_pos k6]
    simp -implicitDefEqProofs (disch:=omega)[qb]
    rw [YE hlt] at q3 q6
    obtain ⟨⟨r1,r2⟩,r3⟩:=hr q.at' (by omega) (by omega)
    have ek:q.kept.getD q.at' []=q.kept[q.at']'(by omega):=qaf (by omega)
    rw [ek] at q6
    have ed:q.ds.getD q.at' dy0=q.ds[q.at']'(by omega):=qaf (by omega)
    refine .inl ⟨0,rfl,by rw [hst],?_,by omega,fun j hj h1 h2=>(q2 j (by omega) h1 h2).trans (x0.2 j hj)⟩
    rw [hst]
    have ed2:qX { q with at':=q.at'+1,errs:=q.errs++[0] }=q.ds.getD q.at' dy0:=by
     unfold qX
     simp only
     rw [List.getD_eq_getElem?_getD,List.getElem?_cons_succ,←List.getD_eq_getElem?_getD]
    refine ⟨by rw [ed2];exact q3,E2,clk2,q4,?_,q5⟩
    rw [ed2,ed]
    exact qgm r3 hE q6
 have k6':((zd s).kind==6)=false:=by rw [beq_eq_false_iff_ne];exact k6
 have hst2:Ql q s=if (zi (qX q) (zd s)).2=0 then ⟨q.ds.take q.at'++[(zi (qX q) (zd s)).1],q.kept.take q.at'++[s],q.at'+1,q.errs++[0]⟩ else { q with errs:=q.errs++[(zi (qX q) (zd s)).2] }:=by
  rw [hst1,if_neg (fun h=>by rcases h with ⟨h,_⟩ | ⟨h,_⟩;exact k5 h;exact k6 h),if_neg k5,if_neg k6]
 simp -implicitDefEqProofs (disch:=omega)[qb,k5',k6',a0,qf,dyC]
 have ed:[Bks (qX q).rc,I (qX q).bath,I (qX q).laid,Pts (qX q).pat,Shs (qX q).sh]=dyC (qX q):=rfl
 simp only [ed]
 have x2:=Ext.app H1 [HObj.cells (dyC (qX q))]
 have c2:qr (H1++[HObj.cells (dyC (qX q))]) H1.length=some (.cells (dyC (qX q))):=Qn
 have a2:=(x2.2 a (qj a0)).trans a0
 have m2:=(x2.2 mid (qj m0)).trans m0
 have b2:=(x2.2 b (qj b0)).trans b0
 have l2:(H1++[HObj.cells (dyC (qX q))]).length=H1.length+1:=by simp
 have x2':Ext H (H1++[HObj.cells (dyC (qX q))]):=x0.trans x2
 generalize H1++[HObj.cells (dyC (qX q))]=H2 at *
 rw [l0] at c2 l2 ⊢
 simp -implicitDefEqProofs (disch:=omega)[qb,b2,qf,lnC]
 simp only [el]
 have hD:=hv.day
 refine jI (fun x H3 hq=>?_) (qiH hD.1.w hD.1.rl hlV a2 m2 hE hPw)
 obtain ⟨rfl,q1,q2,q3,E3,clk3,q4,q5,q6⟩:=hq
 simp -implicitDefEqProofs (disch:=omega)[qb]
 have k4:(zd s).kind≤4:=by have:=hlV.kind;omega
 by_cases e0:(zi (qX q) (zd s)).2=0
 case neg =>
  have e0':((zi (qX q) (zd s)).2 != 0)=true:=by rw [bne_iff_ne];exact e0
  have hst:Ql q s={ q with errs:=q.errs++[(zi (qX q) (zd s)).2] }:=by rw [hst2,if_neg e0]
  simp -implicitDefEqProofs (disch:=omega)[qb,e0']
  rw [qmF e0] at q3 q5
  refine .inl ⟨_,rfl,by rw [hst],?_,by have:=x2'.1;omega,fun j hj h1 h2=>(q2 j (by have:=x2'.1;omega) h1 h2).trans (x2'.2 j hj)⟩
  rw [hst]
  exact ⟨q3,E3,clk3,q4,q5,q6⟩
 have e0':((zi (qX q) (zd s)).2 != 0)=false:=by rw [e0];rfl
 have hst:Ql q s=⟨q.ds.take q.at'++[(zi (qX q) (zd s)).1],q.kept.take q.at'++[s],q.at'+1,q.errs++[0]⟩:=by rw [hst2,if_pos e0]
 have hpush:=qk0 hv (s:=s) (d':=(zi (qX q) (zd s)).1) (e:=q.errs++[0])
 rw [←hst] at hpush
 have hday:qX (Ql q s)=(zi (qX q) (zd s)).1:=by
  rw [hst];unfold qX
  simp only
  rw [List.getD_eq_getElem?_getD,List.getElem?_cons_succ,List.getElem?_append_right (by rw [List.length_take];omega)]
  rw [show q.at' - (q.ds.take q.at').length=0 by rw [List.length_take];omega]
  rfl
 have hatn:(Ql q s).at'=q.at'+1:=by rw [hst]
 have herr:(Ql q s).errs=q.errs++[0]:=by rw [hst]
 rw [←hday] at q3 q5 hpush
 generalize qX (Ql q s)=y at *
 have b3:=(q2 b (by omega) (by omega) (by omega)).trans b2
 have c3:=(q2 (b+1) (by omega) (by omega) (by omega)).trans c2
 simp -implicitDefEqProofs (disch:=omega)[-qhS,qb,e0',q3,qf,dyC]
 rw [qkL qdB (by omega) (by omega)]
 have tl:((Vn q).take (q.at':Int).toNat).length=q.at':=by rw [List.length_take];omega
 rw [Int.toNat_natCast] at *
 generalize hsl2:(Vn q).take q.at'=st at *
 simp -implicitDefEqProofs (disch:=omega)[qb]
 refine qiM (ys:=[qlt _ st]) (ids:=[]) rfl (qdv _ st (by omega)) ?_
 simp -implicitDefEqProofs (disch:=omega)[qb,qf]
 have l3a:=qj q3
 have l3m:=qj q4
 have l3c:=qj c3
 have b4:qr (H3++[HObj.cells (fl stC st)]) b=some (.cells (lnC (zd s))):=(qk (by omega)).trans b3
 have c4:qr (H3++[HObj.cells (fl stC st)]) (b+1)=some (.cells (dyC (qX q))):=(qk (by omega)).trans c3
 have a4:qr (H3++[HObj.cells (fl stC st)]) a=some (.cells (dyC y++[.mp mid,Xj (Vn q),I (q.at':Int)])):=(qk (by omega)).trans q3
 have m4:qr (H3++[HObj.cells (fl stC st)]) mid=some (mpK Qb E3 clk3):=(qk (by omega)).trans q4
 have n4:qr (H3++[HObj.cells (fl stC st)]) H3.length=some (.cells (fl stC st)):=Qn
 have k4':∀ j,j<H.length→j≠a→j≠mid→qr (H3++[HObj.cells (fl stC st)]) j=qr H j:=fun j hj h1 h2=>(qk (by have:=x2'.1;omega)).trans ((q2 j (by have:=x2'.1;omega) h1 h2).trans (x2'.2 j hj))
 have l4:(H3++[HObj.cells (fl stC st)]).length=H3.length+1:=by simp
 generalize H3++[HObj.cells (fl stC st)]=H4 at *
 have ya1:¬ H3.length=a:=by omega
 have ya2:¬ H3.length=b:=by omega
 have ya3:¬ H3.length=b+1:=by omega
 have ya4:¬ H4.length=a:=by omega
 have ya5:¬ H4.length=b:=by omega
 have ya6:¬ H4.length=b+1:=by omega
 simp -implicitDefEqProofs (disch:=omega)[qb,b4,c4,a4,qf,dyC,lnC]
 refine zq (ys:=[.agg (stC (s,zd s,qX q,y))]) (ids:=[]) rfl rfl ?_
 have c34:(H3.length<H4.length)=True:=by simp only [eq_iff_iff,iff_true];omega
 have tk:List.take (st.length*15) (fl stC st)=fl stC st:=List.take_of_length_le (by rw [JQ];omega)
 simp -implicitDefEqProofs (disch:=omega)[qb,zP,stC,lnC,dyC,n4,JQ,c34,tk]
 have es:[S s,I (zd s).kind,S (zd s).name,Wds (zd s).words,I (zd s).num,Bks (qX q).rc,I (qX q).bath,I (qX q).laid,Pts (qX q).pat,Shs (qX q).sh,Bks y.rc,I y.bath,I y.laid,Pts y.pat,Shs y.sh]=stC (s,zd s,qX q,y):=rfl
 simp only [es]
 have ecl:fl stC st++stC (s,zd s,qX q,y)=fl stC (st++[(s,zd s,qX q,y)]):=by rw [jr,Qi,YY,List.append_nil]
 simp only [ecl,←hpush]
 have old:∀ j,j<H4.length→j≠H3.length→qr (H4.set H3.length .gone++[HObj.cells (fl stC (Vn (Ql q s)))]) j=qr H4 j:=fun j hj h=>(qk (by rw [List.length_set];exact hj)).trans (qh (by omega))
 have a5:=(old a (by omega) (by omega)).trans a4
 have m5:=(old mid (by omega) (by omega)).trans m4
 have n5:qr (H4.set H3.length .gone++[HObj.cells (fl stC (Vn (Ql q s)))]) H4.length=some (.cells (fl stC (Vn (Ql q s)))):=by
  have:=Qn (H:=H4.set H3.length .gone) (o:=HObj.cells (fl stC (Vn (Ql q s))))
  rwa [List.length_set] at this
 have l5:(H4.set H3.length .gone++[HObj.cells (fl stC (Vn (Ql q s)))]).length=H4.length+1:=by simp
 have k5'':∀ j,j<H.length→j≠a→j≠mid→qr (H4.set H3.length .gone++[HObj.cells (fl stC (Vn (Ql q s)))]) j=qr H j:=fun j hj h1 h2=>(old j (by have:=x2'.1;omega) (by have:=x2'.1;omega)).trans (k4' j hj h1 h2)
 generalize H4.set H3.length HObj.gone++[HObj.cells (fl stC (Vn (Ql q s)))]=H5 at *
 have l5a:=qj a5
 have ss:∀ o,qr (H5.set a o) a=some o:=fun o=>qi l5a
 simp -implicitDefEqProofs (disch:=omega)[qb,a5,qt,qf,dyC,l5a,ss,List.set_set,zW,zJ,zE,ya1,ya2,ya3,ya4,ya5,ya6]
 have n6:∀ j,j≠a→qr (H5.set a (.cells [Bks y.rc,I y.bath,I y.laid,Pts y.pat,Shs y.sh,.mp mid,.ms H4.length 0 (st.length+1) 15,I ((q.at':Int)+1)])) j=qr H5 j:=fun j hj=>qh (by omega)
 refine ⟨⟨by omega,by omega⟩,.inr ⟨herr,H4.length,st.length+1,⟨⟨rfl,rfl⟩,by rw [hatn];omega⟩,by rw [hpush];simp,(n6 _ (by omega)).trans n5,by omega,⟨E3,⟨clk3,(n6 mid hne).trans m5⟩,q5,q6⟩,by omega,fun j hj h1 h2=>(n6 j h1).trans (k5'' j (by omega) h1 h2)⟩⟩
structure ArR (l:List Bk) (i:Nat):Prop where
 bk:∀ j (h:j<l.length),j<i→jv (l.take j) l[j]=true
 ln:∀ x∈qu (l.take i),x≤QM
theorem ArR.recV {l:List Bk} {i:Nat} (h:ArR l i) (hi:i≤l.length) (hl:l.length≤1000000):RecV (l.take i):=by
 refine ⟨fun j hj p hp=>?_,by rw [List.length_take];omega⟩
 have hj':j<l.length:=by rw [List.length_take] at hj;omega
 have hji:j<i:=by rw [List.length_take] at hj;omega
 rw [List.getElem_take] at hp
 have:=(Q6 (h.bk j hj' hji)).2.2.2.2 p hp
 rwa [List.length_take,Nat.min_eq_left (by omega)] at this
theorem qkC {l:List Bk} {i:Nat} (hi:i<l.length) (h:jv (l.take i) l[i]=false∨∃ x∈qu l,¬ x≤QM):jA l=false:=by
 cases hr:jA l with
 | false=>rfl
 | true =>
   unfold jA at hr
   simp only [Bool.and_eq_true,decide_eq_true_eq,List.all_eq_true] at hr
   rcases h with h | ⟨x,hx,h⟩
   · have := Zp.1 hr.1.2 i hi
     rw [h] at this;cases this
   · exact absurd (hr.2 x hx) h
theorem qm0 {l:List Bk} (hl:l.length≤32) (h:ArR l l.length):jA l=true:=by
 unfold jA
 simp only [Bool.and_eq_true,decide_eq_true_eq,List.all_eq_true]
 refine ⟨⟨hl,Zp.2 fun i hi=>h.bk i hi hi⟩,fun x hx=>h.ln x ?_⟩
 rw [List.take_length];exact hx
theorem qak (f:Bool) (l:List Bk) (hl:l.length≤1000000) (hb:∀ b∈l, b.2.length≤1000000∧b.1.length≤1000000):qC Tryz.prog 118 [qlm f l] (B (jA l)):=by
 refine qT (walk Tryz.func118 Wp (by kernel_rfl) (by show 1≤_;decide) ?_)
 simp -implicitDefEqProofs (disch:=omega)[YU,qb]
 by_cases h32:l.length≤32
 case neg =>
  have h':(32<(l.length:Int))=True:=by simp only [eq_iff_iff,iff_true];omega
  have:jA l=false:=by unfold jA;rw [decide_eq_false h32];rfl
  rw [this]
  simp -implicitDefEqProofs (disch:=omega)[qb,h']
 have h':(32<(l.length:Int))=False:=by simp only [eq_iff_iff,iff_false];omega
 simp -implicitDefEqProofs (disch:=omega)[qb,h']
 refine ⟨_,_,⟨rfl,rfl⟩,?_⟩
 simp -implicitDefEqProofs (disch:=omega)[qb]
 refine qO (fun q : Nat × AV × List (K3 (List UInt8)) × Nat × List HObj => ⟨[(3,.mp 0),(4,q.2.1),(15,qlm f l),(16,I (l.length : Int)),(17,I (q.1 : Int))],q.2.2.2.2⟩)
  (fun q=>q.1≤l.length∧qr q.2.2.2.2 0=some (mpK Qb q.2.2.1 q.2.2.2.1)∧AccG q.2.2.2.2 q.2.1 1 q.1 ((qu (l.take q.1)).map fun n=>I n)∧(∀ j,rid q.2.1=some j→1≤j)∧ArR l q.1∧∀ k,(∀ e∈q.2.2.1,e.1≠k)↔∀ x∈l.take q.1,x.1≠k)
  (fun q=>l.length - q.1) (0,.sl true 0 [],[],0,[.mp [] 0]) ⟨Nat.zero_le _,rfl,.nil,by simp [rid],⟨fun j _ h=>by omega,fun x h=>by simp [qu] at h⟩,fun k=>by simp⟩ rfl ?_
 rintro ⟨i,x,E,clk,H⟩ ⟨c1,c2,c3,c4,c5,c6⟩
 simp only at c1 c2 c3 c4 c5 c6 ⊢
 refine qW fun K0 hK0=>?_
 simp -implicitDefEqProofs (disch:=omega)[qb]
 refine qP (fun hc=>?_) (fun hc=>?_)
 · have hi : i < l.length := by simpa using hc
   have ix:((i:Int)+1)=((i+1:Nat):Int):=by omega
   simp -implicitDefEqProofs (disch:=omega)[qb,hi,bkC]
   have hbi:=hb _ (List.getElem_mem hi)
   have hno:=fun h=>qkC hi (.inl h)
   have hno2:=fun h=>qkC hi (.inr h)
   have st:=QL hi
   have bkd:jv (l.take i) l[i]=(QW l[i].1&&(decide (1≤l[i].2.length)&&decide (l[i].2.length≤8)) && !((l.take i).any fun x=>decide (x.1=l[i].1))&&l[i].2.all (qI (l.take i).length)):=rfl
   have hlt:(l.take i).length=i:=by rw [List.length_take];omega
   rw [hlt] at bkd
   generalize hB:l[i]=b at *
   obtain ⟨nm,ps⟩:=b
   simp only at hbi bkd st
   have l0:=qj c2
   have o1:qr (H++[HObj.cells [S nm,Pts ps]]) H.length=some (.cells [S nm,Pts ps]):=Qn
   have m1:qr (H++[HObj.cells [S nm,Pts ps]]) 0=some (mpK Qb E clk):=(qk l0).trans c2
   have a1:=c3.mono (H:=H++[HObj.cells [S nm,Pts ps]]) fun j hj=>qk (c3.lt hj)
   have n1:(H++[HObj.cells [S nm,Pts ps]]).length=H.length+1:=by simp
   have x1:∀ j,rid x=some j→j<H.length:=fun j hj=>c3.lt hj
   generalize H++[HObj.cells [S nm,Pts ps]]=H1 at *
   generalize H.length=L at *
   simp -implicitDefEqProofs (disch:=omega)[qb,o1,qf]
   refine qr7 qoV (x:=0) (D:=nm) rfl rfl m1 ?_
   have hany:JT E nm=none↔∀ x∈l.take i,x.1≠nm:=⟨fun h=>(c6 nm).1 (QG h),fun h=>jM ((c6 nm).2 h)⟩
   cases hg:JT E nm with
   | some v =>
     have hf:jv (l.take i) (nm, ps)=false:=by
      rw [bkd]
      have : ((l.take i).any fun x => decide (x.1 = nm)) = true := by
       cases ha:(l.take i).any fun x=>decide (x.1=nm) with
       | true=>rfl
       | false =>
         exfalso
         have := hany.2 fun x hx e => by
          rw [List.any_eq_false] at ha
          exact ha x hx (by simpa using e)
         rw [hg] at this;cases this
      rw [this];simp
     rw [hK0,hno hf]
     simp -implicitDefEqProofs (disch:=omega)[qb]
     try exact ⟨[],rfl⟩
   | none =>
   have hny:=hany.1 hg
   have han : ((l.take i).any fun x => decide (x.1 = nm)) = false := by
    rw [List.any_eq_false];intro x hx;simpa using hny x hx
   rw [han] at bkd
   simp -implicitDefEqProofs (disch:=omega)[qb,o1,qf]
   refine qg (ys:=[S nm]) (ids:=[]) rfl (Zk nm hbi.2) ?_
   cases hnb:QW nm with
   | false =>
     have hf:jv (l.take i) (nm,ps)=false:=by rw [bkd,hnb];simp
     rw [hK0,hno hf]
     simp -implicitDefEqProofs (disch:=omega)[qb,AV.scalar]
     try exact ⟨[],rfl⟩
   | true =>
   rw [hnb] at bkd
   simp -implicitDefEqProofs (disch:=omega)[qb,AV.scalar,o1,qf]
   refine zq (ys:=[I (ps.length:Int)]) (ids:=[]) rfl rfl ?_
   simp -implicitDefEqProofs (disch:=omega)[qb,zP]
   refine qg rfl (Qj 1 8 true (ps.length:Int)) ?_
   have hwb:Ze 1 8 (ps.length:Int)=(decide (1≤ps.length)&&decide (ps.length≤8)):=by
    unfold Ze
    have e1:((1:Int)≤ps.length)=(1≤ps.length):=by simp only [eq_iff_iff];omega
    have e2:((ps.length:Int)≤8)=(ps.length≤8):=by simp only [eq_iff_iff];omega
    simp only [e1,e2]
   rw [←hwb] at bkd
   cases hw:Ze 1 8 (ps.length:Int) with
   | false =>
     have hf:jv (l.take i) (nm,ps)=false:=by rw [bkd,hw];simp
     rw [hK0,hno hf]
     simp -implicitDefEqProofs (disch:=omega)[qb,AV.scalar]
     try exact ⟨[],rfl⟩
   | true =>
   rw [hw] at bkd
   simp -implicitDefEqProofs (disch:=omega)[qb,AV.scalar,o1,qf]
   refine qrY qoV (x:=0) (D:=nm) (v:=(i:Int)) rfl rfl rfl m1 (fun A q B h1 h2 _=>absurd h2 (QG hg q (by rw [h1];simp))) (fun hn=>?_)
   simp -implicitDefEqProofs (disch:=omega)[qb]
   have p1:0<H1.length:=by omega
   rw [if_pos p1]
   have m2:qr (H1.set 0 (mpK Qb (E++[(nm,clk,(i:Int))]) (clk+1))) 0=some (mpK Qb (E++[(nm,clk,(i:Int))]) (clk+1)):=qi p1
   have o2:qr (H1.set 0 (mpK Qb (E++[(nm,clk,(i:Int))]) (clk+1))) L=some (.cells [S nm,Pts ps]):=(qh (by omega)).trans o1
   have a2:AccG (H1.set 0 (mpK Qb (E++[(nm,clk,(i:Int))]) (clk+1))) x 1 i ((qu (l.take i)).map fun n=>I n):=a1.mono fun j hj=>qh (by have:=c4 j hj;omega)
   have n2:(H1.set 0 (mpK Qb (E++[(nm,clk,(i:Int))]) (clk+1))).length=L+1:=by rw [List.length_set];omega
   generalize H1.set 0 (mpK Qb (E++[(nm,clk,(i:Int))]) (clk+1))=H2 at *
   simp -implicitDefEqProofs (disch:=omega)[qb,o2,qf]
   refine qO (fun q : Nat × List HObj => ⟨[(3,.mp 0),(4,x),(5,I (i : Int)),(6,.ref L 0),(15,qlm f l),(16,I (l.length : Int)),(17,I (i : Int)),(49,Pts ps),(50,I (ps.length : Int)),(51,I (q.1 : Int))],q.2⟩)
    (fun q=>q.1≤ps.length∧(∀ j,j<H2.length→qr q.2 j=qr H2 j)∧H2.length≤q.2.length∧(ps.take q.1).all (qI i)=true) (fun q=>ps.length - q.1) (0,H2) ⟨Nat.zero_le _,fun _ _=>rfl,Nat.le_refl _,rfl⟩ rfl ?_
   rintro ⟨k,H3⟩ ⟨d1,d2,d3,d4⟩
   simp only at d1 d2 d3 d4 ⊢
   refine qW fun K1 hK1=>?_
   simp -implicitDefEqProofs (disch:=omega)[qb]
   refine qP (fun hc2=>?_) (fun hc2=>?_)
   · have hk : k < ps.length := by simpa using hc2
     have kx:((k:Int)+1)=((k+1:Nat):Int):=by omega
     simp -implicitDefEqProofs (disch:=omega)[qb,hk,ptC]
     refine qg (ys:=[I (i:Int),.agg (ptC ps[k])]) (ids:=[]) rfl (Vd i (by omega) _) ?_
     cases hp:qI i ps[k] with
     | false =>
       have hf:jv (l.take i) (nm,ps)=false:=by
        rw [bkd]
        have:ps.all (qI i)=false:=by rw [List.all_eq_false];exact ⟨_,List.getElem_mem hk,by rw [hp];decide⟩
        rw [this];rfl
       rw [hK1,hK0,hno hf]
       simp -implicitDefEqProofs (disch:=omega)[qb]
       try exact ⟨[],rfl⟩
     | true =>
       simp -implicitDefEqProofs (disch:=omega)[qb,AV.scalar]
       rw [hK1]
       refine qz (k+1,H3++[.cells [U ps[k].1,I ps[k].2.1,I ps[k].2.2]]) ⟨by simp only;omega,fun j hj=>(qk (by omega)).trans (d2 j hj),by simp only [List.length_append];omega,?_⟩ (by simp only;omega) (by simp only [kx])
       rw [List.take_succ_eq_append_getElem hk,List.all_append,d4]
       simp [hp]
   · have hk : k = ps.length := by simp at hc2; omega
     subst hk
     subst hK1
     rw [List.take_length] at d4
     rw [d4] at bkd
     have o3:=(d2 L (by omega)).trans o2
     have m3:=(d2 0 (by omega)).trans m2
     have a3:=a2.mono (H:=H3) fun j hj=>d2 j (a2.lt hj)
     have hRT:=c5.recV c1 hl
     have hLO:=jO hRT
     have hll:(qu (l.take i)).length=i:=by rw [zy];exact hlt
     have hpv:∀ p∈ps,qI (qu (l.take i)).length p=true:=by rw [hll];exact List.all_eq_true.1 d4
     have bd:=Vo hLO hpv
     have hfar:JS=1125899906842624:=rfl
     have hA:ArR l i:=c5
     have hmem:QZ (qu (l.take i)) ps∈qu l:=by
      obtain ⟨r,hr⟩:=jz (l:=l) (i+1)
      rw [st] at hr
      rw [hr];simp
     simp -implicitDefEqProofs (disch:=omega)[qb,o3,qf]
     obtain ⟨ids,hpu,_⟩:=a3.pur
     have tg:=fun f=>QN f false _ ps hLO hpv hbi.1
     have hLs:AV.sl (decide (i=0)) i ((qu (l.take i)).map fun n=>I n)=Ls (decide (i=0)) (qu (l.take i)):=by show _=AV.sl _ (qu (l.take i)).length _;rw [hll]
     rw [hLs] at hpu
     generalize hT:QZ (qu (l.take i)) ps=T at *
     generalize hLL:qu (l.take i)=LL at *
     have hpa:qE (hpf H3) [x,Pts ps]=some ([Ls (decide (i=0)) LL,Pts ps],ids++[]):=by
      simp only [qE,hpu];rfl
     refine qg hpa (tg _) ?_
     simp -implicitDefEqProofs (disch:=omega)[qb,AV.scalar]
     refine zq (ys:=[I T]) (ids:=[]) rfl rfl ?_
     simp -implicitDefEqProofs (disch:=omega)[qb,zP]
     refine Q5 (ys:=[I T]) a3 (by omega) (by decide) rfl rfl fun ws w1 w2 w3=>?_
     have m4:=(w1 0 (by omega) (fun h=>by have:=c4 0 h;omega)).trans m3
     simp -implicitDefEqProofs (disch:=omega)[qb]
     have wl : qr (qH H3 ws) H3.length = some (.cells (LL.map (fun n => I n) ++ [I T])) := by
      rcases w3 with ⟨h,_⟩ | ⟨id,h,_,h2,_⟩
      · cases h
      · injection h with h;rw [h];exact h2
     have wn : YO (LL.map (fun n => I n) ++ [I T]) i = some (I T) := by
      rw [Jl,List.getElem?_append_right (by rw [List.length_map,hll];exact Nat.le_refl _)]
      simp [hll]
     refine ⟨by omega,?_⟩
     rw [wl,qf]
     simp -implicitDefEqProofs (disch:=omega)[qb,wn]
     generalize qH H3 ws=H4 at *
     by_cases hm:T≤QM
     case neg =>
      have hm':(1099511627776<T)=True:=by
       have:QM=1099511627776:=rfl
       simp only [eq_iff_iff,iff_true];omega
      rw [hK0,hno2 ⟨T,hmem,hm⟩]
      simp -implicitDefEqProofs (disch:=omega)[qb,hm']
      try exact ⟨[],rfl⟩
     case pos =>
      have hm':(1099511627776<T)=False:=by
       have:QM=1099511627776:=rfl
       simp only [eq_iff_iff,iff_false];omega
      simp -implicitDefEqProofs (disch:=omega)[qb,hm']
      rw [hK0]
      have tk:l.take (i+1)=l.take i++[(nm,ps)]:=by rw [List.take_succ_eq_append_getElem hi,hB]
      refine qz (i+1,.ms H3.length 0 (i+1) 1,E++[(nm,clk,(i:Int))],clk+1,H4) ⟨by simp only;omega,m4,?_,fun j hj=>?_,⟨fun j h1 h2=>?_,fun x hx=>?_⟩,fun k=>?_⟩ (by simp only;omega) (by simp only [ix])
      · rw [st,List.map_append];exact w3
      · simp only [rid] at hj;injection hj;omega
      · by_cases hj : j < i
        · exact hA.bk j h1 hj
        · have : j = i := by omega
          subst this
          rw [hB,bkd];rfl
      · rw [st,List.mem_append] at hx
        rcases hx with hx | hx
        · exact hA.ln x (by rw [hLL];exact hx)
        · simp at hx;rw [hx];exact hm
      · rw [tk]
        constructor
        · intro h x hx
          rw [List.mem_append] at hx
          rcases hx with hx | hx
          · exact (c6 k).1 (fun e he=>h e (by simp [he])) x hx
          · simp at hx;subst hx;exact h (nm,clk,(i:Int)) (by simp)
        · intro h e he
          rw [List.mem_append] at he
          rcases he with he | he
          · exact (c6 k).2 (fun x hx=>h x (by simp [hx])) e he
          · simp at he;subst he;exact h (nm,ps) (by simp)
 · have hi : i = l.length := by simp at hc; omega
   subst hi
   subst hK0
   rw [qm0 h32 c5]
   simp -implicitDefEqProofs (disch:=omega)[qb]
   try exact ⟨[],rfl⟩
def qmW (d:Dy):Bool:=jA d.rc&&(Ze 0 1000 d.bath&&(Ze 0 8 d.laid&&((!(decide (d.bath=0)&&decide (0<d.pat.length)))&&decide (d.sh.length≤400))))
theorem qjy (d:Dy):Wg d=(qmW d&&(Yx (qu d.rc) d.pat&&(jm (qu d.rc) d.bath d.sh&&decide (d.laid=j6 d.sh d.bath)))):=by
 have e:(!decide (d.bath=0) || decide (d.pat.length=0)) = !(decide (d.bath=0)&&decide (0<d.pat.length)):=by
  by_cases h1:d.bath=0
  · by_cases h2 : d.pat.length = 0
    · simp [h1,h2]
    · have : 0 < d.pat.length := by omega
      simp [h1,h2,this]
  · simp [h1]
 unfold Wg qmW Ze
 rw [e]
 generalize jA d.rc=a
 generalize decide (0≤d.bath)=b
 generalize decide (d.bath≤1000)=c
 generalize decide (0≤d.laid)=e1
 generalize decide (d.laid≤8)=f
 generalize (!(decide (d.bath=0)&&decide (0<d.pat.length)))=g
 generalize decide (d.sh.length≤400)=h
 generalize Yx (qu d.rc) d.pat=i
 generalize jm (qu d.rc) d.bath d.sh=j
 generalize decide (d.laid=j6 d.sh d.bath)=k
 cases a <;> cases b <;> cases c <;> cases e1 <;> cases f <;> cases g <;> cases h <;> cases i <;> cases j <;> cases k <;> rfl
theorem qkK {long:List Int} {B:Int} {l:List Sht} {i:Nat} (hi:i<l.length) (h:zf long B (l.take i) l[i]=false):jm long B l=false:=by
 cases hs:jm long B l with
 | false=>rfl
 | true =>
   have:=ZV.1 hs i hi
   rw [h] at this;cases this
def Y2:AC:=match Z4 with
 | .seq _ (.seq _ t)=>t
 | x=>x
theorem qbX (d : Dy) (hd : DyI d) (hR : jA d.rc = true) (hP : qmW d = true) (fr : List (Nat × AV)) :
 AWP Tryz.prog (E1 Tryz.prog) Y2 ⟨(1,.ref 0 0)::fr,[.cells (dyC d)]⟩ (qfB [2] (Out (B (Wg d)))):=by
 have hrb:VC d.rc=true:=by
  unfold jA at hR
  simp only [Bool.and_eq_true,decide_eq_true_eq] at hR
  exact hR.1.2
 have hRV:=XM hrb (by have:=hd.rl;omega)
 have hLO:=jO hRV
 simp -implicitDefEqProofs (disch:=omega)[Y2,Z4,qb,dyC]
 refine qg (ys:=[Bks d.rc]) (ids:=[]) rfl (Z9 false d.rc hRV (fun b hb=>by have:=(hd.rc b hb).1.2;omega)) ?_
 simp -implicitDefEqProofs (disch:=omega)[qb]
 refine qg (ys:=[Ls false (qu d.rc),Pts d.pat]) (ids:=[]) rfl (jN false false _ d.pat hLO) ?_
 have hday:=qjy d
 rw [hP] at hday
 simp only [Bool.true_and] at hday
 cases hpat:Yx (qu d.rc) d.pat with
 | false =>
   have:Wg d=false:=by rw [hday,hpat];rfl
   rw [this]
   simp -implicitDefEqProofs (disch:=omega)[qb,AV.scalar]
   try exact ⟨[],rfl⟩
 | true =>
 rw [hpat] at hday
 simp only [Bool.true_and] at hday
 simp -implicitDefEqProofs (disch:=omega)[qb,AV.scalar]
 refine ⟨_,_,⟨rfl,rfl⟩,?_⟩
 simp -implicitDefEqProofs (disch:=omega)[qb]
 refine qO (fun q : Nat × List (K3 Int) × Nat × List HObj => ⟨[(1,.ref 0 0),(3,Ls false (qu d.rc)),(4,.mp 1),(5,I (QH (d.sh.take q.1))),(6,I (j6 (d.sh.take q.1) (QH (d.sh.take q.1)))),(56,Shs d.sh),(57,I (d.sh.length : Int)),(58,I (q.1 : Int))],q.2.2.2⟩)
  (fun q=>q.1≤d.sh.length∧qr q.2.2.2 0=some (.cells (dyC d))∧qr q.2.2.2 1=some (mpK qii q.2.1 q.2.2.1)∧(∀ j (h:j<d.sh.length),j<q.1→zf (qu d.rc) d.bath (d.sh.take j) d.sh[j]=true)∧∀ k,(∀ e∈q.2.1,e.1≠k)↔∀ x∈d.sh.take q.1,x.num≠k)
  (fun q=>d.sh.length - q.1) (0,[],0,[.cells (dyC d),.mp [] 0]) ⟨Nat.zero_le _,rfl,rfl,fun j _ h=>by omega,fun k=>by simp⟩ rfl ?_
 rintro ⟨i,E,clk,H⟩ ⟨c1,c2,c3,c5,c6⟩
 simp only at c1 c2 c3 c5 c6 ⊢
 refine qW fun K0 hK0=>?_
 have hle:=quB i c1 c5
 have hsl:=hd.sl
 have hcr:=qwn (d.sh.take i) (QH (d.sh.take i))
 have hct:(d.sh.take i).length≤100000:=by rw [List.length_take];omega
 generalize hlb:QH (d.sh.take i)=lb at *
 generalize hcb:j6 (d.sh.take i) lb=cb at *
 simp -implicitDefEqProofs (disch:=omega)[qb]
 refine qP (fun hc=>?_) (fun hc=>?_)
 · have hi : i < d.sh.length := by simpa using hc
   have ix:((i:Int)+1)=((i+1:Nat):Int):=by omega
   simp -implicitDefEqProofs (disch:=omega)[qb,hi,shC]
   have hno:=fun h=>qkK (long:=qu d.rc) (B:=d.bath) hi h
   have hno:zf (qu d.rc) d.bath (d.sh.take i) d.sh[i]=false→Wg d=false:=fun h=>by rw [hday,hno h];rfl
   have hcode:=qiV (long:=qu d.rc) (B:=d.bath) (s:=d.sh[i]) (by rw [hlb];exact hle)
   have hsI:=hd.sh _ (List.getElem_mem hi)
   rw [←hlb] at hle
   generalize hB:d.sh[i]=s at *
   obtain ⟨sn,sb,sa,sp⟩:=s
   simp only at hcode hsI
   have l0:=qj c2
   have l1:=qj c3
   have o1:qr (H++[HObj.cells [I sn,I sb,I sa,Pts sp]]) H.length=some (.cells [I sn,I sb,I sa,Pts sp]):=Qn
   have z1:qr (H++[HObj.cells [I sn,I sb,I sa,Pts sp]]) 0=some (.cells (dyC d)):=(qk l0).trans c2
   have m1:qr (H++[HObj.cells [I sn,I sb,I sa,Pts sp]]) 1=some (mpK qii E clk):=(qk l1).trans c3
   have n1:(H++[HObj.cells [I sn,I sb,I sa,Pts sp]]).length=H.length+1:=by simp
   generalize H++[HObj.cells [I sn,I sb,I sa,Pts sp]]=H1 at *
   generalize H.length=L at *
   simp -implicitDefEqProofs (disch:=omega)[qb,o1,qf]
   by_cases hgt:QH (d.sh.take i)<sb
   case pos =>
    have eB:XL (d.sh.take i) sb=sb:=by unfold XL;rw [if_pos hgt]
    have eL:qc4 (d.sh.take i) sb=0:=by unfold qc4;rw [if_pos hgt]
    rw [eB,eL] at hcode
    have hgt':(lb<sb)=True:=by simp only [eq_iff_iff,iff_true];rw [←hlb];exact hgt
    simp -implicitDefEqProofs (disch:=omega)[qb,hgt',o1,qf]
    refine qr7 qto (x:=1) (D:=sn) rfl rfl m1 ?_
    cases hg:JT E sn with
    | some v =>
      have hf:zf (qu d.rc) d.bath (d.sh.take i) ⟨sn,sb,sa,sp⟩=false:=by
       cases h:zf (qu d.rc) d.bath (d.sh.take i) ⟨sn,sb,sa,sp⟩ with
       | false=>rfl
       | true =>
         have:=jM ((c6 sn).2 (hcode.1 h).1)
         rw [hg] at this;cases this
      rw [hK0,hno hf]
      simp -implicitDefEqProofs (disch:=omega)[qb]
      try exact ⟨[],rfl⟩
    | none =>
    have hnd:=(c6 sn).1 (QG hg)
    simp -implicitDefEqProofs (disch:=omega)[qb,o1,qf]
    refine zq (ys:=[I sn]) (ids:=[]) rfl rfl ?_
    simp -implicitDefEqProofs (disch:=omega)[qb,zP]
    refine qg rfl (Qj 1 1099511627776 true sn) ?_
    by_cases hw:Ze 1 1099511627776 sn=true
    case neg =>
     have hw':Ze 1 1099511627776 sn=false:=by simpa using hw
     have hf:zf (qu d.rc) d.bath (d.sh.take i) ⟨sn,sb,sa,sp⟩=false:=by
      cases h:zf (qu d.rc) d.bath (d.sh.take i) ⟨sn,sb,sa,sp⟩ with
      | false=>rfl
      | true =>
        have:=(hcode.1 h).2.1
        unfold Ze at hw'
        rw [decide_eq_true this.1,decide_eq_true this.2] at hw';cases hw'
     rw [hw',hK0,hno hf]
     simp -implicitDefEqProofs (disch:=omega)[qb,AV.scalar]
     try exact ⟨[],rfl⟩
    have hwr:1≤sn∧sn≤QM:=by unfold Ze at hw;simpa using hw
    rw [hw]
    simp -implicitDefEqProofs (disch:=omega)[qb,AV.scalar,o1,qf]
    by_cases q4:sb≤d.bath
    case neg =>
     have hf:zf (qu d.rc) d.bath (d.sh.take i) ⟨sn,sb,sa,sp⟩=false:=by
      cases h:zf (qu d.rc) d.bath (d.sh.take i) ⟨sn,sb,sa,sp⟩ with
      | false=>rfl
      | true=>exact absurd ((hcode.1 h).2.2.2.1) q4
     have q4f:(d.bath<sb)=True:=by simp only [eq_iff_iff,iff_true];omega
     rw [hK0,hno hf]
     simp -implicitDefEqProofs (disch:=omega)[qb,o1,z1,dyC,qf,q4f]
     try exact ⟨[],rfl⟩
    have q4b:(d.bath<sb)=False:=by simp only [eq_iff_iff,iff_false];omega
    by_cases q5:sa=0
    case neg =>
     have hf:zf (qu d.rc) d.bath (d.sh.take i) ⟨sn,sb,sa,sp⟩=false:=by
      cases h:zf (qu d.rc) d.bath (d.sh.take i) ⟨sn,sb,sa,sp⟩ with
      | false=>rfl
      | true=>exact absurd ((hcode.1 h).2.2.2.2.1) q5
     have q5f:(sa != 0)=true:=by rw [bne_iff_ne];exact q5
     rw [hK0,hno hf]
     simp -implicitDefEqProofs (disch:=omega)[qb,o1,z1,dyC,qf,q4b,q5f]
     try exact ⟨[],rfl⟩
    have q5b:(sa != 0)=false:=by rw [q5];simp
    simp -implicitDefEqProofs (disch:=omega)[qb,o1,z1,dyC,qf,q4b,q5b]
    refine qg (ys:=[Ls false (qu d.rc),Pts sp]) (ids:=[]) rfl (jN false false _ sp hLO) ?_
    cases hpb:Yx (qu d.rc) sp with
    | false =>
      have hf:zf (qu d.rc) d.bath (d.sh.take i) ⟨sn,sb,sa,sp⟩=false:=by
       cases h:zf (qu d.rc) d.bath (d.sh.take i) ⟨sn,sb,sa,sp⟩ with
       | false=>rfl
       | true=>have:=(hcode.1 h).2.2.2.2.2.2;rw [hpb] at this;cases this
      rw [hK0,hno hf]
      simp -implicitDefEqProofs (disch:=omega)[qb,AV.scalar]
      try exact ⟨[],rfl⟩
    | true =>
    simp -implicitDefEqProofs (disch:=omega)[qb,AV.scalar,o1,qf]
    refine qrY qto (x:=1) (D:=sn) (v:=(i:Int)) rfl rfl rfl m1 (fun A q B h1 h2 _=>absurd h2 (QG hg q (by rw [h1];simp))) (fun hn=>?_)
    have p1:1<H1.length:=by omega
    simp -implicitDefEqProofs (disch:=omega)[qb]
    have hv:zf (qu d.rc) d.bath (d.sh.take i) ⟨sn,sb,sa,sp⟩=true:=hcode.2 ⟨hnd,hwr,rfl,q4,q5,by decide,hpb⟩
    have hnx:=qce (pre:=d.sh.take i) (s:=⟨sn,sb,sa,sp⟩) (by rw [eB]) hle
    simp only at hnx
    rw [eB,eL] at hnx
    have tk:d.sh.take (i+1)=d.sh.take i++[⟨sn,sb,sa,sp⟩]:=by rw [List.take_succ_eq_append_getElem hi,hB]
    try rw [if_pos p1]
    rw [hK0]
    refine qz (i+1,E++[(sn,clk,(i:Int))],clk+1,H1.set 1 (mpK qii (E++[(sn,clk,(i:Int))]) (clk+1))) ⟨by simp only;omega,(qh (by decide)).trans z1,qi p1,fun j h1 h2=>?_,fun k=>?_⟩ (by simp only;omega) ?_
    · by_cases hj : j < i
      · exact c5 j h1 hj
      · have : j = i := by omega
        subst this
        rw [hB];exact hv
    · rw [tk]
      constructor
      · intro h x hx
        rw [List.mem_append] at hx
        rcases hx with hx | hx
        · exact (c6 k).1 (fun e he=>h e (by simp [he])) x hx
        · simp at hx;subst hx;exact h (sn,clk,(i:Int)) (by simp)
      · intro h e he
        rw [List.mem_append] at he
        rcases he with he | he
        · exact (c6 k).2 (fun x hx=>h x (by simp [hx])) e he
        · simp at he;subst he;exact h ⟨sn,sb,sa,sp⟩ (by simp)
    · simp only [tk,hnx.1,hnx.2,ix];rfl
   case neg =>
    have eB:XL (d.sh.take i) sb=lb:=by unfold XL;rw [if_neg hgt];exact hlb
    have eL:qc4 (d.sh.take i) sb=cb:=by unfold qc4;rw [if_neg hgt,hlb];exact hcb
    rw [eB,eL] at hcode
    have hgt':(lb<sb)=False:=by simp only [eq_iff_iff,iff_false];rw [←hlb];exact hgt
    simp -implicitDefEqProofs (disch:=omega)[qb,hgt',o1,qf]
    refine qr7 qto (x:=1) (D:=sn) rfl rfl m1 ?_
    cases hg:JT E sn with
    | some v =>
      have hf:zf (qu d.rc) d.bath (d.sh.take i) ⟨sn,sb,sa,sp⟩=false:=by
       cases h:zf (qu d.rc) d.bath (d.sh.take i) ⟨sn,sb,sa,sp⟩ with
       | false=>rfl
       | true =>
         have:=jM ((c6 sn).2 (hcode.1 h).1)
         rw [hg] at this;cases this
      rw [hK0,hno hf]
      simp -implicitDefEqProofs (disch:=omega)[qb]
      try exact ⟨[],rfl⟩
    | none =>
    have hnd:=(c6 sn).1 (QG hg)
    simp -implicitDefEqProofs (disch:=omega)[qb,o1,qf]
    refine zq (ys:=[I sn]) (ids:=[]) rfl rfl ?_
    simp -implicitDefEqProofs (disch:=omega)[qb,zP]
    refine qg rfl (Qj 1 1099511627776 true sn) ?_
    by_cases hw:Ze 1 1099511627776 sn=true
    case neg =>
     have hw':Ze 1 1099511627776 sn=false:=by simpa using hw
     have hf:zf (qu d.rc) d.bath (d.sh.take i) ⟨sn,sb,sa,sp⟩=false:=by
      cases h:zf (qu d.rc) d.bath (d.sh.take i) ⟨sn,sb,sa,sp⟩ with
      | false=>rfl
      | true =>
        have:=(hcode.1 h).2.1
        unfold Ze at hw'
        rw [decide_eq_true this.1,decide_eq_true this.2] at hw';cases hw'
     rw [hw',hK0,hno hf]
     simp -implicitDefEqProofs (disch:=omega)[qb,AV.scalar]
     try exact ⟨[],rfl⟩
    have hwr:1≤sn∧sn≤QM:=by unfold Ze at hw;simpa using hw
    rw [hw]
    simp -implicitDefEqProofs (disch:=omega)[qb,AV.scalar,o1,qf]
    by_cases q3:sb=lb
    case neg =>
     have hf:zf (qu d.rc) d.bath (d.sh.take i) ⟨sn,sb,sa,sp⟩=false:=by
      cases h:zf (qu d.rc) d.bath (d.sh.take i) ⟨sn,sb,sa,sp⟩ with
      | false=>rfl
      | true=>exact absurd ((hcode.1 h).2.2.1) q3
     have q3f:(sb != lb)=true:=by rw [bne_iff_ne];exact q3
     rw [hK0,hno hf]
     simp -implicitDefEqProofs (disch:=omega)[qb,o1,z1,dyC,qf,q3f]
     try exact ⟨[],rfl⟩
    have q3b:(sb != lb)=false:=by rw [q3];simp
    by_cases q4:lb≤d.bath
    case neg =>
     have hf:zf (qu d.rc) d.bath (d.sh.take i) ⟨sn,sb,sa,sp⟩=false:=by
      cases h:zf (qu d.rc) d.bath (d.sh.take i) ⟨sn,sb,sa,sp⟩ with
      | false=>rfl
      | true=>exact absurd ((hcode.1 h).2.2.2.1) q4
     have q4f:(d.bath<lb)=True:=by simp only [eq_iff_iff,iff_true];omega
     rw [hK0,hno hf]
     simp -implicitDefEqProofs (disch:=omega)[qb,o1,z1,dyC,qf,q3b,q4f]
     try exact ⟨[],rfl⟩
    have q4b:(d.bath<lb)=False:=by simp only [eq_iff_iff,iff_false];omega
    by_cases q5:sa=cb
    case neg =>
     have hf:zf (qu d.rc) d.bath (d.sh.take i) ⟨sn,sb,sa,sp⟩=false:=by
      cases h:zf (qu d.rc) d.bath (d.sh.take i) ⟨sn,sb,sa,sp⟩ with
      | false=>rfl
      | true=>exact absurd ((hcode.1 h).2.2.2.2.1) q5
     have q5f:(sa != cb)=true:=by rw [bne_iff_ne];exact q5
     rw [hK0,hno hf]
     simp -implicitDefEqProofs (disch:=omega)[qb,o1,z1,dyC,qf,q3b,q4b,q5f]
     try exact ⟨[],rfl⟩
    have q5b:(sa != cb)=false:=by rw [q5];simp
    by_cases q6:cb<8
    case neg =>
     have hf:zf (qu d.rc) d.bath (d.sh.take i) ⟨sn,sb,sa,sp⟩=false:=by
      cases h:zf (qu d.rc) d.bath (d.sh.take i) ⟨sn,sb,sa,sp⟩ with
      | false=>rfl
      | true=>exact absurd ((hcode.1 h).2.2.2.2.2.1) q6
     have q6f:(8≤cb)=True:=by simp only [eq_iff_iff,iff_true];omega
     rw [hK0,hno hf]
     simp -implicitDefEqProofs (disch:=omega)[qb,o1,z1,dyC,qf,q3b,q4b,q5b,q6f]
     try exact ⟨[],rfl⟩
    have q6b:(8≤cb)=False:=by simp only [eq_iff_iff,iff_false];omega
    simp -implicitDefEqProofs (disch:=omega)[qb,o1,z1,dyC,qf,q3b,q4b,q5b,q6b]
    refine qg (ys:=[Ls false (qu d.rc),Pts sp]) (ids:=[]) rfl (jN false false _ sp hLO) ?_
    cases hpb:Yx (qu d.rc) sp with
    | false =>
      have hf:zf (qu d.rc) d.bath (d.sh.take i) ⟨sn,sb,sa,sp⟩=false:=by
       cases h:zf (qu d.rc) d.bath (d.sh.take i) ⟨sn,sb,sa,sp⟩ with
       | false=>rfl
       | true=>have:=(hcode.1 h).2.2.2.2.2.2;rw [hpb] at this;cases this
      rw [hK0,hno hf]
      simp -implicitDefEqProofs (disch:=omega)[qb,AV.scalar]
      try exact ⟨[],rfl⟩
    | true =>
    simp -implicitDefEqProofs (disch:=omega)[qb,AV.scalar,o1,qf]
    refine qrY qto (x:=1) (D:=sn) (v:=(i:Int)) rfl rfl rfl m1 (fun A q B h1 h2 _=>absurd h2 (QG hg q (by rw [h1];simp))) (fun hn=>?_)
    have p1:1<H1.length:=by omega
    simp -implicitDefEqProofs (disch:=omega)[qb]
    have hv:zf (qu d.rc) d.bath (d.sh.take i) ⟨sn,sb,sa,sp⟩=true:=hcode.2 ⟨hnd,hwr,q3,q4,q5,q6,hpb⟩
    have hnx:=qce (pre:=d.sh.take i) (s:=⟨sn,sb,sa,sp⟩) (by rw [eB];exact q3) hle
    simp only at hnx
    rw [eB,eL] at hnx
    have tk:d.sh.take (i+1)=d.sh.take i++[⟨sn,sb,sa,sp⟩]:=by rw [List.take_succ_eq_append_getElem hi,hB]
    try rw [if_pos p1]
    rw [hK0]
    refine qz (i+1,E++[(sn,clk,(i:Int))],clk+1,H1.set 1 (mpK qii (E++[(sn,clk,(i:Int))]) (clk+1))) ⟨by simp only;omega,(qh (by decide)).trans z1,qi p1,fun j h1 h2=>?_,fun k=>?_⟩ (by simp only;omega) ?_
    · by_cases hj : j < i
      · exact c5 j h1 hj
      · have : j = i := by omega
        subst this
        rw [hB];exact hv
    · rw [tk]
      constructor
      · intro h x hx
        rw [List.mem_append] at hx
        rcases hx with hx | hx
        · exact (c6 k).1 (fun e he=>h e (by simp [he])) x hx
        · simp at hx;subst hx;exact h (sn,clk,(i:Int)) (by simp)
      · intro h e he
        rw [List.mem_append] at he
        rcases he with he | he
        · exact (c6 k).2 (fun x hx=>h x (by simp [hx])) e he
        · simp at he;subst he;exact h ⟨sn,sb,sa,sp⟩ (by simp)
    · simp only [tk,hnx.1,hnx.2,ix]
 · have hi : i = d.sh.length := by simp at hc; omega
   subst hi
   rw [List.take_length] at *
   have hsB:jm (qu d.rc) d.bath d.sh=true:=ZV.2 fun j hj=>c5 j hj hj
   have hub : ∀ s ∈ d.sh,s.bath ≤ d.bath := fun s hs => by
    obtain ⟨j,hj,rfl⟩:=List.mem_iff_getElem.1 hs
    exact (ZU.1 (c5 j hj hj)).bath.2
   rw [←hlb] at hle
   have hdl:=qlR hle hub
   rw [hlb,hcb] at hdl
   rw [hsB,←hdl] at hday
   simp only [Bool.true_and] at hday
   rw [hK0,hday]
   simp -implicitDefEqProofs (disch:=omega)[qb,c2,qf,dyC]
   by_cases hlt:lb<d.bath
   · simp -implicitDefEqProofs (disch := omega) [qb,hlt,c2,qf,dyC]
     rfl
   · simp -implicitDefEqProofs (disch := omega) [qb,hlt,c2,qf,dyC]
     rfl
def XA:AC:=match Z4 with
 | .seq a _=>a
 | x=>x
def XB:AC:=match Z4 with
 | .seq _ (.seq b _)=>b
 | x=>x
theorem qfz:Z4 = .seq XA (.seq XB Y2):=rfl
theorem qbO {d:Dy} (h:qmW d=false):Wg d=false:=by rw [qjy,h];rfl
theorem Yr (d:Dy) (hd:DyI d):qC Tryz.prog 70 [DyV d] (B (Wg d)):=by
 refine qT (walk Tryz.func70 qeF (by kernel_rfl) (by show 1≤_;decide) ?_)
 rw [qfz]
 simp -implicitDefEqProofs (disch:=omega)[XA,Z4,qb]
 simp -implicitDefEqProofs (disch:=omega)[XB,Z4,qb,dyC]
 refine qg (ys:=[Bks d.rc]) (ids:=[]) rfl (qak false d.rc (by have:=hd.rl;omega) (fun b hb=>⟨by have:=(hd.rc b hb).1.2;omega,by have:=(hd.rc b hb).2;omega⟩)) ?_
 cases hR:jA d.rc with
 | false =>
   rw [qbO (by unfold qmW;rw [hR];rfl)]
   simp -implicitDefEqProofs (disch:=omega)[qb,AV.scalar]
   try exact ⟨[],rfl⟩
 | true =>
 simp -implicitDefEqProofs (disch:=omega)[qb,AV.scalar]
 refine zq (ys:=[I d.bath]) (ids:=[]) rfl rfl ?_
 simp -implicitDefEqProofs (disch:=omega)[qb,zP]
 refine qg rfl (Qj 0 1000 true d.bath) ?_
 cases h2:Ze 0 1000 d.bath with
 | false =>
   rw [qbO (by unfold qmW;rw [hR,h2];rfl)]
   simp -implicitDefEqProofs (disch:=omega)[qb,AV.scalar]
   try exact ⟨[],rfl⟩
 | true =>
 simp -implicitDefEqProofs (disch:=omega)[qb,AV.scalar,dyC]
 refine zq (ys:=[I d.laid]) (ids:=[]) rfl rfl ?_
 simp -implicitDefEqProofs (disch:=omega)[qb,zP]
 refine qg rfl (Qj 0 8 true d.laid) ?_
 cases h3:Ze 0 8 d.laid with
 | false =>
   rw [qbO (by unfold qmW;rw [hR,h2,h3];rfl)]
   simp -implicitDefEqProofs (disch:=omega)[qb,AV.scalar]
   try exact ⟨[],rfl⟩
 | true =>
 simp -implicitDefEqProofs (disch:=omega)[qb,AV.scalar,dyC]
 have h4x:∀ b:Bool,(decide (d.bath=0)&&decide (0<d.pat.length))=b→qmW d=(!b&&decide (d.sh.length≤400)):=by
  intro b hb;unfold qmW;rw [hR,h2,h3,hb];simp
 by_cases b0:d.bath=0
 · have b0' : (d.bath == 0) = true := by rw [b0]; rfl
   by_cases p0:0<d.pat.length
   · have p0' : (0 < d.pat.length) = True := by simp only [eq_iff_iff,iff_true]; omega
     rw [qbO ((h4x true (by simp [b0,p0])).trans rfl)]
     simp -implicitDefEqProofs (disch:=omega)[qb,b0',p0',AV.scalar,dyC]
     try exact ⟨[],rfl⟩
   · have p0' : (0 < d.pat.length) = False := by simp only [eq_iff_iff,iff_false]; omega
     have hp:=h4x false (by simp [p0])
     simp -implicitDefEqProofs (disch:=omega)[qb,b0',p0',AV.scalar,dyC]
     by_cases s4:d.sh.length≤400
     · have s4' : ((400 : Int) < (d.sh.length : Int)) = False := by simp only [eq_iff_iff,iff_false]; omega
       simp -implicitDefEqProofs (disch:=omega)[qb,s4',AV.scalar]
       exact qbX d hd hR (by rw [hp];simp [s4]) _
     · have s4' : ((400 : Int) < (d.sh.length : Int)) = True := by simp only [eq_iff_iff,iff_true]; omega
       rw [qbO (by rw [hp];simp [s4])]
       simp -implicitDefEqProofs (disch:=omega)[qb,s4',AV.scalar]
       try exact ⟨[],rfl⟩
 · have b0' : (d.bath == 0) = false := by rw [beq_eq_false_iff_ne]; exact b0
   have hp:=h4x false (by simp [b0])
   simp -implicitDefEqProofs (disch:=omega)[qb,b0',AV.scalar,dyC]
   by_cases s4:d.sh.length≤400
   · have s4' : ((400 : Int) < (d.sh.length : Int)) = False := by simp only [eq_iff_iff,iff_false]; omega
     simp -implicitDefEqProofs (disch:=omega)[qb,s4',AV.scalar]
     exact qbX d hd hR (by rw [hp];simp [s4]) _
   · have s4' : ((400 : Int) < (d.sh.length : Int)) = True := by simp only [eq_iff_iff,iff_true]; omega
     rw [qbO (by rw [hp];simp [s4])]
     simp -implicitDefEqProofs (disch:=omega)[qb,s4',AV.scalar]
     try exact ⟨[],rfl⟩
theorem qlg (k:Nat) (a b c:AV):(zP k [a,b,c]).length=k*3:=by
 induction k with
 | zero=>simp [zP]
 | succ k ih=>simp [zP,ih];omega
theorem qr9 {hp:List HObj} {sz bytes k:Nat} {zero:List AV} {K:AV→List (Nat × HObj)→Prop} (h1:k*bytes≤140737488355328) (h2:k≤140737488355328) (h3:zero.length=sz) (h:K (.ms hp.length 0 k sz) [(hp.length,.cells (zP k zero))]):qvp hp sz bytes zero (I (k:Int)) (I (k:Int)) K :=
 ⟨k,rfl,rfl,h1,h2,h3,h⟩
theorem qof {P : Program} {F : Nat → AV} {hp : List HObj} {d sz k id : Nat} {x y : Opd} {g : Bool} {cs ys : List AV} {K : AV → List (Nat × HObj) → Prop} (hx : evF F x = .ms id 0 k sz) (hy : evF F y = .sl g k ys) (hl : ys.length = k * sz) (hc : (ys.all AV.isPC) = true) (ho : qr hp id = some (.cells cs)) (hs : cs.length = k * sz)
 (h:K (I (k:Int)) [(id,.cells ys)]):(AOp.cpy d sz x y).wp P F hp K:=by
 have em:Nat.min k k=k:=Nat.min_self k
 have e:ys.take (Nat.min k k*sz)=ys:=by rw [em,←hl,List.take_length]
 have e2:splice cs 0 ys=ys:=by
  unfold splice;rw [List.take_zero,List.nil_append,List.drop_eq_nil_of_le (by omega),List.append_nil]
 refine ⟨I (k:Int),[(id,.cells ys)],?_,h⟩
 simp only [AOp.sem,hx,hy]
 refine ⟨k,ys,cs,by simp [ZO,hl],by rw [e];exact hc,by rw [zh];exact ho,trivial,by omega,by rw [em],by rw [e,e2]⟩
theorem qcW (d:Dy) (hd:DyI d):qC Tryz.prog 33 [DyV d] (I (Wh d)):=by
 refine qT (walk Tryz.func33 X8 (by kernel_rfl) (by show 1≤_;decide) ?_)
 simp -implicitDefEqProofs (disch:=omega)[WO,qb,dyC]
 refine qg (ys:=[DyV d]) (ids:=[]) rfl (Yr d hd) ?_
 cases hb:Wg d with
 | false =>
   have hE:Wh d=2:=by unfold Wh;rw [hb];rfl
   rw [hE]
   simp -implicitDefEqProofs (disch:=omega)[qb,AV.scalar]
   try exact ⟨[],rfl⟩
 | true =>
   have hE:Wh d=0:=by unfold Wh;rw [hb];rfl
   rw [hE]
   simp -implicitDefEqProofs (disch:=omega)[qb,AV.scalar]
   try exact ⟨[],rfl⟩
theorem Yp (d:Dy) (hd:DyI d) (p:Pt):qC Tryz.prog 74 [DyV d,.agg (ptC p)] (I (Zb d p)):=by
 refine qT (walk Tryz.func74 qeD (by kernel_rfl) (by show 2≤_;decide) ?_)
 simp -implicitDefEqProofs (disch:=omega)[qdU,qb,dyC,ptC]
 refine qg (ys:=[DyV d]) (ids:=[]) rfl (Yr d hd) ?_
 cases hb:Wg d with
 | false =>
   have hE:Zb d p=2:=by unfold Zb;rw [hb];rfl
   rw [hE]
   simp -implicitDefEqProofs (disch:=omega)[qb,AV.scalar]
   try exact ⟨[],rfl⟩
 | true =>
   simp -implicitDefEqProofs (disch:=omega)[qb,AV.scalar]
   refine qg (ys:=[I (d.rc.length:Int),.agg (ptC p)]) (ids:=[]) rfl (Vd _ (by have:=hd.rl;omega) _) ?_
   cases hp:qI d.rc.length p with
   | false =>
     have hE:Zb d p=3:=by unfold Zb;rw [hb,hp];rfl
     rw [hE]
     simp -implicitDefEqProofs (disch:=omega)[qb,AV.scalar]
     try exact ⟨[],rfl⟩
   | true =>
     have hE:Zb d p=0:=by unfold Zb;rw [hb,hp];rfl
     rw [hE]
     simp -implicitDefEqProofs (disch:=omega)[qb,AV.scalar]
     try exact ⟨[],rfl⟩
theorem qjY (d:Dy) (hd:DyI d) (p:Pt):qC Tryz.prog 36 [DyV d,.agg (ptC p)] (.tup [I (qc6 d p),I (Zb d p)]):=by
 refine qT (walk Tryz.func36 qf1 (by kernel_rfl) (by show 2≤_;decide) ?_)
 simp -implicitDefEqProofs (disch:=omega)[qgV,qb,dyC,ptC]
 refine qg (ys:=[DyV d,.agg (ptC p)]) (ids:=[]) rfl (Yp d hd p) ?_
 simp -implicitDefEqProofs (disch:=omega)[qb,AV.scalar]
 by_cases hE:Zb d p=0
 case neg =>
  have hE':(Zb d p != 0)=true:=by rw [bne_iff_ne];exact hE
  have hl:qc6 d p=0:=if_neg hE
  simp -implicitDefEqProofs (disch:=omega)[qb,hE',hl]
  try exact ⟨[],rfl⟩
 have hE':(Zb d p != 0)=false:=by rw [hE];rfl
 have hl:qc6 d p=QZ (qu d.rc) [p]:=if_pos hE
 obtain ⟨hb,hp⟩:=VL.1 hE
 have V:=jw.1 hb
 have hLO:=jO V.recV
 have hp1:∀ q∈[p],qI (qu d.rc).length q=true:=fun q hq=>by rw [List.mem_singleton] at hq;rw [hq,zy];exact hp
 rw [hl,hE]
 simp -implicitDefEqProofs (disch:=omega)[qb,hE']
 refine qQ (ys:=[Bks d.rc]) (ids:=[]) rfl (Z9 false d.rc V.recV (fun b hb=>by have:=(hd.rc b hb).1.2;omega)) ?_
 simp -implicitDefEqProofs (disch:=omega)[qb,AV.scalar]
 refine zq (ys:=[.agg (ptC p)]) (ids:=[]) rfl rfl ?_
 simp -implicitDefEqProofs (disch:=omega)[qb,zP,ptC]
 refine qQ (ys:=[Ls false (qu d.rc),JG true [p]]) (ids:=[]) rfl (QN false true _ [p] hLO hp1 (by simp)) ?_
 simp -implicitDefEqProofs (disch:=omega)[qb,AV.scalar]
 try exact ⟨[],rfl⟩
theorem Wy (d:Dy) (hd:DyI d) (n:Int):qC Tryz.prog 31 [DyV d,I n] (.tup [qnq ((Jh d n).getD sh0),I (Zx d n)]):=by
 refine zO (zj Tryz.func31 qeB qfh (by show 2≤_;decide) ?_)
 have wk0:∀ (e:Int) (H:List HObj),qi7 (.tup [qnq sh0,I e]) (.tup [.agg [I 0,I 0,I 0,.sl true 0 []],I e]) H:=fun e H =>
  qG (r' := .tup [.agg [I 0,I 0,I 0,.sl true 0 []],I e]) (is:=[]) rfl (.tupL (.cons (.aggL (.cons (.refl _) (.cons (.refl _) (.cons (.refl _) (.cons .slf .nil))))) (.cons (.refl _) .nil)))
 simp -implicitDefEqProofs (disch:=omega)[qdT,qb,dyC]
 refine qg (ys:=[DyV d]) (ids:=[]) rfl (Yr d hd) ?_
 cases hb:Wg d with
 | false =>
   have h1:Jh d n=none:=by unfold Jh;rw [hb];rfl
   have h2:Zx d n=2:=by unfold Zx;rw [hb];rfl
   rw [h1,h2]
   simp -implicitDefEqProofs (disch:=omega)[qb,AV.scalar]
   exact qK (id:=1) (off:=0) (cs:=[I 0,I 0,I 0,.sl true 0 []]) rfl rfl (by simp) (wk0 2 _)
 | true =>
 have h1:Jh d n=d.sh.find? (fun s=>decide (s.num=n)):=by unfold Jh;rw [hb];rfl
 have h2:Zx d n=if (d.sh.find? (fun s=>decide (s.num=n))).isSome then 0 else 5:=by unfold Zx;rw [hb,h1];rfl
 have hsl:=hd.sl
 rw [h1,h2]
 clear h1 h2
 generalize hF:d.sh.find? (fun s=>decide (s.num=n))=F
 simp -implicitDefEqProofs (disch:=omega)[qb,AV.scalar]
 refine qO (fun q:Nat × List HObj=>⟨[(1,I n),(4,.ref 1 0),(14,Shs d.sh),(15,I (d.sh.length:Int)),(16,I (q.1:Int))],q.2⟩) (fun q=>(q.1≤d.sh.length∧∀ j (hj:j<d.sh.length),j<q.1→d.sh[j].num≠n)∧qr q.2 1=some (.cells [I 0,I 0,I 0,.sl true 0 []])) (fun q=>d.sh.length - q.1) (0,[.cells (dyC d),.cells [I 0,I 0,I 0,.sl true 0 []]]) ⟨⟨Nat.zero_le _,fun j _ h=>by omega⟩,rfl⟩ rfl ?_
 rintro ⟨i,H⟩ ⟨⟨c1,c2⟩,o1⟩
 simp only at c1 c2 o1 ⊢
 refine qW fun K0 hK0=>?_
 simp -implicitDefEqProofs (disch:=omega)[qb,dyC]
 refine qP (fun hc=>?_) (fun hc=>?_)
 · have hi : i < d.sh.length := by simpa using hc
   have ix:((i:Int)+1)=((i+1:Nat):Int):=by omega
   simp -implicitDefEqProofs (disch:=omega)[qb,dyC,hi,shC]
   have hsI:=hd.sh _ (List.getElem_mem hi)
   have hfs : d.sh[i].num = n → F = some d.sh[i] := fun he => by
    rw [←hF,List.find?_eq_some_iff_getElem]
    exact ⟨by simpa using he,i,hi,rfl,fun j hj=>by simpa using c2 j (by omega) hj⟩
   have hc2 : d.sh[i].num ≠ n → ∀ j (hj : j < d.sh.length),j < i + 1 → d.sh[j].num ≠ n := fun he j hj hlt => by
    by_cases e:j=i
    · subst e;exact he
    · exact c2 j hj (by omega)
   generalize hB:d.sh[i]=s at *
   obtain ⟨sn,sb,sa,sp⟩:=s
   have l1:=qj o1
   have z1:qr (H++[HObj.cells [I sn,I sb,I sa,Pts sp]]) 1=some (.cells [I 0,I 0,I 0,.sl true 0 []]):=(qk l1).trans o1
   have o2:qr (H++[HObj.cells [I sn,I sb,I sa,Pts sp]]) H.length=some (.cells [I sn,I sb,I sa,Pts sp]):=Qn
   generalize H++[HObj.cells [I sn,I sb,I sa,Pts sp]]=H1 at *
   generalize hLe:H.length=L at *
   simp -implicitDefEqProofs (disch:=omega)[qb,o2,qf]
   by_cases he:sn=n
   · have he' : (sn == n) = true := by rw [beq_iff_eq]; exact he
     rw [hK0,hfs he]
     simp -implicitDefEqProofs (disch:=omega)[qb,he',o2,qf]
     have hspl:sp.length≤100000:=hsI.2.2.2.2
     have l2:=qj o2
     have l3:=qj z1
     have hL1:L≠1:=by
      intro e;rw [e] at o2;rw [z1] at o2;cases sp <;> cases o2
     refine qr9 (by omega) (by omega) rfl ?_
     simp -implicitDefEqProofs (disch:=omega)[qb,he',o2,qf]
     have y1:qr (H1++[HObj.cells (zP sp.length [AV.v (Value.int IntKind.u8 0),I 0,I 0])]) 1=some (.cells [I 0,I 0,I 0,.sl true 0 []]):=(qk l3).trans z1
     have y2:qr (H1++[HObj.cells (zP sp.length [AV.v (Value.int IntKind.u8 0),I 0,I 0])]) L=some (.cells [I sn,I sb,I sa,Pts sp]):=(qk l2).trans o2
     have y3:qr (H1++[HObj.cells (zP sp.length [AV.v (Value.int IntKind.u8 0),I 0,I 0])]) H1.length=some (.cells (zP sp.length [AV.v (Value.int IntKind.u8 0),I 0,I 0])):=Qn
     have hML:H1.length≠L:=by omega
     have hM1:H1.length≠1:=by omega
     generalize H1++[HObj.cells (zP sp.length [AV.v (Value.int IntKind.u8 0),I 0,I 0])]=H2 at *
     generalize H1.length=M at *
     simp -implicitDefEqProofs (disch:=omega)[qb,y2,qf]
     refine qof (k:=sp.length) (ys:=fl ptC sp) rfl rfl qaK (Xa qhL _) y3 (qlg _ _ _ _) ?_
     have hMl:=qj y3
     have x1:qr (H2.set M (.cells (fl ptC sp))) 1=some (.cells [I 0,I 0,I 0,.sl true 0 []]):=(qh (by omega)).trans y1
     have x2:qr (H2.set M (.cells (fl ptC sp))) L=some (.cells [I sn,I sb,I sa,Pts sp]):=(qh (by omega)).trans y2
     have x3:qr (H2.set M (.cells (fl ptC sp))) M=some (.cells (fl ptC sp)):=qi hMl
     simp -implicitDefEqProofs (disch:=omega)[qb]
     rw [if_pos hMl]
     generalize H2.set M (.cells (fl ptC sp))=H3 at *
     have hLl:=qj x2
     have w1:qr (H3.set L (.cells [I sn,I sb,I sa,.ms M 0 sp.length 3])) 1=some (.cells [I 0,I 0,I 0,.sl true 0 []]):=(qh (by omega)).trans x1
     have w2:qr (H3.set L (.cells [I sn,I sb,I sa,.ms M 0 sp.length 3])) L=some (.cells [I sn,I sb,I sa,.ms M 0 sp.length 3]):=qi hLl
     have w3:qr (H3.set L (.cells [I sn,I sb,I sa,.ms M 0 sp.length 3])) M=some (.cells (fl ptC sp)):=(qh (by omega)).trans x3
     simp -implicitDefEqProofs (disch:=omega)[qb,x2]
     try rw [if_pos hLl]
     generalize H3.set L (.cells [I sn,I sb,I sa,.ms M 0 sp.length 3])=H4 at *
     have hL1':=qj w1
     simp -implicitDefEqProofs (disch:=omega)[qb,w2,w1]
     have v1:qr (H4.set 1 (.cells [I sn,I sb,I sa,.ms M 0 sp.length 3])) 1=some (.cells [I sn,I sb,I sa,.ms M 0 sp.length 3]):=qi hL1'
     have v3:qr (H4.set 1 (.cells [I sn,I sb,I sa,.ms M 0 sp.length 3])) M=some (.cells (fl ptC sp)):=(qh (by omega)).trans w3
     try rw [if_pos hL1']
     generalize H4.set 1 (.cells [I sn,I sb,I sa,.ms M 0 sp.length 3])=H5 at *
     refine qK (id:=1) (off:=0) (cs:=[I sn,I sb,I sa,.ms M 0 sp.length 3]) rfl v1 (by simp) ?_
     have hpm:ze (hpf H5) (.ms M 0 sp.length 3)=some (.sl false sp.length (fl ptC sp),[M]):=qkA v3 qaK (Xa qhL _)
     refine qG (r' := .tup [.agg [I sn,I sb,I sa,.sl false sp.length (fl ptC sp)],I 0]) (is:=[M]) ?_ ?_
     · show qU _ (.tup [.agg [I sn,I sb,I sa,.ms M 0 sp.length 3],I 0]) = _
       simp only [qU,Qq,zu,QT,hpm]
       simp [ze]
     · exact .tupL (.cons (.aggL (.cons (.refl _) (.cons (.refl _) (.cons (.refl _) (.cons .slf .nil))))) (.cons (.refl _) .nil))
   · have he' : (sn == n) = false := by rw [beq_eq_false_iff_ne]; exact he
     simp -implicitDefEqProofs (disch:=omega)[qb,he']
     rw [hK0]
     refine qz (i+1,H1) ⟨⟨by simp only;omega,hc2 he⟩,z1⟩ (by simp only;omega) (by simp only [ix,dyC])
 · have hi : i = d.sh.length := by simp at hc; omega
   subst hi
   subst hK0
   have hf:F=none:=by
    rw [←hF,List.find?_eq_none]
    intro s hs
    obtain ⟨j,hj,rfl⟩:=List.mem_iff_getElem.1 hs
    simpa using c2 j hj hj
   rw [hf]
   simp -implicitDefEqProofs (disch:=omega)[qb,o1]
   refine qK (id:=1) (off:=0) (cs:=[I 0,I 0,I 0,.sl true 0 []]) rfl ?_ (by simp) (wk0 5 _)
   rw [if_pos (qj o1)];exact qi (qj o1)
theorem qia {P:Program} {E:HE} {w1:World} {g1:G} {d f args fr hp K}:qa6 P E w1 g1 (.call d f args) ⟨fr,hp⟩ K=Vr P w1 g1 f (args.map (evF (get fr))) hp (fun r hp'=>K ⟨(d,r)::fr,hp'⟩):=rfl
theorem XP {P:Program} {E:HE} {w1:World} {g1:G} {d x args fr hp K}:qa6 P E w1 g1 (.callv d x args) ⟨fr,hp⟩ K=qdP P E (evF (get fr) x) (args.map (evF (get fr))) hp (fun r hp'=>K ⟨(d,r)::fr,hp'⟩):=by
 simp only [qa6,aop,qdP]
 generalize evF (get fr) x=u
 cases u with
 | fn f us bs=>cases f <;> rfl
 | _=>rfl
def Zi:AC:=match Jm with
 | .seq _ (.seq (.seq _ (.block _ (.loop (.seq _ (.seq _ (.seq (.block _ (.seq _ (.seq _ (.block _ (.loop (.seq _ (.seq _ (.seq (.block _ x) _)))))))) _)))))) _)=>x
 | x=>x
def ZL:AC:=match Zi with
 | .seq _ x=>x
 | x=>x
def qmh:List Grp:=match Zi with
 | .seq (.drw gs _ _) _=>gs
 | _=>[]
theorem qiW:Zi = .seq (.drw qmh [(15,17),(15,19),(17,19),(15,22)] [2,3,8,9,10,11,16,17,46]) ZL:=by kernel_rfl
theorem qiX {w1 : World} {g1 : G} {E : HE} (hY : YS Tryz.prog E w1 g1) (hR : RS Tryz.prog E) {p : Pt} {d : Dy} (hp : qI d.rc.length p = true) {H : List HObj} {a b id : Nat} {x9 x10 x11 x16 x17 : AV} (ha : qr H a = some (.cells (dyC d))) (hb : qr H b = some (.cells (ptC p)))
 {T F:List HObj→Prop} {Q:Exit→St→Prop}
 (hact:p.2.1<0→E.Y id [U p.1] H fun r H'=>(r=B true∧T H')∨(r=B false∧F H'))
 (hrec:∀ (h:p.2.1.toNat<d.rc.length),0≤p.2.1→Vr Tryz.prog w1 g1 131 [DyV d,Pts d.rc[p.2.1.toNat].2,.yl id] H fun r H'=>(r=B true∧T H')∨(r=B false∧F H'))
 (hTb:∀ H',T H'→qr H' b=qr H b)
 (hT:∀ H',T H'→Q .normal ⟨[(2,.yl id),(3,.ref a 0),(8,.ref b 0),(9,x9),(10,x10),(11,x11),(16,x16),(17,x17),(46,B false)],H'⟩)
 (hF:∀ H',F H'→Q .ret ⟨[(6,B false)],H'⟩) :
 qa5 Tryz.prog w1 g1 Zi ⟨[(2,.yl id),(3,.ref a 0),(8,.ref b 0),(9,x9),(10,x10),(11,x11),(16,x16),(17,x17),(18,B true)],H⟩ Q:=by
 rw [qiW]
 refine ZX ?_
 have tail:∀ (fl:Bool) H',(fl=false∧T H'∨fl=true∧F H')→qa5 Tryz.prog w1 g1 ZL ⟨[(2,.yl id),(3,.ref a 0),(8,.ref b 0),(9,x9),(10,x10),(11,x11),(16,x16),(17,x17),(46,B fl)],H'⟩ Q:=by
  intro fl H' h
  refine ZB hY hR ?_
  rcases h with ⟨rfl,h⟩ | ⟨rfl,h⟩
  · simp -implicitDefEqProofs (disch := omega) [ZL,Zi,Jm,qb]
    exact hT _ h
  · simp -implicitDefEqProofs (disch := omega) [ZL,Zi,Jm,qb]
    exact hF _ h
 have tail':∀ (fl:Bool) H',(fl=false∧T H'∨fl=true∧F H')→Exit.th (fun st=>qa5 Tryz.prog w1 g1 ZL st Q) Q .normal ⟨[(2,.yl id),(3,.ref a 0),(8,.ref b 0),(9,x9),(10,x10),(11,x11),(16,x16),(17,x17),(46,B fl)],H'⟩:=tail
 generalize Exit.th (fun st=>qa5 Tryz.prog w1 g1 ZL st Q) Q=Q2 at *
 by_cases h0:p.2.1<0
 · have h0' : (p.2.1 < 0) = True := by simp only [eq_iff_iff,iff_true]; exact h0
   have h1':(0≤p.2.1)=False:=by simp only [eq_iff_iff,iff_false];omega
   refine Y5 hY [⟨none,[(.fa 19 (.t 8) 1),(.ld 20 false 1 (.t 19)),(.bin 21 .lss (.t 20) (.k (I 0))),(.mv 22 (.t 21))]⟩,⟨(some (22,true)),[(.mv 23 (.t 2)),(.fa 24 (.t 8) 0),(.ld 25 false 1 (.t 24))]⟩]
    [⟨(some (22,true)),[(.un 27 .not (.t 26))]⟩,⟨none,[(.pick 28 (.t 22) (.t 27) (.k (B false))),(.mv 29 (.t 28))]⟩,⟨(some (29,false)),[(.fa 30 (.t 8) 1),(.ld 31 false 1 (.t 30)),(.bin 32 .geq (.t 31) (.k (I 0))),(.mv 33 (.t 32))]⟩,⟨(some (33,true)),[(.ld 34 true 5 (.t 3)),(.fa 35 (.t 3) 0),(.ld 36 false 1 (.t 35)),(.fa 37 (.t 8) 1),(.ld 38 false 1 (.t 37)),(.ia 39 2 (.t 36) (.t 38)),(.fa 40 (.t 39) 1),(.ld 41 false 1 (.t 40)),(.mv 42 (.t 2)),(.call 43 131 [(.t 34),(.t 41),(.t 42)]),(.un 44 .not (.t 43))]⟩,⟨(some (29,false)),[(.pick 45 (.t 33) (.t 44) (.k (B false)))]⟩,⟨none,[(.pick 46 (.t 29) (.k (B true)) (.t 45))]⟩]
    [] 7 [([],[]),([],[]),([],[]),([],[]),([],[]),([],[]),([],[]),([],[])] (some (22,true)) (.callv 26 (.t 23) [(.t 25)]) (by kernel_rfl) (by kernel_rfl) (by kernel_rfl) (by kernel_rfl) (by kernel_rfl) (by kernel_rfl) (by kernel_rfl) (.inr ⟨_,_,_,rfl⟩) ?_
   simp -implicitDefEqProofs (disch:=omega)[qb,hb,qf,ptC,h0',qjU,XP,zW,zJ,zE]
   refine ⟨_,hact h0,?_⟩
   rintro r H' (⟨rfl,ht⟩ | ⟨rfl,hf⟩)
   · have hb' := (hTb _ ht).trans hb
     simp -implicitDefEqProofs (disch:=omega)[qb,hb',qf,ptC,h1',zW,zJ,zE]
     exact tail' false H' (.inl ⟨rfl,ht⟩)
   · simp -implicitDefEqProofs (disch := omega) [qb,zW,zJ,zE]
     exact tail' true H' (.inr ⟨rfl,hf⟩)
 · have h0' : (p.2.1 < 0) = False := by simp only [eq_iff_iff,iff_false]; exact h0
   have h1':(0≤p.2.1)=True:=by simp only [eq_iff_iff,iff_true];omega
   have hr:p.2.1.toNat<d.rc.length:=by
    rcases zk hp with ⟨h,_⟩ | ⟨_,_,h⟩ <;> omega
   have hr3:p.2.1<(d.rc.length:Int):=by omega
   refine Y5 hY [⟨none,[(.fa 19 (.t 8) 1),(.ld 20 false 1 (.t 19)),(.bin 21 .lss (.t 20) (.k (I 0))),(.mv 22 (.t 21))]⟩,⟨(some (22,true)),[(.mv 23 (.t 2)),(.fa 24 (.t 8) 0),(.ld 25 false 1 (.t 24)),(.callv 26 (.t 23) [(.t 25)]),(.un 27 .not (.t 26))]⟩,⟨none,[(.pick 28 (.t 22) (.t 27) (.k (B false))),(.mv 29 (.t 28))]⟩,⟨(some (29,false)),[(.fa 30 (.t 8) 1),(.ld 31 false 1 (.t 30)),(.bin 32 .geq (.t 31) (.k (I 0))),(.mv 33 (.t 32))]⟩,⟨(some (33,true)),[(.ld 34 true 5 (.t 3)),(.fa 35 (.t 3) 0),(.ld 36 false 1 (.t 35)),(.fa 37 (.t 8) 1),(.ld 38 false 1 (.t 37)),(.ia 39 2 (.t 36) (.t 38)),(.fa 40 (.t 39) 1),(.ld 41 false 1 (.t 40)),(.mv 42 (.t 2))]⟩]
    [⟨(some (33,true)),[(.un 44 .not (.t 43))]⟩,⟨(some (29,false)),[(.pick 45 (.t 33) (.t 44) (.k (B false)))]⟩,⟨none,[(.pick 46 (.t 29) (.k (B true)) (.t 45))]⟩]
    [(15,17),(15,19),(17,19),(15,22)] 24 [([],[]),([],[]),([],[]),([],[]),([],[]),([],[]),([],[]),([],[]),([],[]),([],[]),([],[]),([],[]),([],[]),([],[]),([],[]),([],[]),([],[]),([],[]),([],[]),([],[]),([],[]),([],[]),([],[]),([],[]),([],[])] (some (33,true)) (.call 43 131 [(.t 34),(.t 41),(.t 42)]) (by kernel_rfl) (by kernel_rfl) (by kernel_rfl) (by kernel_rfl) (by kernel_rfl) (by kernel_rfl) (by kernel_rfl) (.inl ⟨_,_,_,rfl⟩) ?_
   simp -implicitDefEqProofs (disch:=omega)[qb,ha,hb,qf,ptC,dyC,h0',h1',hr,hr3,qjU,qia,zW,zJ,zE]
   refine V8 (fun r H' hq=>?_) (hrec hr (by omega))
   rcases hq with ⟨rfl,ht⟩ | ⟨rfl,hf⟩
   · simp -implicitDefEqProofs (disch := omega) [qb,zW,zJ,zE]
     exact tail' false H' (.inl ⟨rfl,ht⟩)
   · simp -implicitDefEqProofs (disch := omega) [qb,zW,zJ,zE]
     exact tail' true H' (.inr ⟨rfl,hf⟩)
structure Ask (E:HE) (id:Nat) (W:List UInt8) (J:Nat→List HObj→(Nat→Prop)→Prop) (F:List HObj→Prop):Prop where
 ext:∀ j H os S,J j H S→J j (H++os) (fun i=>S i∨(H.length≤i∧i<(H++os).length))
 sub:∀ j H (S S':Nat→Prop),J j H S→(∀ i,S' i→S i)→J j H S'
 lt:∀ j H S,J j H S→∀ i,S i→i<H.length
 yl:∀ j H S (h:j<W.length),J j H S→E.Y id [U (W[j].toNat:Int)] H fun r H'=>(r=B true∧(J (j+1) H' S∧∀ i,S i→qr H' i=qr H i))∨(r=B false∧F H')
def Y3:AC:=match Jm with
 | .seq _ (.seq (.seq _ (.block _ (.loop x))) _)=>x
 | x=>x
def Y4:AC:=match Y3 with
 | .seq _ (.seq _ (.seq (.block _ (.seq _ (.seq _ (.block _ (.loop x))))) _))=>x
 | x=>x
theorem qiZ:Y4 = .seq (.rgn [⟨none,[(.bin 18 .lss (.t 17) (.t 16))]⟩] [2,3,8,9,10,11,16,17,18]) (.seq (.cond (.t 18) .skip (.exit 2)) (.seq (.block 3 Zi) (.rgn [⟨none,[(.bin 47 .add (.t 17) (.k (I 1))),(.mv 17 (.t 47))]⟩] [2,3,8,9,10,11,16,17]))):=by kernel_rfl
theorem qiY:Y3 = .seq (.rgn [⟨none,[(.bin 12 .lss (.t 11) (.t 10))]⟩] [2,3,9,10,11,12]) (.seq (.cond (.t 12) .skip (.exit 0)) (.seq (.block 1 (.seq (.rgn [⟨none,[(.ia 13 3 (.t 9) (.t 11)),(.ld 14 true 3 (.t 13)),(.al 8 [(.v (.int .u8 0)),(I 0),(I 0)]),(.st 3 (.t 8) (.t 14))]⟩] [2,3,8,9,10,11]) (.seq (.rgn [⟨none,[(.fa 15 (.t 8) 2),(.ld 16 false 1 (.t 15)),(.mv 17 (.k (I 0)))]⟩] [2,3,8,9,10,11,16,17]) (.block 2 (.loop Y4))))) (.rgn [⟨none,[(.bin 48 .add (.t 11) (.k (I 1))),(.mv 11 (.t 48))]⟩] [2,3,9,10,11]))):=by kernel_rfl
theorem qnc:Jm = .seq (.rgn [⟨none,[(.box 3 5 (.t 0)),(.mv 6 (.k (B false)))]⟩] [1,2,3]) (.seq (.seq (.rgn [⟨none,[(.mv 9 (.t 1)),(.len 10 (.t 9)),(.mv 11 (.k (I 0)))]⟩] [2,3,9,10,11]) (.block 0 (.loop Y3))) (.seq (.rgn [⟨none,[(.mv 6 (.k (B true)))]⟩] [6]) .ret)):=by kernel_rfl
theorem qi0 (T:List (List UInt8)) {l:List Pt} {i t:Nat} (hi:i<l.length) (ht:t<l[i].2.2.toNat):∃ R,spell T l=spell T (l.take i)++(ZG T l[i] t++(qaD T l[i]++R)):=by
 refine ⟨ZG T l[i] (l[i].2.2.toNat - t - 1)++spell T (l.drop (i+1)),?_⟩
 have e:spell T l=spell T (l.take (i+1))++spell T (l.drop (i+1)):=by
  conv=>lhs;rw [←List.take_append_drop (i+1) l]
  unfold spell;rw [List.flatMap_append]
 have e2:ZG T l[i] l[i].2.2.toNat=ZG T l[i] t++(qaD T l[i]++ZG T l[i] (l[i].2.2.toNat - t - 1)):=by
  unfold ZG
  rw [←List.flatten_cons,←List.replicate_succ,←List.flatten_append,List.replicate_append_replicate]
  congr 2;omega
 rw [e,qcf hi,e2]
 simp only [List.append_assoc]
theorem qsz {W A X R:List UInt8} {base:Nat} (h:∀ t,t<(A++(X++R)).length→W[base+t]?=(A++(X++R))[t]?):∀ u,u<X.length→W[base+A.length+u]?=X[u]?:=fun u hu=>by
 have:=h (A.length+u) (by simp;omega)
 rw [←Nat.add_assoc] at this
 rw [this,List.getElem?_append_right (by omega),Nat.add_sub_cancel_left,List.getElem?_append_left hu]
theorem qgE {w1 : World} {g1 : G} {E : HE} (hY : YS Tryz.prog E w1 g1) (hR : RS Tryz.prog E) {id : Nat} {W : List UInt8} {J : Nat → List HObj → (Nat → Prop) → Prop} {F : List HObj → Prop} (hA : Ask E id W J F) {T : List (List UInt8)} {d : Dy} (V : DayV d) (hT : T = spR d.rc) {p : Pt} (hp : qI d.rc.length p = true)
 (ih:∀ (h:p.2.1.toNat<d.rc.length),0≤p.2.1→∀ base,(∀ t,t<(qaD T p).length→W[base+t]?=(qaD T p)[t]?)→∀ H S,J base H S→Vr Tryz.prog w1 g1 131 [DyV d,Pts d.rc[p.2.1.toNat].2,.yl id] H fun r H'=>(r=B true∧(J (base+(qaD T p).length) H' S∧∀ i,S i→qr H' i=qr H i))∨(r=B false∧F H'))
 {base a b:Nat} (hsub:∀ t,t<p.2.2.toNat→∀ u,u<(qaD T p).length→W[base+(ZG T p t).length+u]?=(qaD T p)[u]?) {x9 x10 x11:AV} {H:List HObj} {S:Nat→Prop} (hJ:J base H S) (ha:qr H a=some (.cells (dyC d))) (hb:qr H b=some (.cells (ptC p))) (sa:S a) (sb:S b) {Q:Exit→St→Prop}
 (hN:∀ H',J (base+(ZG T p p.2.2.toNat).length) H' S→(∀ i,S i→qr H' i=qr H i)→Q .normal ⟨[(2,.yl id),(3,.ref a 0),(8,.ref b 0),(9,x9),(10,x10),(11,x11),(16,I p.2.2),(17,I p.2.2),(18,B false)],H'⟩)
 (hF:∀ H',F H'→Q .ret ⟨[(6,B false)],H'⟩) :
 qa5 Tryz.prog w1 g1 (.loop Y4) ⟨[(2,.yl id),(3,.ref a 0),(8,.ref b 0),(9,x9),(10,x10),(11,x11),(16,I p.2.2),(17,I 0)],H⟩ (Exit.blk 2 Q):=by
 have tm:=Qd hp
 refine XK (fun q:Nat × List HObj=>⟨[(2,.yl id),(3,.ref a 0),(8,.ref b 0),(9,x9),(10,x10),(11,x11),(16,I p.2.2),(17,I (q.1:Int))],q.2⟩) (fun q=>q.1≤p.2.2.toNat∧J (base+(ZG T p q.1).length) q.2 S∧∀ i,S i→qr q.2 i=qr H i) (fun q=>p.2.2.toNat - q.1) (0,H) ⟨Nat.zero_le _,by simpa [ZG] using hJ,fun _ _=>rfl⟩ (St.le.rfl' _) ?_
 rintro ⟨t,H2⟩ ⟨c1,c2,c3⟩
 simp only at c1 c2 c3 ⊢
 rw [qiZ]
 refine Qh hY hR ?_
 simp -implicitDefEqProofs (disch:=omega)[qb]
 refine ZX (XJ (t:=decide ((t:Int)<p.2.2)) rfl (fun hc=>ZB hY hR ?_) (fun hc=>ZB hY hR ?_))
 · simp -implicitDefEqProofs (disch := omega) [qb]
   have ht:t<p.2.2.toNat:=by simp at hc;omega
   rw [hc]
   refine ZX (jD ?_)
   have hs:=hsub t ht
   refine qiX hY hR hp (T:=fun H'=>J (base+(ZG T p t).length+(qaD T p).length) H' S∧∀ i,S i→qr H' i=qr H2 i) (F:=F) ((c3 a sa).trans ha) ((c3 b sb).trans hb) (fun h0=>?_) (fun hr h0=>ih hr h0 _ hs H2 S c2) (fun H' h=>h.2 b sb) (fun H' h=>?_) (fun H' h=>hF H' h)
   · have hact:VZ p.1=true:=by
      rcases zk hp with ⟨_,h⟩ | ⟨_,h,_⟩
      · exact h
      · omega
     have hpb:0≤p.1∧p.1≤255:=by unfold VZ at hact;simp only [Bool.and_eq_true,decide_eq_true_eq] at hact;omega
     have eo:qaD T p=[UInt8.ofNat p.1.toNat]:=if_neg (by omega)
     rw [eo] at hs ⊢
     have h0':=hs 0 (by simp)
     simp only [Nat.add_zero,List.getElem?_cons_zero] at h0'
     obtain ⟨hlt,he⟩:=List.getElem?_eq_some_iff.1 h0'
     have:=hA.yl _ H2 S hlt c2
     rw [he,qnf hpb.1 hpb.2] at this
     exact this
   · refine ZB hY hR ?_
     have tx:((t:Int)+1)=((t+1:Nat):Int):=by omega
     simp -implicitDefEqProofs (disch:=omega)[qb]
     refine qz (t+1,H') ⟨by simp only;omega,?_,fun i hi=>(h.2 i hi).trans (c3 i hi)⟩ (by simp only;omega) (by simp only [tx])
     rw [qgI,List.length_append,←Nat.add_assoc];exact h.1
 · have ht : t = p.2.2.toNat := by simp at hc; omega
   subst ht
   have e:((p.2.2.toNat:Nat):Int)=p.2.2:=by omega
   simp -implicitDefEqProofs (disch:=omega)[qb]
   have e3:max p.2.2 0=p.2.2:=by omega
   simp only [e3,Int.lt_irrefl,decide_false]
   exact hN H2 c2 c3
theorem qj1 {w1 : World} {g1 : G} {E : HE} (hY : YS Tryz.prog E w1 g1) (hR : RS Tryz.prog E) {id : Nat} {W : List UInt8} {J : Nat → List HObj → (Nat → Prop) → Prop} {F : List HObj → Prop} (hA : Ask E id W J F) (d : Dy) (V : DayV d) :
 ∀ (n k : Nat),k < n → k ≤ d.rc.length → ∀ (f : Bool) (l : List Pt),(∀ p ∈ l,qI k p = true) → l.length ≤ 1000000 → ∀ base,(∀ t,t < (spell (spR d.rc) l).length → W[base + t]? = (spell (spR d.rc) l)[t]?) → ∀ H S,J base H S →
   Vr Tryz.prog w1 g1 131 [DyV d,JG f l,.yl id] H fun r H'=>(r=B true∧(J (base+(spell (spR d.rc) l).length) H' S∧∀ i,S i→qr H' i=qr H i))∨(r=B false∧F H'):=by
 intro n
 induction n with
 | zero=>intro k hk;omega
 | succ n ih =>
 intro k hk hkr f l hp hll base hW H S hJ
 have hrl:=V.rl
 refine Yl Tryz.func131 qeI (by kernel_rfl) (by show 3≤_;decide) ?_
 rw [qnc]
 refine Qh hY hR ?_
 simp -implicitDefEqProofs (disch:=omega)[qb,dyC]
 refine ZX (Qh hY hR ?_)
 simp -implicitDefEqProofs (disch:=omega)[qb]
 refine jD ?_
 have el:[Bks d.rc,I d.bath,I d.laid,Pts d.pat,Shs d.sh]=dyC d:=rfl
 simp only [el]
 have x0:=Ext.app H [HObj.cells (dyC d)]
 have b0:qr (H++[HObj.cells (dyC d)]) H.length=some (.cells (dyC d)):=Qn
 have J0:=hA.ext _ H [HObj.cells (dyC d)] S hJ
 have l0:(H++[HObj.cells (dyC d)]).length=H.length+1:=by simp
 rw [l0] at J0
 obtain ⟨a,ea⟩:∃ a,H.length=a:=⟨_,rfl⟩
 rw [ea] at J0 l0 b0 ⊢
 have hSH:∀ H',(∀ i,(S i∨a≤i∧i<a+1)→qr H' i=qr (H++[HObj.cells (dyC d)]) i)→∀ i,S i→qr H' i=qr H i:=fun H' h i hi=>(h i (.inl hi)).trans (qk (hA.lt _ _ _ hJ i hi))
 generalize H++[HObj.cells (dyC d)]=H1 at *
 refine XK (fun q:Nat × List HObj=>⟨[(2,.yl id),(3,.ref a 0),(9,JG f l),(10,I (l.length:Int)),(11,I (q.1:Int))],q.2⟩) (fun q=>q.1≤l.length∧J (base+(spell (spR d.rc) (l.take q.1)).length) q.2 (fun i=>S i∨a≤i∧i<a+1)∧∀ i,(S i∨a≤i∧i<a+1)→qr q.2 i=qr H1 i) (fun q=>l.length - q.1) (0,H1) ⟨Nat.zero_le _,by simpa [spell] using J0,fun _ _=>rfl⟩ (St.le.rfl' _) ?_
 rintro ⟨i,H2⟩ ⟨c1,c2,c3⟩
 simp only at c1 c2 c3 ⊢
 rw [qiY]
 refine Qh hY hR ?_
 simp -implicitDefEqProofs (disch:=omega)[qb]
 refine ZX (XJ (t:=decide (i<l.length)) rfl (fun hc=>ZB hY hR ?_) (fun hc=>ZB hY hR ?_))
 · simp -implicitDefEqProofs (disch := omega) [qb]
   have hi:i<l.length:=by simpa using hc
   rw [hc]
   refine ZX (jD (Qh hY hR ?_))
   simp -implicitDefEqProofs (disch:=omega)[qb,hi,ptC]
   have ep:[U l[i].1,I l[i].2.1,I l[i].2.2]=ptC l[i]:=rfl
   simp only [ep]
   have hpi:=hp _ (List.getElem_mem hi)
   have tm:=Qd hpi
   have x2:=Ext.app H2 [HObj.cells (ptC l[i])]
   have b2:qr (H2++[HObj.cells (ptC l[i])]) H2.length=some (.cells (ptC l[i])):=Qn
   have J2:=hA.ext _ H2 [HObj.cells (ptC l[i])] _ c2
   have l2:(H2++[HObj.cells (ptC l[i])]).length=H2.length+1:=by simp
   rw [l2] at J2
   have lt2:=hA.lt _ _ _ c2
   obtain ⟨b,eb⟩:∃ b,H2.length=b:=⟨_,rfl⟩
   rw [eb] at J2 l2 b2 lt2 ⊢
   have a2:qr (H2++[HObj.cells (ptC l[i])]) a=some (.cells (dyC d)):=(x2.2 a (by rw [eb];exact lt2 a (.inr ⟨Nat.le_refl _,Nat.lt_succ_self _⟩))).trans ((c3 a (.inr ⟨Nat.le_refl _,Nat.lt_succ_self _⟩)).trans b0)
   have k2:∀ j,(S j∨a≤j∧j<a+1)→qr (H2++[HObj.cells (ptC l[i])]) j=qr H1 j:=fun j hj=>(x2.2 j (by rw [eb];exact lt2 j hj)).trans (c3 j hj)
   generalize H2++[HObj.cells (ptC l[i])]=H3 at *
   refine Qh hY hR ?_
   simp -implicitDefEqProofs (disch:=omega)[qb,b2,ptC,qf]
   refine jD ?_
   refine qgE hY hR hA V rfl (WC hpi hkr) (a:=a) (b:=b) (fun hr h0 base' hs H' S' hJ'=>?_) (base:=base+(spell (spR d.rc) (l.take i)).length) (fun t ht u hu=>?_) J2 a2 b2 (.inl (.inr ⟨Nat.le_refl _,Nat.lt_succ_self _⟩)) (.inr ⟨Nat.le_refl _,Nat.lt_succ_self _⟩) (fun H' hJ' hk=>?_) (fun H' hf=>?_)
   · have hrk:l[i].2.1.toNat<k:=by
      rcases zk hpi with ⟨h,_⟩ | ⟨_,_,h⟩ <;> omega
     have eo:qaD (spR d.rc) l[i]=spell (spR d.rc) d.rc[l[i].2.1.toNat].2:=by
      unfold qaD;rw [if_pos h0,qp0 V.recV hr]
     have bl:=(Q6 (V.rb _ hr)).2.2.1
     rw [eo] at hs ⊢
     exact ih l[i].2.1.toNat (by omega) (by omega) false d.rc[l[i].2.1.toNat].2 (V.recV.1 _ hr) (by omega) base' hs H' S' hJ'
   · obtain ⟨R,hR'⟩ := qi0 (spR d.rc) hi ht
     rw [hR',←List.append_assoc] at hW
     have:=qsz hW u hu
     rw [List.length_append,←Nat.add_assoc] at this
     exact this
   · refine ZB hY hR ?_
     have ix:((i:Int)+1)=((i+1:Nat):Int):=by omega
     simp -implicitDefEqProofs (disch:=omega)[qb]
     refine qz (i+1,H') ⟨by simp only;omega,?_,fun j hj=>(hk j (.inl hj)).trans (k2 j hj)⟩ (by simp only;omega) (by simp only [ix])
     rw [qcf hi,List.length_append,←Nat.add_assoc]
     exact hA.sub _ _ _ _ hJ' fun j hj => .inl hj
   · exact .inr ⟨rfl,hf⟩
 · have hi : i = l.length := by simp at hc; omega
   subst hi
   rw [List.take_length] at c2
   simp -implicitDefEqProofs (disch:=omega)[qb]
   refine ZB hY hR ?_
   simp -implicitDefEqProofs (disch:=omega)[qb]
   exact ⟨hA.sub _ _ _ _ c2 fun j hj => .inl hj,hSH _ c3⟩
def R2 (P:Program):AV→List HObj→(List AV→List HObj→(AV→List HObj→Prop)→Prop)→(List HObj→Prop)→Prop:=fun v hp H K0 =>
 ∃ f caps,v = .fn (.func f) [] caps∧Wu P f=true∧∀ (w1:World) (g1:G),(∀ xs hp' K',H xs hp' K'→qqM P w1 g1 hp.length xs hp' K')→Vr P w1 g1 f (.yl hp.length::caps) (hp++[.lp .ready (hp.length+1),.gone]) fun _ hp'=>K0 hp'
def E2 (P:Program):HE:=⟨noY,R2 P⟩
theorem quz {P:Program}:RS P (E2 P):=fun v hp H K0 h=>h
theorem qvg {P:Program} {w1 g1}:YS P (E2 P) w1 g1:=fun _ _ _ _ h=>h.elim
theorem qu2 {P : Program} {f : FuncId} {fn : Func} {ac : AC} {ts : List Nat} {xs : List AV} {hp : List HObj} {K : AV → List HObj → Prop} (hf : P.funcs[f]? = some fn) (hc : qo P fn ts = some ac)
 (hr:JO fn.results.toList=some ts) (hl:xs.length≤fn.ntmps) (h:AWP P (E2 P) ac { fr:=YK 0 xs,hp:=hp } (qfB ts K)):zG P f xs hp K :=
 qjs fun w1 g1=>Yl hf hc hr hl (ZB qvg quz h)
theorem qqq {P:Program} {E:HE} {x:AC} {fr:List (Nat × AV)} {hp:List HObj} {Q:Exit→St→Prop}:AWP P E (.scope x) ⟨fr,hp⟩ Q=AWP P E x ⟨fr,hp⟩ (Exit.ng Q):=rfl
theorem qao {d:Dy} {f:Bool} {l:List Pt} {H:List HObj} {K:AV→List HObj→Prop} (hK:K (.fn (.func 130) [] [.ref H.length 0,.ref (H.length+1) 0]) (H++[.cells (dyC d),.cells [JG f l]])):zG Tryz.prog 88 [DyV d,JG f l] H K:=by
 refine walk Tryz.func88 qbg (by kernel_rfl) (by show 2≤_;decide) ?_
 simp -implicitDefEqProofs (disch:=omega)[XD,qb,dyC]
 exact hK
theorem qfp:Vu = .rgn [⟨none,[(.ld 4 true 5 (.t 1)),(.ld 5 false 1 (.t 2)),(.mv 6 (.t 0))]++[.call 7 131 [(.t 4),(.t 5),(.t 6)]]⟩] []:=rfl
theorem qfq {d : Dy} (V : DayV d) {f : Bool} {l : List Pt} (hp : ∀ p ∈ l,qI d.rc.length p = true) (hl : l.length ≤ 1000000) {H0 : List HObj} {a : Nat} (ha : qr H0 a = some (.cells (dyC d))) (hb : qr H0 (a + 1) = some (.cells [JG f l]))
 {Hy:List AV→List HObj→(AV→List HObj→Prop)→Prop} {J:Nat→List HObj→(Nat→Prop)→Prop} {F:List HObj→Prop}
 (ext:∀ j H os S,J j H S→J j (H++os) (fun i=>S i∨(H.length≤i∧i<(H++os).length)))
 (sub:∀ j H (S S':Nat→Prop),J j H S→(∀ i,S' i→S i)→J j H S') (lt:∀ j H S,J j H S→∀ i,S i→i<H.length)
 (yl:∀ j H S (h:j<(spell (spR d.rc) l).length),J j H S→Hy [U ((spell (spR d.rc) l)[j].toNat:Int)] H fun r H'=>(r=B true∧(J (j+1) H' S∧∀ i,S i→qr H' i=qr H i))∨(r=B false∧F H'))
 {S:Nat→Prop} (h0:J 0 (H0++[.lp .ready (H0.length+1),.gone]) S) :
 (E2 Tryz.prog).R (.fn (.func 130) [] [.ref a 0,.ref (a+1) 0]) H0 Hy fun H'=>(J (spell (spR d.rc) l).length H' S∧∀ i,S i→qr H' i=qr (H0++[.lp .ready (H0.length+1),.gone]) i)∨F H':=by
 refine ⟨130,[.ref a 0,.ref (a+1) 0],rfl,by kernel_rfl,fun w1 g1 hy=>?_⟩
 have hY:YS Tryz.prog ⟨fun i xs H K=>i=H0.length∧Hy xs H K,noR⟩ w1 g1:=fun i xs H K ⟨e,hh⟩=>by subst e;exact hy xs H K hh
 refine Yl Tryz.func130 Xd (by kernel_rfl) (by show 3≤_;decide) ?_
 rw [qfp]
 refine qlC hY ?_
 have a1:=(qk (k:=[HObj.lp .ready (H0.length+1),HObj.gone]) (qj ha)).trans ha
 have b1:=(qk (k:=[HObj.lp .ready (H0.length+1),HObj.gone]) (qj hb)).trans hb
 generalize H0++[HObj.lp .ready (H0.length+1),HObj.gone]=H1 at *
 simp -implicitDefEqProofs (disch:=omega)[qb,a1,b1,qf,dyC]
 have el:[Bks d.rc,I d.bath,I d.laid,Pts d.pat,Shs d.sh]=dyC d:=rfl
 simp only [el]
 have hA:Ask ⟨fun i xs H K=>i=H0.length∧Hy xs H K,noR⟩ H0.length (spell (spR d.rc) l) J F:=⟨ext,sub,lt,fun j H S h hj=>⟨rfl,yl j H S h hj⟩⟩
 refine V8 (fun r H' hq=>?_) (qj1 hY qkE hA d V (d.rc.length+1) d.rc.length (by omega) (Nat.le_refl _) f l hp hl 0 (fun t ht=>by rw [Nat.zero_add]) H1 S h0)
 rcases hq with ⟨_,h⟩ | ⟨_,h⟩
 · rw [Nat.zero_add] at h;exact .inl h
 · exact .inr h
def qfR (s:List UInt8) (c:UInt8):Bool:=decide (s.getLast?=some c)
theorem Xq {s:List UInt8} {c:UInt8}:qfR s c=true↔s=s.take (s.length - 1)++[c]:=by
 unfold qfR
 rw [decide_eq_true_iff]
 cases hs:s.reverse with
 | nil =>
   have:s=[]:=by simpa using hs
   subst this;simp
 | cons b r =>
   have e:s=r.reverse++[b]:=by have:=congrArg List.reverse hs;simpa using this
   rw [e]
   have e2:(r.reverse++[b]).take ((r.reverse++[b]).length - 1)=r.reverse:=by simp
   rw [e2]
   simp
theorem qci (c : UInt8) : ∀ s : List UInt8,qM c (s ++ [c]) = qM c s ++ [[]]
 | []=>by simp [qM]
 | b::r=>by
   have ih:=qci c r
   rw [List.cons_append]
   conv=>lhs;unfold qM
   conv=>rhs;unfold qM
   by_cases hb:b=c
   · rw [if_pos hb,if_pos hb,ih];rfl
   · rw [if_neg hb,if_neg hb,ih]
     cases hs:qM c r with
     | nil=>exact absurd hs (Jz c r)
     | cons w ws=>rfl
theorem qai (s:List UInt8) (c:UInt8) (hs:s.length≤1000000):qC Tryz.prog 177 [S s,S [c]] (B (qfR s c)):=by
 refine qT (walk Tryz.func177 Wn (by kernel_rfl) (by show 2≤_;decide) ?_)
 simp -implicitDefEqProofs (disch:=omega)[YR,qb]
 cases s with
 | nil =>
   simp -implicitDefEqProofs (disch:=omega)[qb,qfR]
   try exact ⟨[],rfl⟩
 | cons b r =>
   simp only [List.length_cons] at hs
   have e1:(((b::r).length:Int) - 1).toNat=(b::r).length - 1:=by simp only [List.length_cons];omega
   have e:qfR (b::r) c=((b::r).drop ((b::r).length - 1)==[c]):=by
    cases h:qfR (b::r) c with
    | true =>
      symm;rw [beq_iff_eq]
      have:=Xq.1 h
      conv=>lhs;arg 2;rw [this]
      rw [List.drop_append_of_le_length (by simp)]
      simp
    | false =>
      symm;rw [beq_eq_false_iff_ne]
      intro e
      have : qfR (b :: r) c = true := Xq.2 (by
       conv=>lhs;rw [←List.take_append_drop ((b::r).length - 1) (b::r)]
       rw [e])
      rw [h] at this;cases this
   rw [e]
   generalize hl:b::r=l at *
   have hlen:l.length=r.length+1:=by rw [←hl];rfl
   have hge:(1:Int)≤(l.length:Int):=by omega
   simp -implicitDefEqProofs (disch:=omega)[qb,hge]
theorem qah (s:List UInt8) (c:UInt8) (hs:s.length≤1000000):qC Tryz.prog 161 [S s,S [c]] (.tup [S (if qfR s c then s.take (s.length - 1) else s),B (qfR s c)]):=by
 refine qT (walk Tryz.func161 Wm (by kernel_rfl) (by show 2≤_;decide) ?_)
 simp -implicitDefEqProofs (disch:=omega)[YQ,qb]
 refine qg (ys:=[S s,S [c]]) (ids:=[]) rfl (qai s c hs) ?_
 cases h:qfR s c with
 | false =>
   simp -implicitDefEqProofs (disch:=omega)[qb,AV.scalar]
   try exact ⟨[],rfl⟩
 | true =>
   have hp:1≤s.length:=by
    have:=congrArg List.length (Xq.1 h)
    simp only [List.length_append,List.length_cons,List.length_nil] at this;omega
   have hp':(1:Int)≤(s.length:Int):=by omega
   have e1:((s.length:Int) - 1).toNat=s.length - 1:=by omega
   simp -implicitDefEqProofs (disch:=omega)[qb,AV.scalar,hp',e1]
   try exact ⟨[],rfl⟩
theorem qbl (s:List UInt8) (c:UInt8) (hs:s.length≤1000000):qC Tryz.prog 141 [S s,S [c]] (.tup [S (if qfR s c then s.take (s.length - 1) else s),B (qfR s c)]):=by
 refine qT (walk Tryz.func141 Xb (by kernel_rfl) (by show 2≤_;decide) ?_)
 simp -implicitDefEqProofs (disch:=omega)[Vs,qb]
 refine qg (ys:=[S s,S [c]]) (ids:=[]) rfl (qah s c hs) ?_
 simp -implicitDefEqProofs (disch:=omega)[qb,AV.scalar]
 try exact ⟨[],rfl⟩
theorem qiu (s:List UInt8) (hs:s.length≤1000000):qC Tryz.prog 114 [S s] (.tup [qqK (qaw s),I (V0 s)]):=by
 refine zO (walk Tryz.func114 qeG (by kernel_rfl) (by show 1≤_;decide) ?_)
 simp -implicitDefEqProofs (disch:=omega)[qdW,qb]
 have bad : ∀ (e : Int) (H : List HObj) (h : V0 s = e) (h0 : e ≠ 0),qi7 (.tup [qqK (qaw s),I (V0 s)]) (.tup [.sl true 0 [],I e]) H := fun e H h h0 => by
  have:qaw s=[]:=if_neg (by rw [h];exact h0)
  rw [this,h]
  exact qG (r' := .tup [.sl true 0 [],I e]) (is:=[]) rfl (.tupL (.cons .slf (.cons (.refl _) .nil)))
 by_cases hbig:65536<s.length
 case pos =>
  have hbig':(65536<(s.length:Int))=True:=by simp only [eq_iff_iff,iff_true];omega
  simp -implicitDefEqProofs (disch:=omega)[qb,hbig']
  exact bad 7 _ (if_pos hbig) (by decide)
 have hbig':(65536<(s.length:Int))=False:=by simp only [eq_iff_iff,iff_false];omega
 simp -implicitDefEqProofs (disch:=omega)[qb,hbig']
 by_cases hs0:s=[]
 · subst hs0
   simp -implicitDefEqProofs (disch:=omega)[qb]
   exact qG (r' := .tup [.sl true 0 [],I 0]) (is:=[]) rfl (.tupL (.cons .slf (.cons (.refl _) .nil)))
 have hs0':s.isEmpty=false:=by cases s with
  | nil=>exact absurd rfl hs0
  | cons b r=>rfl
 simp -implicitDefEqProofs (disch:=omega)[qb,hs0']
 refine qg (ys:=[S s,S [10]]) (ids:=[]) rfl (qbl s 10 hs) ?_
 have ho:qpi s = !qfR s 10:=by
  unfold qpi qfR
  cases h:s.getLast? with
  | none=>exact absurd (List.getLast?_eq_none_iff.1 h) hs0
  | some b =>
    by_cases e:b=10
    · subst e;simp
    · simp [e]
 cases he:qfR s 10 with
 | false =>
   simp -implicitDefEqProofs (disch:=omega)[qb,AV.scalar]
   exact bad 8 _ (by unfold V0;rw [if_neg hbig,ho,he];rfl) (by decide)
 | true =>
 have hS:=Xq.1 he
 have hbl:(s.take (s.length - 1)).length≤1000000:=by rw [List.length_take];omega
 have hsp:(qM 10 s).dropLast=qM 10 (s.take (s.length - 1)):=by
  conv=>lhs;rw [hS]
  rw [qci,List.dropLast_concat]
 have hne:∀ x,x∈[S []]→True:=fun _ _=>trivial
 generalize s.take (s.length - 1)=b at *
 simp -implicitDefEqProofs (disch:=omega)[qb,AV.scalar]
 refine qg (ys:=[S b,S [10]]) (ids:=[]) rfl (qbT b 10 hbl) ?_
 have hl1:=(YC (c:=10) (s:=b)).1
 by_cases h4:400<(qM 10 b).length
 · have h4' : ((400 : Int) < ((qM 10 b).length : Int)) = True := by simp only [eq_iff_iff,iff_true]; omega
   simp -implicitDefEqProofs (disch:=omega)[qb,AV.scalar,h4']
   exact bad 6 _ (by unfold V0;rw [if_neg hbig,ho,he,hsp];simp [h4]) (by decide)
 · have h4' : ((400 : Int) < ((qM 10 b).length : Int)) = False := by simp only [eq_iff_iff,iff_false]; omega
   have hE:V0 s=0:=by unfold V0;rw [if_neg hbig,ho,he,hsp];simp [h4]
   have hL:qaw s=qM 10 b:=by unfold qaw;rw [if_pos hE,hsp]
   rw [hE,hL]
   simp -implicitDefEqProofs (disch:=omega)[qb,AV.scalar,h4']
   exact qG (is:=[]) rfl (.refl _)
end Go.AM
