/-
  Kc6: texts joined: So6 So7 So8 So9 So10 So11 So12 So13 Ce23 Ce24 FmCL Lc1 Lc3 Wk1 Wk2 ArC. Own work.
-/
import Derived.Test.YtfpfnlnmilndmaaGreatDoorKc5
import Derived.Test.YtfpfnlnmilndmaaGreatDoorProg
import Derived.Test.YtfpfnlnmilndmaaGreatDoorRows
import Derived.Lib.LaidTab
import Derived.Stop.LaidErr
import Derived.Deep.DeepHandedRow
set_option linter.unusedSimpArgs false
set_option linter.unusedVariables false

namespace Go.AM
open Go.RowKit Go.Proofs
theorem w_ids_of {P : Program} {F : Nat → AV} {hp : List HObj} {K : AV → List (Nat × HObj) → Prop} {d : Nat} {x i : Opd} {s : ByteArray} {k : IntKind} {j : Nat} {b : UInt8} (hx : evF F x = .v (.string s)) (hi : evF F i = .v (.int k (j : Int))) (hb : s[j]? = some b) (h : K (.v (.int .u8 b.toNat)) []) : (AOp.ids d x i).wp P F hp K := by
 refine ⟨_,[],?_,h⟩
 simp only [AOp.sem,hx,hi]
 exact ⟨by omega,⟨b,by simpa using hb,rfl⟩,trivial⟩
def lenT : ByteArray := ⟨#[0,1,2,2,3,3,3,3,4,4,4,4,4,4,4,4,5,5,5,5,5,5,5,5,5,5,5,5,5,5,5,5,6,6,6,6,6,6,6,6,6,6,6,6,6,6,6,6,6,6,6,6,6,6,6,6,6,6,6,6,6,6,6,6,7,7,7,7,7,7,7,7,7,7,7,7,7,7,7,7,7,7,7,7,7,7,7,7,7,7,7,7,7,7,7,7,7,7,7,7,7,7,7,7,7,7,7,7,7,7,7,7,7,7,7,7,7,7,7,7,7,7,7,7,7,7,7,7,8,8,8,8,8,8,8,8,8,8,8,8,8,8,8,8,8,8,8,8,8,8,8,8,8,8,8,8,8,8,8,8,8,8,8,8,8,8,8,8,8,8,8,8,8,8,8,8,8,8,8,8,8,8,8,8,8,8,8,8,8,8,8,8,8,8,8,8,8,8,8,8,8,8,8,8,8,8,8,8,8,8,8,8,8,8,8,8,8,8,8,8,8,8,8,8,8,8,8,8,8,8,8,8,8,8,8,8,8,8,8,8,8,8,8,8,8,8,8,8,8,8,8,8,8,8,8,8]⟩
theorem lenT_size : lenT.size = 256 := by decide +kernel
theorem ba_getD (S : ByteArray) (n : Nat) (h : n < S.size) : S.data[n]?.getD 0 = S[n] := by
 have h2 : n < S.data.size := h
 rw [Array.getElem?_eq_getElem h2]; rfl
def lenB (n : Nat) : Nat := (lenT.data[n]?.getD 0).toNat
theorem lenB_all : (List.range 256).all (fun n => decide (lenB n ≤ 8) && (decide (n = 0) || decide (2 ^ lenB n ≤ 2 * n)) && decide (n < 2 ^ lenB n)) = true := by decide +kernel
theorem lenB_ok {n : Nat} (h : n < 256) : lenB n ≤ 8 ∧ (0 < n → 2 ^ lenB n ≤ 2 * n) ∧ n < 2 ^ lenB n := by
 have := List.all_eq_true.1 lenB_all n (List.mem_range.2 h)
 simp only [Bool.and_eq_true,Bool.or_eq_true,decide_eq_true_eq] at this
 exact ⟨this.1.1,fun h0 => by rcases this.1.2 with h | h <;> omega,this.2⟩
def lenN (n : Nat) : Nat := if n < 256 then lenB n else lenB (n / 256) + 8
theorem lenN_ok {n : Nat} (h : n < 65536) (h0 : 0 < n) : lenN n ≤ 16 ∧ 2 ^ lenN n ≤ 2 * n ∧ n < 2 ^ lenN n := by
 unfold lenN
 split
 · rename_i h1
   obtain ⟨a,b,c⟩ := lenB_ok h1
   exact ⟨by omega,b h0,c⟩
 · obtain ⟨a,b,c⟩ := lenB_ok (n := n / 256) (by omega)
   have b := b (by omega)
   rw [Nat.pow_add]
   generalize 2 ^ lenB (n / 256) = x at *
   exact ⟨by omega,by omega,by omega⟩
theorem wrap_u8 {n : Nat} (h : n < 256) : IntKind.u8.wrap (n : Int) = n := by
 simp [IntKind.wrap,IntKind.bits,IntKind.signed]
 omega
theorem wrap_u64 {n : Nat} (h : n < 1000000) : IntKind.u64.wrap (n : Int) = n := by
 simp [IntKind.wrap,IntKind.bits,IntKind.signed]
 omega
set_option maxRecDepth 100000 in
theorem b_Len64_ok (n : Nat) (hn : n < 65536) : PureOK Tryz.prog n_b_Len64 [W64 n] (I (lenN n : Nat)) := by
 have c1 : ((4294967296 : Int) ≤ (n : Int)) = False := by simp only [eq_iff_iff,iff_false]; omega
 have c2 : ((65536 : Int) ≤ (n : Int)) = False := by simp only [eq_iff_iff,iff_false]; omega
 refine pure_of (walk func_b_Len64 form_b_Len64 res_b_Len64 (by show 1 ≤ _; decide) ?_)
 by_cases h256 : n < 256
 · have c3 : ((256 : Int) ≤ (n : Int)) = False := by simp only [eq_iff_iff,iff_false]; omega
   have c4 : IntKind.u8.wrap (n : Int) = n := wrap_u8 h256
   have hs : n < lenT.size := by rw [lenT_size]; exact h256
   have e1 : lenT[n] = lenT.data[n]?.getD 0 := (ba_getD lenT n hs).symm
   have eL : lenN n = lenB n := by unfold lenN; rw [if_pos h256]
   have l8 := (lenB_ok h256).1
   rw [eL]
   generalize hr : ((lenB n : Nat) : Int) = r
   have r8 : 0 ≤ r ∧ r ≤ 8 := by omega
   simp -implicitDefEqProofs (disch := omega) [G_b_Len64,wrap_id,c1,c2,c3,c4]
   refine w_ids_of (s := lenT) (j := n) (b := lenT[n]) (k := .u8) rfl rfl (getElem?_pos lenT n hs) ?_
   have e2 : ((lenT[n]).toNat : Int) = r := by rw [e1,← hr]; rfl
   rw [e2]
   simp -implicitDefEqProofs (disch := omega) [wrap_id]
 · have c3 : ((256 : Int) ≤ (n : Int)) = True := by simp only [eq_iff_iff,iff_true]; omega
   have hq : n / 256 < 256 := by omega
   have c4 : IntKind.u8.wrap ((n / 256 : Nat) : Int) = (n / 256 : Nat) := wrap_u8 hq
   have c5 : IntKind.u64.wrap ((n / 256 : Nat) : Int) = (n / 256 : Nat) := wrap_u64 (by omega)
   have hs : n / 256 < lenT.size := by rw [lenT_size]; exact hq
   have eL : lenN n = lenB (n / 256) + 8 := by unfold lenN; rw [if_neg h256]
   have l8 := (lenB_ok hq).1
   have fd : ((n : Int)).fdiv (2 ^ min 8 IntKind.u64.bits) = ((n / 256 : Nat) : Int) := by
    rw [show (2 : Int) ^ min 8 IntKind.u64.bits = 256 from rfl,Int.fdiv_eq_ediv_of_nonneg _ (by omega)]; rfl
   rw [eL]
   obtain ⟨r,hr⟩ : ∃ r : Int,((lenB (n / 256) : Nat) : Int) = r := ⟨_,rfl⟩
   have r8 : 0 ≤ r ∧ r ≤ 8 := by omega
   have eR : ((lenB (n / 256) + 8 : Nat) : Int) = 8 + r := by omega
   rw [eR]
   obtain ⟨x,hx⟩ : ∃ x,n / 256 = x := ⟨_,rfl⟩
   rw [hx] at hq c4 c5 hs fd hr
   simp -implicitDefEqProofs (disch := omega) [G_b_Len64,wrap_id,c1,c2,c3,c4,c5,fd]
   refine w_ids_of (s := lenT) (j := x) (b := lenT[x]'hs) (k := .u8) rfl rfl (getElem?_pos lenT x hs) ?_
   have e2 : ((lenT[x]'hs).toNat : Int) = r := by
    have e1 := ba_getD lenT x hs
    rw [← hr,← e1]; rfl
   rw [e2]
   simp -implicitDefEqProofs (disch := omega) [wrap_id]
theorem b_Len_ok (n : Nat) (hn : n < 65536) : PureOK Tryz.prog n_b_Len [W64 n] (I (lenN n : Nat)) := by
 refine pure_of (walk func_b_Len form_b_Len res_b_Len (by show 1 ≤ _; decide) ?_)
 simp -implicitDefEqProofs (disch := omega) [G_b_Len,wrap_id]
 refine callW_pure rfl (b_Len64_ok n hn) ?_
 simp -implicitDefEqProofs (disch := omega) [wrap_id]
theorem s_npow_ok (n : Nat) (hn : n < 5000) (h0 : 0 < n) : PureOK Tryz.prog n_s_nextPowerOfTwo [I (n : Int)] (W64 (2 ^ lenN n)) := by
 obtain ⟨l1,l2,l3⟩ := lenN_ok (n := n) (by omega) h0
 have c1 : IntKind.u64.wrap (n : Int) = n := wrap_u64 (by omega)
 refine pure_of (walk func_s_nextPowerOfTwo form_s_nextPowerOfTwo res_s_nextPowerOfTwo (by show 1 ≤ _; decide) ?_)
 simp -implicitDefEqProofs (disch := omega) [G_s_nextPowerOfTwo,wrap_id,c1]
 refine callW_pure rfl (b_Len_ok n (by omega)) ?_
 have e : IntKind.u64.wrap ((1 : Int) * 2 ^ (min ((lenN n : Nat) : Int).toNat IntKind.u64.bits)) = ((2 ^ lenN n : Nat) : Int) := by
  have : min ((lenN n : Nat) : Int).toNat IntKind.u64.bits = lenN n := by
   show min ((lenN n : Nat) : Int).toNat 64 = lenN n
   rw [Int.toNat_natCast]; omega
  rw [this,Int.one_mul,show ((2 : Int) ^ lenN n) = ((2 ^ lenN n : Nat) : Int) from by rw [Int.natCast_pow]; rfl]
  exact wrap_u64 (by omega)
 have sh : ∀ {K : AV → List (Nat × HObj) → Prop},BinW .shl (.v (.int .u64 1)) (I (lenN n : Nat)) K = K (W64 (2 ^ lenN n)) [] := fun {K} => by
  rw [b_shl (by omega),e]
 generalize 2 ^ lenN n = y at *
 simp -implicitDefEqProofs (disch := omega) [wrap_id,-b_shl,sh]
theorem mask_ok {z : Int} {m : Nat} (hm : m < 1000000) : ∃ v : Nat,v ≤ m ∧ IntKind.u64.wrap ((BitVec.ofInt IntKind.u64.bits z &&& BitVec.ofInt IntKind.u64.bits (m : Int)).toNat : Int) = (v : Int) := by
 refine ⟨(BitVec.ofInt IntKind.u64.bits z &&& BitVec.ofInt IntKind.u64.bits (m : Int)).toNat,?_,?_⟩
 · rw [BitVec.toNat_and]
   refine Nat.le_trans Nat.and_le_right ?_
   rw [BitVec.toNat_ofInt]
   show (((m : Int) % (2 ^ 64 : Nat)).toNat) ≤ m
   omega
 · have h1 : (BitVec.ofInt IntKind.u64.bits z &&& BitVec.ofInt IntKind.u64.bits (m : Int)).toNat ≤ m := by
    rw [BitVec.toNat_and]
    refine Nat.le_trans Nat.and_le_right ?_
    rw [BitVec.toNat_ofInt]
    show (((m : Int) % (2 ^ 64 : Nat)).toNat) ≤ m
    omega
   exact wrap_u64 (by omega)
structure Rn (hp : List HObj) (sp : Nat) (H : List HObj) (z : Int) : Prop where
 len : hp.length ≤ H.length
 oth : ∀ j,j ≠ sp → nthH H j = nthH hp j
 at' : nthH H sp = some (.cells [.v (.int .u64 z)])
theorem u_any {op : BinOp} {a b : Int} {K : AV → List (Nat × HObj) → Prop} (ho : op = .xor ∨ (op = .shl ∧ 0 ≤ b) ∨ (op = .shr ∧ 0 ≤ b)) (h : ∀ x,K (.v (.int .u64 x)) []) : BinW op (.v (.int .u64 a)) (.v (.int .u64 b)) K := by
 rcases ho with rfl | ⟨rfl,hb⟩ | ⟨rfl,hb⟩
 · rw [b_xor]; exact h _
 · rw [b_shl hb]; exact h _
 · rw [b_shr hb]; exact h _
set_option maxHeartbeats 2000000 in
theorem s_xor_w {hp : List HObj} {sp : Nat} {z : Int} {K : AV → List HObj → Prop} (hs : nthH hp sp = some (.cells [.v (.int .u64 z)]))
 (hK : ∀ H z',Rn hp sp H z' → K (.v (.int .u64 z')) H) : CallW Tryz.prog n_s_xorshiftNext [.ref sp 0] hp K := by
 have ls := nthH_lt hs
 have s3 : ∀ o,nthH (hp.set sp o) sp = some o := fun o => nthH_set_same ls
 refine walk func_s_xorshiftNext form_s_xorshiftNext res_s_xorshiftNext (by show 1 ≤ _; decide) ?_
 simp -implicitDefEqProofs (disch := omega) [G_s_xorshiftNext,cmp2,nthT,hs,ldr_some,ls,s3,-b_xor,-b_shl,-b_shr]
 refine u_any (by simp) fun x1 => ?_
 simp -implicitDefEqProofs (disch := omega) [cmp2,nthT,hs,ldr_some,ls,s3,-b_xor,-b_shl,-b_shr]
 refine u_any (by simp) fun x2 => ?_
 simp -implicitDefEqProofs (disch := omega) [cmp2,nthT,hs,ldr_some,ls,s3,-b_xor,-b_shl,-b_shr]
 refine u_any (by simp) fun x3 => ?_
 simp -implicitDefEqProofs (disch := omega) [cmp2,nthT,hs,ldr_some,ls,s3,-b_xor,-b_shl,-b_shr]
 refine u_any (by simp) fun x4 => ?_
 simp -implicitDefEqProofs (disch := omega) [cmp2,nthT,hs,ldr_some,ls,s3,-b_xor,-b_shl,-b_shr]
 refine u_any (by simp) fun x5 => ?_
 simp -implicitDefEqProofs (disch := omega) [cmp2,nthT,hs,ldr_some,ls,s3,-b_xor,-b_shl,-b_shr]
 refine u_any (by simp) fun x6 => ?_
 simp -implicitDefEqProofs (disch := omega) [cmp2,nthT,hs,ldr_some,ls,s3,-b_xor,-b_shl,-b_shr]
 exact hK _ _ ⟨by simp,fun j hj => nthH_set_ne (Ne.symm hj),nthH_set_same ls⟩
set_option maxHeartbeats 8000000 in
theorem s_breakT_w {hp : List HObj} {id a b n : Nat} {l : List Nat} {K : AV → List HObj → Prop} (hd : nthH hp id = some (.cells (cW l))) (hn : n = l.length) (hl : l.length ≤ 4900) (ha : a + 4 ≤ b) (hb : b ≤ n)
 (hK : ∀ H Q,Sw hp id l H Q → K (.tup []) H) : CallW Tryz.prog n_s_breakPatternsOrderedT [.ms id 0 n 1,I (a : Int),I (b : Int)] hp K := by
 subst hn
 have lt := nthH_lt hd
 obtain ⟨d,rfl⟩ : ∃ d,b = a + d := ⟨b - a,by omega⟩
 have ed : ((a + d : Nat) : Int) - (a : Int) = (d : Int) := by omega
 have cd : IntKind.u64.wrap (d : Int) = d := wrap_u64 (by omega)
 obtain ⟨l1,l2,l3⟩ := lenN_ok (n := d) (by omega) (by omega)
 refine walk func_s_breakPatternsOrderedT form_s_breakPatternsOrderedT res_s_breakPatternsOrderedT (by show 3 ≤ _; decide) ?_
 generalize hz : ((a + d : Nat) : Int) = z at ed ⊢
 simp -implicitDefEqProofs (disch := omega) [G_s_breakPatternsOrderedT,wrap_id,ed]
 refine c_split (fun hc => ?_) (fun hc => ?_)
 · have hc : 8 ≤ d := by simp at hc; omega
   simp -implicitDefEqProofs (disch := omega) [wrap_id,cd]
   refine callW_pure rfl (s_npow_ok d (by omega) (by omega)) ?_
   generalize 2 ^ lenN d = M at *
   obtain ⟨x0,hx0⟩ : ∃ x0 : Nat,x0 = a + d / 4 * 2 - 1 := ⟨_,rfl⟩
   have ex0 : (a : Int) + (d : Int) / 4 * 2 - 1 = (x0 : Int) := by omega
   simp -implicitDefEqProofs (disch := omega) [wrap_id]
   rw [ex0]
   obtain ⟨N,hN⟩ : ∃ N,N = M - 1 := ⟨_,rfl⟩
   have sb : ∀ {K : AV → List (Nat × HObj) → Prop},BinW .sub (W64 M) (.v (.int .u64 1)) K = K (W64 N) [] := fun {K} => by rw [uw_sub (by omega) (by omega),hN]
   have hne : id ≠ hp.length := by omega
   refine loop_of (fun q : Nat × Int × List HObj × List Nat => ⟨[(0,.ms id 0 l.length 1),(1,I (a : Int)),(6,I (d : Int)),(7,.ref hp.length 0),(8,W64 M),(9,I (q.1 : Int))],q.2.2.1⟩)
    (fun q => x0 ≤ q.1 ∧ q.1 ≤ x0 + 3 ∧ Sw hp id l q.2.2.1 q.2.2.2 ∧ nthH q.2.2.1 hp.length = some (.cells [.v (.int .u64 q.2.1)])) (fun q => x0 + 3 - q.1) (x0,(d : Int),hp ++ [.cells [.v (.int .u64 (d : Int))]],l) ⟨Nat.le_refl _,by simp only; omega,⟨by simp,fun j hj _ => nthH_front hj,(nthH_front lt).trans hd,.refl _⟩,(app_newK).2.1⟩ (le_sub (by simp)) ?_
   rintro ⟨x,z,H,Q⟩ ⟨c0,c1,sw,c2⟩
   simp only at c0 c1 sw c2 ⊢
   have lQ := sw.qlen
   refine hideK' fun K0 hK0 => ?_
   simp -implicitDefEqProofs (disch := omega) [wrap_id]
   refine c_split (fun hc2 => ?_) (fun hc2 => ?_)
   · have hc2 : x < x0 + 3 := by simp at hc2; omega
     have xx : ((x : Int) + 1) = ((x + 1 : Nat) : Int) := by omega
     simp -implicitDefEqProofs (disch := omega) [wrap_id]
     refine s_xor_w c2 fun H1 z' r1 => ?_
     have sw1 : Sw hp id l H1 Q := ⟨Nat.le_trans sw.len r1.len,fun j hj hj2 => by rw [r1.oth j (by omega)]; exact sw.oth j hj hj2,by rw [r1.oth id hne]; exact sw.at',sw.perm⟩
     have la := nthH_lt sw1.at'
     have s3 : ∀ o,nthH (H1.set id o) id = some o := fun o => nthH_set_same la
     simp -implicitDefEqProofs (disch := omega) [wrap_id,-b_sub,-b_and,sb]
     obtain ⟨v,hv,ev⟩ := mask_ok (z := z') (m := N) (by omega)
     rw [b_and,ev]
     simp -implicitDefEqProofs (disch := omega) [wrap_id]
     refine cb_post (fun o : Nat × List (Nat × AV) => ⟨(0,.ms id 0 l.length 1) :: (1,I (a : Int)) :: (6,I (d : Int)) :: (7,.ref hp.length 0) :: (8,W64 M) :: (9,I (x : Int)) :: (10,I (o.1 : Int)) :: o.2,H1⟩) (fun o => o.1 < d) (fun o ho => ?_) (fun F' hF' => ?_)
     rotate_left
     · refine c_split (fun hc3 => ?_) (fun hc3 => ?_)
       · have hc3 : d ≤ v := by simpa using hc3
         obtain ⟨o,ho⟩ : ∃ o,o = v - d := ⟨_,rfl⟩
         have eo : (v : Int) - (d : Int) = (o : Int) := by omega
         simp -implicitDefEqProofs (disch := omega) [wrap_id]
         rw [eo]
         exact hF' (o,_) (by simp only; omega)
       · have hc3 : v < d := by simpa using hc3
         simp -implicitDefEqProofs (disch := omega) [wrap_id]
         exact hF' (v,_) hc3
     obtain ⟨o,ex⟩ := o
     simp only at ho ⊢
     have e1 := cW_at (l := Q) (i := x) (by omega)
     have e0 := cW_at (l := Q) (i := a + o) (by omega)
     have y0 : ((a : Int) + (o : Int)).toNat = a + o := by omega
     have p1 := cW_put (l := Q) (i := x) (v := gN Q (a + o)) (by omega)
     have p2 := cW_put2 (l := Q) (i := x) (j := a + o) (v := gN Q (a + o)) (by omega)
     have sw2 := sw1.swap (i := x) (j := a + o) (by omega) (by omega)
     simp -implicitDefEqProofs (disch := omega) [wrap_id,cmp2,nthT,sw1.at',e1,e0,y0,cW_len,lQ,la,s3,p1,p2]
     repeat (refine And.intro (by omega) ?_)
     rw [hK0]
     exact next_eq (x + 1,z',_,_) ⟨by simp only; omega,by simp only; omega,sw2,by simp only; rw [nthH_set_ne (by omega)]; exact r1.at'⟩ (by simp only; omega) (by simp only [xx])
   · subst hK0
     simp -implicitDefEqProofs (disch := omega) [wrap_id]
     exact hK _ _ sw
 · simp -implicitDefEqProofs (disch := omega) [wrap_id]
   exact hK _ _ (.refl hd)
end Go.AM

namespace Go.AM
open Go.RowKit Go.Proofs
theorem seq_post {α : Type} {P : Program} {E : HE} {x y : AC} {st : St} {Q : Exit → St → Prop} (fr : α → St) (post : α → Prop) (h1 : ∀ q,post q → AWP P E y (fr q) Q) (h2 : ∀ F' : St → Prop,(∀ q,post q → F' (fr q)) → AWP P E x st (Exit.th F' Q)) : AWP P E (.seq x y) st Q := h2 _ h1
theorem gd_post {α : Type} {P : Program} {E : HE} {c b : Bool} {os : List AOp} {gs : List Grp} {st : St} {d : Opd} {x y : AC} {ks : List Nat} {F : St → Prop} {R : Exit → St → Prop} (fr : α → St) (post : α → Prop) (h1 : ∀ q,post q → F (fr q)) (h2 : ∀ F' : St → Prop,(∀ q,post q → F' (fr q)) → GdB P E c b os gs st (fun st => AWP P E (.cond d x y) (st.keep ks) (Exit.th F' R))) : GdB P E c b os gs st (fun st => AWP P E (.cond d x y) (st.keep ks) (Exit.th F R)) := h2 F h1
set_option maxHeartbeats 8000000 in
theorem s_pdqT_w : ∀ (N : Nat) {hp : List HObj} {id a b n lim : Nat} {l : List Nat} {K : AV → List HObj → Prop} (_ : b - a ≤ N) (_ : nthH hp id = some (.cells (cW l))) (_ : n = l.length) (_ : l.length ≤ 4900) (_ : a ≤ b) (_ : b ≤ n) (_ : lim ≤ 100)
 (_ : ∀ H Q,Sw hp id l H Q → K (.tup []) H),CallW Tryz.prog n_s_pdqsortOrderedT [.ms id 0 n 1,I (a : Int),I (b : Int),I (lim : Int)] hp K := by
 intro N
 induction N using Nat.strongRecOn with
 | _ N ih =>
 intro hp id a b n lim l K hN hd hn hl hab hb hlim hK
 subst hn
 refine walk func_s_pdqsortOrderedT form_s_pdqsortOrderedT res_s_pdqsortOrderedT (by show 4 ≤ _; decide) ?_
 simp -implicitDefEqProofs (disch := omega) [G_s_pdqsortOrderedT,wrap_id]
 refine loop_of (fun q : Nat × Nat × Nat × Bool × Bool × List HObj × List Nat => ⟨[(0,.ms id 0 l.length 1),(1,I (q.1 : Int)),(2,I (q.2.1 : Int)),(3,I (q.2.2.1 : Int)),(8,B q.2.2.2.1),(9,B q.2.2.2.2.1)],q.2.2.2.2.2.1⟩)
  (fun q => a ≤ q.1 ∧ q.1 ≤ q.2.1 ∧ q.2.1 ≤ b ∧ q.2.2.1 ≤ 100 ∧ Sw hp id l q.2.2.2.2.2.1 q.2.2.2.2.2.2) (fun q => q.2.1 - q.1) (a,b,lim,true,true,hp,l) ⟨Nat.le_refl _,hab,Nat.le_refl _,hlim,.refl hd⟩ (le_sub (by simp)) ?_
 rintro ⟨a1,b1,lm,wb,wp,H,Q⟩ ⟨c0,c1,c2,c3,sw⟩
 simp only at c0 c1 c2 c3 sw ⊢
 refine hideK' fun K0 hK0 => ?_
 obtain ⟨d,hd1⟩ : ∃ d : Nat,d = b1 - a1 := ⟨_,rfl⟩
 have ed : (b1 : Int) - (a1 : Int) = (d : Int) := by omega
 simp -implicitDefEqProofs (disch := omega) [wrap_id,ed]
 refine c_split (fun hc => ?_) (fun hc => ?_)
 · simp -implicitDefEqProofs (disch := omega) [wrap_id]
   refine s_insertionT_w sw.at' sw.qlen.symm (by rw [sw.qlen]; omega) (by omega) (by omega) fun H' Q' s' => ?_
   subst hK0
   simp -implicitDefEqProofs (disch := omega) [wrap_id]
   exact hK _ _ (sw.trans s')
 have hd12 : 12 < d := by simp at hc; omega
 simp -implicitDefEqProofs (disch := omega) [wrap_id]
 refine c_split (fun hc => ?_) (fun hc => ?_)
 · simp -implicitDefEqProofs (disch := omega) [wrap_id]
   refine s_heapT_w sw.at' sw.qlen.symm (by rw [sw.qlen]; omega) (by omega) (by omega) fun H' Q' s' => ?_
   subst hK0
   simp -implicitDefEqProofs (disch := omega) [wrap_id]
   exact hK _ _ (sw.trans s')
 have hlm : 0 < lm := by simp at hc; omega
 simp -implicitDefEqProofs (disch := omega) [wrap_id]
 refine cb_post (fun q : Nat × List (Nat × AV) × List HObj × List Nat => ⟨(0,.ms id 0 l.length 1) :: (1,I (a1 : Int)) :: (2,I (b1 : Int)) :: (3,I (q.1 : Int)) :: (8,B wb) :: (9,B wp) :: (10,I (d : Int)) :: q.2.1,q.2.2.1⟩) (fun q => q.1 ≤ 100 ∧ Sw hp id l q.2.2.1 q.2.2.2) (fun q hq => ?_) (fun F' hF' => ?_)
 rotate_left
 · refine c_split (fun hc => ?_) (fun hc => ?_)
   · simp -implicitDefEqProofs (disch := omega) [wrap_id]
     refine s_breakT_w sw.at' sw.qlen.symm (by rw [sw.qlen]; omega) (by omega) (by omega) fun H' Q' s' => ?_
     have lx : ((lm : Int) - 1) = ((lm - 1 : Nat) : Int) := by omega
     simp -implicitDefEqProofs (disch := omega) [wrap_id]
     rw [lx]
     exact hF' (lm - 1,_,_,_) ⟨by simp only; omega,sw.trans s'⟩
   · simp -implicitDefEqProofs (disch := omega) [wrap_id]
     exact hF' (lm,_,_,_) ⟨c3,sw⟩
 clear sw hlm c3
 obtain ⟨lm,ex,H,Q⟩ := q
 obtain ⟨c3,sw⟩ := hq
 simp only at c3 sw ⊢
 simp -implicitDefEqProofs (disch := omega) [wrap_id]
 refine s_pivotT_w sw.at' sw.qlen.symm (by rw [sw.qlen]; omega) (by omega) (by have := sw.qlen; omega) fun H1 pv hint s1 u1 u2 u3 => ?_
 have sw := sw.trans s1
 clear s1
 simp -implicitDefEqProofs (disch := omega) [wrap_id]
 refine cb_post (fun q : Nat × Nat × List (Nat × AV) × List HObj × List Nat => ⟨(0,.ms id 0 l.length 1) :: (1,I (a1 : Int)) :: (2,I (b1 : Int)) :: (3,I (lm : Int)) :: (8,B wb) :: (9,B wp) :: (10,I (d : Int)) :: (11,I (q.1 : Int)) :: (12,I (q.2.1 : Int)) :: q.2.2.1,q.2.2.2.1⟩) (fun q => a1 ≤ q.1 ∧ q.1 < b1 ∧ q.2.1 ≤ 2 ∧ Sw hp id l q.2.2.2.1 q.2.2.2.2) (fun q hq => ?_) (fun F' hF' => ?_)
 rotate_left
 · refine c_split (fun hc => ?_) (fun hc => ?_)
   · simp -implicitDefEqProofs (disch := omega) [wrap_id]
     refine s_reverseT_w sw.at' sw.qlen.symm (by rw [sw.qlen]; omega) (by omega) (by omega) fun H' Q' s' => ?_
     have lx : ((b1 : Int) - 1 - ((pv : Int) - (a1 : Int))) = ((b1 - 1 - (pv - a1) : Nat) : Int) := by omega
     simp -implicitDefEqProofs (disch := omega) [wrap_id]
     rw [lx]
     exact hF' (b1 - 1 - (pv - a1),1,_,_,_) ⟨by simp only; omega,by simp only; omega,by simp only; omega,sw.trans s'⟩
   · simp -implicitDefEqProofs (disch := omega) [wrap_id]
     exact hF' (pv,hint,_,_,_) ⟨u1,u2,u3,sw⟩
 clear sw u1 u2 u3 ex
 obtain ⟨pv,hint,ex,H,Q⟩ := q
 obtain ⟨u1,u2,u3,sw⟩ := hq
 simp only at u1 u2 u3 sw ⊢
 simp -implicitDefEqProofs (disch := omega) [wrap_id]
 refine gd_post (fun q : List (Nat × AV) × List HObj × List Nat => ⟨(0,.ms id 0 l.length 1) :: (1,I (a1 : Int)) :: (2,I (b1 : Int)) :: (3,I (lm : Int)) :: (8,B wb) :: (9,B wp) :: (10,I (d : Int)) :: (11,I (pv : Int)) :: q.1,q.2.1⟩) (fun q => Sw hp id l q.2.1 q.2.2) (fun q hq => ?_) (fun F' hF' => ?_)
 rotate_left
 · cases wb with
   | false =>
     simp -implicitDefEqProofs (disch := omega) [wrap_id]
     exact hF' (_,_,_) sw
   | true =>
     cases wp with
     | false =>
       simp -implicitDefEqProofs (disch := omega) [wrap_id]
       exact hF' (_,_,_) sw
     | true =>
       simp -implicitDefEqProofs (disch := omega) [wrap_id]
       refine c_split (fun hc => ?_) (fun hc => ?_)
       · simp -implicitDefEqProofs (disch := omega) [wrap_id]
         refine s_partialT_w sw.at' sw.qlen.symm (by rw [sw.qlen]; omega) (by omega) (by have := sw.qlen; omega) fun H' Q' qq s' => ?_
         simp -implicitDefEqProofs (disch := omega) [wrap_id]
         cases qq with
         | true =>
           subst hK0
           simp -implicitDefEqProofs (disch := omega) [wrap_id]
           exact hK _ _ (sw.trans s')
         | false =>
           simp -implicitDefEqProofs (disch := omega) [wrap_id]
           exact hF' (_,_,_) (sw.trans s')
       · simp -implicitDefEqProofs (disch := omega) [wrap_id]
         exact hF' (_,_,_) sw
 clear sw ex
 obtain ⟨ex,H,Q⟩ := q
 have sw : Sw hp id l H Q := hq
 simp only
 have lQ := sw.qlen
 refine seq_post (fun q : List (Nat × AV) => ⟨(0,.ms id 0 l.length 1) :: (1,I (a1 : Int)) :: (2,I (b1 : Int)) :: (3,I (lm : Int)) :: (8,B wb) :: (9,B wp) :: (10,I (d : Int)) :: (11,I (pv : Int)) :: q,H⟩) (fun q => True) (fun ex _ => ?_) (fun F' hF' => ?_)
 rotate_left
 · by_cases h0 : 0 < a1
   · have ea := cW_at (l := Q) (i := a1 - 1) (by omega)
     have ep := cW_at (l := Q) (i := pv) (by omega)
     have ax : ((a1 : Int) - 1).toNat = a1 - 1 := by omega
     have m0 : ((0 : Int) < (a1 : Int)) = True := by simp only [eq_iff_iff,iff_true]; omega
     simp -implicitDefEqProofs (disch := omega) [wrap_id,cmp2,nthT,h0,m0,sw.at',ea,ep,ax,cW_len,lQ]
     repeat (refine And.intro (by omega) ?_)
     refine pureW_of rfl (c_LessT_ok _ _) ?_
     cases hf : decide (gN Q (a1 - 1) < gN Q pv) with
     | true =>
       simp -implicitDefEqProofs (disch := omega) [wrap_id,cmp2,nthT]
       exact hF' _ trivial
     | false =>
       simp -implicitDefEqProofs (disch := omega) [wrap_id,cmp2,nthT]
       refine s_partEqT_w sw.at' sw.qlen.symm (by omega) (by omega) u2 (by omega) fun H' Q' mid s' v1 v2 => ?_
       simp -implicitDefEqProofs (disch := omega) [wrap_id]
       rw [hK0]
       exact next_of (mid,b1,lm,wb,wp,H',Q') ⟨by simp only; omega,by simp only; omega,by simp only; omega,c3,sw.trans s'⟩ (by simp only; omega) (le_sub (by simp))
   · have m0 : ((0 : Int) < (a1 : Int)) = False := by simp only [eq_iff_iff,iff_false]; omega
     simp -implicitDefEqProofs (disch := omega) [wrap_id,cmp2,nthT,h0,m0]
     exact hF' _ trivial
 simp -implicitDefEqProofs (disch := omega) [wrap_id]
 refine s_partT_w sw.at' sw.qlen.symm (by omega) u1 u2 (by omega) fun H' Q' mid al s' v1 v2 => ?_
 have sw := sw.trans s'
 have lQ' := sw.qlen
 obtain ⟨L,hL⟩ : ∃ L : Nat,L = mid - a1 := ⟨_,rfl⟩
 obtain ⟨R,hR⟩ : ∃ R : Nat,R = b1 - mid := ⟨_,rfl⟩
 have eL : (mid : Int) - (a1 : Int) = (L : Int) := by omega
 have eR : (b1 : Int) - (mid : Int) = (R : Int) := by omega
 have em : (mid : Int) + 1 = ((mid + 1 : Nat) : Int) := by omega
 simp -implicitDefEqProofs (disch := omega) [wrap_id,eL,eR]
 refine c_split (fun hc => ?_) (fun hc => ?_)
 · simp -implicitDefEqProofs (disch := omega) [wrap_id]
   refine ih (mid - a1) (by omega) (Nat.le_refl _) sw.at' sw.qlen.symm (by omega) v1 (by omega) c3 fun H2 Q2 s2 => ?_
   simp -implicitDefEqProofs (disch := omega) [wrap_id]
   rw [em,hK0]
   exact next_of (mid + 1,b1,lm,decide ((d : Int) / 8 ≤ (L : Int)),al,H2,Q2) ⟨by simp only; omega,by simp only; omega,by simp only; omega,c3,sw.trans s2⟩ (by simp only; omega) (le_sub (by simp))
 · simp -implicitDefEqProofs (disch := omega) [wrap_id]
   rw [em]
   refine ih (b1 - (mid + 1)) (by omega) (Nat.le_refl _) sw.at' sw.qlen.symm (by omega) (by omega) (by omega) c3 fun H2 Q2 s2 => ?_
   simp -implicitDefEqProofs (disch := omega) [wrap_id]
   rw [hK0]
   exact next_of (a1,mid,lm,decide ((d : Int) / 8 ≤ (R : Int)),al,H2,Q2) ⟨by simp only; omega,by simp only; omega,by simp only; omega,c3,sw.trans s2⟩ (by simp only; omega) (le_sub (by simp))
set_option maxHeartbeats 2000000 in
theorem s_SortT_w {hp : List HObj} {id n : Nat} {l : List Nat} {K : AV → List HObj → Prop} (hd : nthH hp id = some (.cells (cW l))) (hn : n = l.length) (h0 : 0 < n) (hl : l.length ≤ 4900)
 (hK : ∀ H Q,Sw hp id l H Q → K (.tup []) H) : CallW Tryz.prog n_s_SortT [.ms id 0 n 1] hp K := by
 have c1 : IntKind.u64.wrap (n : Int) = n := wrap_u64 (by omega)
 obtain ⟨l1,l2,l3⟩ := lenN_ok (n := n) (by omega) h0
 refine walk func_s_SortT form_s_SortT res_s_SortT (by show 1 ≤ _; decide) ?_
 simp -implicitDefEqProofs (disch := omega) [G_s_SortT,wrap_id,c1]
 refine callW_pure rfl (b_Len_ok n (by omega)) ?_
 simp -implicitDefEqProofs (disch := omega) [wrap_id]
 refine s_pdqT_w n (a := 0) (b := n) (lim := lenN n) (by omega) hd hn hl (Nat.zero_le _) (Nat.le_refl _) (by omega) fun H Q s => ?_
 simp -implicitDefEqProofs (disch := omega) [wrap_id]
 exact hK _ _ s
end Go.AM

namespace Go.AM
open Go.RowKit Go.Proofs
abbrev keysV (c : Nat) : AV := .fn (.func n_m_Keys_1M) [] [.ref c 0]
theorem m_Keys_w {m : Nat} {hp : List HObj} {K : AV → List HObj → Prop} (hK : K (keysV hp.length) (hp ++ [.cells [.mp m]])) : CallW Tryz.prog n_m_KeysM [.mp m] hp K := by
 refine walk func_m_KeysM form_m_KeysM res_m_KeysM (by show 1 ≤ _; decide) ?_
 simp -implicitDefEqProofs (disch := omega) [G_m_KeysM,wrap_id]
 exact hK
set_option maxHeartbeats 4000000 in
theorem m_keys_R {hp0 hp : List HObj} {c m clk : Nat} {E : List GE} {H : List AV → List HObj → (AV → List HObj → Prop) → Prop} {J : List Nat → List HObj → Prop}
 (hc : nthH hp0 c = some (.cells [.mp m])) (hg : GrH hp0 m E clk) (hA : ∀ L G,J L G → Agr hp0 G) (h0 : J [] (hp ++ [.lp .ready (hp.length + 1),.gone]))
 (hN : ∀ o,J [] (hp ++ [.lp .ready (hp.length + 1),.gone] ++ [o])) (hS : ∀ L G o,J L G → J L (G.set (hp.length + 2) o))
 (hH : ∀ L (q : GE) G o,q ∈ E → L.length ≤ E.length → J L G → nthH G (hp.length + 2) = some o → H [W64 q.key] G fun rr G' => rr = B true ∧ J (L ++ [q.key]) G' ∧ nthH G' (hp.length + 2) = some o) :
 (E1 Tryz.prog).R (keysV c) hp H (fun G => ∃ L : List GE,L.Perm E ∧ J (L.map (·.key)) G) := by
 have grA : ∀ {L G},J L G → GrH G m E clk := fun {L G} h => by
  have ha := hA _ _ h
  exact hg.mono (ha.2 _ (nthH_lt hg.mp)) fun e he => ha.2 _ (nthH_lt (hg.cel e he))
 have c0 : nthH (hp ++ [.lp .ready (hp.length + 1),.gone]) c = some (.cells [.mp m]) := (hA _ _ h0).get hc
 have it0 : ∀ o,nthH (hp ++ [HObj.lp LpSt.ready (hp.length + 1),HObj.gone] ++ [o]) (hp.length + 2) = some o := fun o => by
  rw [List.append_assoc]; exact nthH_at (i := 2)
 have hl0 : (hp ++ [HObj.lp LpSt.ready (hp.length + 1),HObj.gone]).length = hp.length + 2 := by simp
 have gr0 := grA h0
 refine ⟨n_m_Keys_1M,[.ref c 0],_,G_m_Keys_1M,[],_,rfl,by kernel_rfl,func_m_Keys_1M,form_m_Keys_1M,resTmps_C res_m_Keys_1M,by show 2 ≤ _; decide,?_⟩
 generalize hG0 : hp ++ [HObj.lp LpSt.ready (hp.length + 1),HObj.gone] = G0 at *
 simp -implicitDefEqProofs (disch := omega) [G_m_Keys_1M,wrap_id,c0,ldr_some,xx_rng]
 refine rngU gr0.mp ?_
 simp -implicitDefEqProofs (disch := omega) [wrap_id]
 refine loop_eq (fun q : List GE × List HObj => ⟨[(0,.yl hp.length),(5,.ref (hp.length + 2) 0)],q.2⟩) (fun q => (∀ e ∈ q.1,e ∈ E) ∧ q.1.Nodup ∧ J (q.1.map (·.key)) q.2 ∧ nthH q.2 (hp.length + 2) = some (.it m clk (q.1.map (·.born)) clk)) (fun q => muE E (q.1.map (·.born))) ([],G0 ++ [.it m clk [] clk]) ⟨fun e h => (by cases h),.nil,hN _,it0 _⟩ (by simp [hl0]) ?_
 rintro ⟨L,G⟩ ⟨d1,d2,d3,d4⟩
 simp only at d1 d2 d3 d4 ⊢
 have lI := nthH_lt d4
 refine hideK' fun K0 hK0 => ?_
 simp -implicitDefEqProofs (disch := omega) [wrap_id,xx_nxt]
 refine nxtU d4 (grA d3) (fun h => ?_) (fun q hq hS0 => ?_)
 · subst hK0
   have hperm : L.Perm E := perm_of d2 (hg.brs.imp fun h e => h (by rw [e])) fun a => ⟨d1 a,fun ha => by
    have := h a ha
    rw [List.mem_map] at this
    obtain ⟨x,hx,e⟩ := this
    rw [← born_inj hg.brs (d1 x hx) ha e]; exact hx⟩
   simp -implicitDefEqProofs (disch := omega) [wrap_id]
   exact ⟨[],trivial,L,hperm,d3⟩
 · have nl : q ∉ L := fun h => hS0 (List.mem_map.2 ⟨q,h,rfl⟩)
   have mu := muE_lt hq hS0
   have d3' := hS _ _ (.it m clk (L.map (·.born) ++ [q.born]) clk) d3
   have d4' : nthH (G.set (hp.length + 2) (.it m clk (L.map (·.born) ++ [q.born]) clk)) (hp.length + 2) = some (.it m clk (L.map (·.born) ++ [q.born]) clk) := nthH_set_same lI
   simp -implicitDefEqProofs (disch := omega) [wrap_id,lI,xx_ent]
   generalize G.set (hp.length + 2) (HObj.it m clk (L.map (fun x => x.born) ++ [q.born]) clk) = G1 at d3' d4' ⊢
   refine entU_of d4' (grA d3') hq ?_
   simp -implicitDefEqProofs (disch := omega) [wrap_id]
   refine ⟨_,⟨rfl,hH _ q G1 _ hq (by rw [List.length_map]; exact d2.length_le_of_subset d1) d3' d4'⟩,?_⟩
   rintro r G' ⟨rfl,hg1,hg2⟩
   simp -implicitDefEqProofs (disch := omega) [wrap_id]
   rw [hK0]
   refine next_sub (L ++ [q],G') ⟨fun e he => ?_,?_,?_,?_⟩ ?_ rfl (by simp)
   · rcases List.mem_append.1 he with h | h
     · exact d1 e h
     · rw [List.mem_singleton.1 h]; exact hq
   · rw [List.nodup_append]
     refine ⟨d2,by simp,fun a ha b hb e => ?_⟩
     rw [List.mem_singleton] at hb
     exact nl (by rw [← hb,← e]; exact ha)
   · simp only [List.map_append,List.map_cons,List.map_nil]; exact hg1
   · simp only [List.map_append,List.map_cons,List.map_nil]; exact hg2
   · simp only [List.map_append,List.map_cons,List.map_nil]; exact mu
structure KyJ (hp : List HObj) (lp : HObj) (L : List Nat) (x : AV) (G : List HObj) : Prop where
 len : hp.length + 3 ≤ G.length
 ag : ∀ j,j < hp.length → nthH G j = nthH hp j
 cell : nthH G hp.length = some (.cells [x])
 lpa : nthH G (hp.length + 1) = some lp
 acc : AccG G x 1 L.length (cW L)
 rd : ∀ i,rid x = some i → hp.length + 4 ≤ i
set_option maxHeartbeats 4000000 in
theorem s_AppendSeqT_w {hp : List HObj} {c m clk : Nat} {E : List GE} {K : AV → List HObj → Prop} (hc : nthH hp c = some (.cells [.mp m])) (hg : GrH hp m E clk) (hE : E.length ≤ 4900)
 (hK : ∀ G x (L : List GE),L.Perm E → Agr hp G → AccG G x 1 L.length (cW (L.map (·.key))) → (∀ i,rid x = some i → hp.length ≤ i) → K x G) : CallW Tryz.prog n_s_AppendSeqT [.sl true 0 [],keysV c] hp K := by
 refine walk func_s_AppendSeqT form_s_AppendSeqT res_s_AppendSeqT (by show 2 ≤ _; decide) ?_
 simp -implicitDefEqProofs (disch := omega) [G_s_AppendSeqT,wrap_id]
 have hl : (hp ++ [HObj.cells [AV.sl true 0 []]]).length = hp.length + 1 := by simp
 have init : ∀ t,KyJ hp (.lp .ready (hp.length + 1 + 1)) [] (.sl true 0 []) (hp ++ [HObj.cells [AV.sl true 0 []]] ++ [.lp .ready (hp.length + 1 + 1),.gone] ++ t) := fun t => by
  rw [List.append_assoc,List.append_assoc]
  exact ⟨by simp,fun j hj => nthH_front hj,nthH_at (i := 0),nthH_at (i := 1),.inl ⟨rfl,rfl,rfl⟩,by simp [rid]⟩
 generalize hp ++ [HObj.cells [AV.sl true 0 []]] = HB at hl init ⊢
 refine rf_of (K0 := fun G => ∃ L : List GE,L.Perm E ∧ ∃ x,KyJ hp (.lp .ready (hp.length + 1 + 1)) (L.map (·.key)) x G)
  (m_keys_R (hp0 := hp) (c := c) (m := m) (clk := clk) (E := E) (J := fun L G => ∃ x,KyJ hp (.lp .ready (hp.length + 1 + 1)) L x G) hc hg (fun L G ⟨x,h⟩ => ⟨by have := h.len; omega,h.ag⟩) ?_ ?_ ?_ ?_) ?_
 · rw [hl]; have := init []; rw [List.append_nil] at this; exact ⟨_,this⟩
 · intro o; rw [hl]; exact ⟨_,init [o]⟩
 · rintro L G o ⟨x,h⟩
   rw [hl]
   have ne : ∀ i,i ≠ hp.length + 1 + 2 → nthH (G.set (hp.length + 1 + 2) o) i = nthH G i := fun i hi => nthH_set_ne (Ne.symm hi)
   exact ⟨x,by rw [List.length_set]; exact h.len,fun j hj => by rw [ne j (by omega)]; exact h.ag j hj,by rw [ne _ (by omega)]; exact h.cell,by rw [ne _ (by omega)]; exact h.lpa,h.acc.mono fun i hi => ne i (by have := h.rd i hi; omega),h.rd⟩
 · rintro L q G o hq hL ⟨x,h⟩ ho
   rw [hl] at ho ⊢
   have lo := nthH_lt ho
   have lq : hp.length + 1 < G.length := by omega
   refine ⟨by rw [hpf_nthH]; exact h.lpa,rfl,?_⟩
   have ne : ∀ i,i ≠ hp.length + 1 → nthH (G.set (hp.length + 1) (.lp .busy (hp.length + 1 + 1))) i = nthH G i := fun i hi => nthH_set_ne (Ne.symm hi)
   have l1 : (G.set (hp.length + 1) (.lp .busy (hp.length + 1 + 1))).length = G.length := by simp
   have h2 : KyJ hp (.lp .busy (hp.length + 1 + 1)) L x (G.set (hp.length + 1) (.lp .busy (hp.length + 1 + 1))) := ⟨by rw [l1]; exact h.len,fun j hj => by rw [ne j (by omega)]; exact h.ag j hj,by rw [ne _ (by omega)]; exact h.cell,nthH_set_same lq,h.acc.mono fun i hi => ne i (by have := h.rd i hi; omega),h.rd⟩
   have ho2 : nthH (G.set (hp.length + 1) (.lp .busy (hp.length + 1 + 1))) (hp.length + 1 + 2) = some o := by rw [ne _ (by omega)]; exact ho
   simp -implicitDefEqProofs (disch := omega) [wrap_id,putPs,hpf_nthH,h.lpa,lq]
   generalize G.set (hp.length + 1) (HObj.lp LpSt.busy (hp.length + 1 + 1)) = G1 at h2 ho2 l1 ⊢
   have c8 := h2.cell
   simp -implicitDefEqProofs (disch := omega) [wrap_id,c8,ldr_some]
   refine bsl_of (ys := [W64 q.key]) rfl rfl ?_
   simp -implicitDefEqProofs (disch := omega) [wrap_id,zrep]
   refine app_accG (ys := [W64 q.key]) h2.acc (by omega) (by omega) rfl rfl fun ws w1 w2 w3 => ?_
   rw [x_contA]
   have l8 := nthH_lt c8
   have rne : ∀ i,i < hp.length + 4 → rid x ≠ some i := fun i hi e => by have := h2.rd i e; omega
   have d8 : nthH (writeL G1 ws) hp.length = some (.cells [x]) := (w1 _ l8 (rne _ (by omega))).trans c8
   have dl : nthH (writeL G1 ws) (hp.length + 1) = some (.lp .busy (hp.length + 1 + 1)) := (w1 _ (by omega) (rne _ (by omega))).trans h2.lpa
   have dI : nthH (writeL G1 ws) (hp.length + 1 + 2) = some o := (w1 _ (by omega) (rne _ (by omega))).trans ho2
   have dA : ∀ j,j < hp.length → nthH (writeL G1 ws) j = nthH hp j := fun j hj => (w1 _ (by omega) (rne _ (by omega))).trans (h2.ag j hj)
   generalize writeL G1 ws = G2 at d8 dl dI dA w2 w3 ⊢
   have ld8 := nthH_lt d8
   have ldl := nthH_lt dl
   simp -implicitDefEqProofs (disch := omega) [wrap_id,d8,ld8,str_some]
   have ne2 : ∀ i,i ≠ hp.length → nthH (G2.set hp.length (.cells [AV.ms G1.length 0 (L.length + 1) 1])) i = nthH G2 i := fun i hi => nthH_set_ne (Ne.symm hi)
   have ll : (G2.set hp.length (.cells [AV.ms G1.length 0 (L.length + 1) 1])).length = G2.length := by simp
   have s8 : nthH (G2.set hp.length (.cells [AV.ms G1.length 0 (L.length + 1) 1])) hp.length = some (.cells [AV.ms G1.length 0 (L.length + 1) 1]) := nthH_set_same ld8
   generalize G2.set hp.length (.cells [AV.ms G1.length 0 (L.length + 1) 1]) = G3 at ne2 ll s8 ⊢
   have eW : cW L ++ [W64 q.key] = cW (L ++ [q.key]) := by simp [cW]
   have eN : (L ++ [q.key]).length = L.length + 1 := by simp
   refine ⟨by rw [hpf_nthH,ne2 _ (by omega)]; exact dl,rfl,⟨.ms G1.length 0 (L.length + 1) 1,?_⟩,?_⟩
   · simp only [setL,ll,ldl,if_true]
     have ne3 : ∀ i,i ≠ hp.length + 1 → nthH (G3.set (hp.length + 1) (.lp .ready (hp.length + 1 + 1))) i = nthH G3 i := fun i hi => nthH_set_ne (Ne.symm hi)
     refine ⟨by rw [List.length_set]; omega,fun j hj => by rw [ne3 j (by omega),ne2 j (by omega)]; exact dA j hj,by rw [ne3 _ (by omega)]; exact s8,nthH_set_same (by omega),?_,fun i hi => ?_⟩
     · rw [eN,← eW]
       exact w3.mono fun i hi => by
        simp only [rid,Option.some.injEq] at hi
        rw [ne3 i (by omega),ne2 i (by omega)]
     · simp only [rid,Option.some.injEq] at hi; omega
   · simp only [setL,ll,ldl,if_true]
     rw [nthH_set_ne (by omega),ne2 _ (by omega)]; exact dI
 · rintro G ⟨L,hL,x,h⟩
   rw [hl]
   refine rfEnd_ready h.lpa ?_
   have ne : ∀ i,i ≠ hp.length + 1 → nthH (G.set (hp.length + 1) .gone) i = nthH G i := fun i hi => nthH_set_ne (Ne.symm hi)
   have c8 : nthH (G.set (hp.length + 1) .gone) hp.length = some (.cells [x]) := by rw [ne _ (by omega)]; exact h.cell
   have ac : AccG (G.set (hp.length + 1) .gone) x 1 (L.map (·.key)).length (cW (L.map (·.key))) := h.acc.mono fun i hi => ne i (by have := h.rd i hi; omega)
   have ag : Agr hp (G.set (hp.length + 1) .gone) := ⟨by rw [List.length_set]; have := h.len; omega,fun j hj => by rw [ne j (by omega)]; exact h.ag j hj⟩
   generalize G.set (hp.length + 1) HObj.gone = G1 at c8 ac ag ⊢
   simp -implicitDefEqProofs (disch := omega) [wrap_id,c8,ldr_some]
   rw [List.length_map] at ac
   exact hK G1 x L hL ag ac fun i hi => by have := h.rd i hi; omega
end Go.AM

namespace Go.AM
open Go.RowKit Go.Proofs
theorem s_CollectT_w {hp : List HObj} {c m clk : Nat} {E : List GE} {K : AV → List HObj → Prop} (hc : nthH hp c = some (.cells [.mp m])) (hg : GrH hp m E clk) (hE : E.length ≤ 4900)
 (hK : ∀ G x (L : List GE),L.Perm E → Agr hp G → AccG G x 1 L.length (cW (L.map (·.key))) → (∀ i,rid x = some i → hp.length ≤ i) → K x G) : CallW Tryz.prog n_s_CollectT [keysV c] hp K := by
 refine walk func_s_CollectT form_s_CollectT res_s_CollectT (by show 1 ≤ _; decide) ?_
 simp -implicitDefEqProofs (disch := omega) [G_s_CollectT,wrap_id]
 refine s_AppendSeqT_w hc hg hE fun G x L h1 h2 h3 h4 => ?_
 simp -implicitDefEqProofs (disch := omega) [wrap_id]
 exact hK _ _ _ h1 h2 h3 h4
theorem s_SortedT_w {hp : List HObj} {c m clk : Nat} {E : List GE} {K : AV → List HObj → Prop} (hc : nthH hp c = some (.cells [.mp m])) (hg : GrH hp m E clk) (hE : E.length ≤ 4900) (h0 : E ≠ [])
 (hK : ∀ G id (Q : List Nat),Q.Perm (E.map (·.key)) → Agr hp G → nthH G id = some (.cells (cW Q)) → hp.length ≤ id → K (.ms id 0 Q.length 1) G) : CallW Tryz.prog n_s_SortedT [keysV c] hp K := by
 refine walk func_s_SortedT form_s_SortedT res_s_SortedT (by show 1 ≤ _; decide) ?_
 simp -implicitDefEqProofs (disch := omega) [G_s_SortedT,wrap_id]
 refine s_CollectT_w hc hg hE fun G x L h1 h2 h3 h4 => ?_
 have hl := h1.length_eq
 have hE0 : 0 < E.length := List.length_pos_iff.2 h0
 rcases h3 with ⟨_,h,_⟩ | ⟨id,rfl,p0,p1,p2,p3⟩
 · omega
 simp -implicitDefEqProofs (disch := omega) [wrap_id]
 have hid := h4 id rfl
 refine s_SortT_w (l := L.map (·.key)) p1 (by simp) p0 (by rw [List.length_map]; omega) fun H Q s => ?_
 simp -implicitDefEqProofs (disch := omega) [wrap_id]
 have e : L.length = Q.length := by rw [s.qlen,List.length_map]
 rw [e]
 refine hK H id Q (s.perm.trans (h1.map _)) ⟨Nat.le_trans h2.1 s.len,fun j hj => ?_⟩ s.at' hid
 rw [s.oth j (by have := h2.1; omega) (by omega)]
 exact h2.2 j hj
theorem leaves_same : ∀ {n : Nat} {k : IntKind} {x : Int},eqLeaves (List.replicate n .int) (List.replicate n (.int k x)) (List.replicate n (.int k x)) = some true
 | 0,_,_ => rfl
 | n + 1,k,x => by
   simp only [List.replicate_succ,eqLeaves,eqLeaf,if_true,beq_self_eq_true]
   exact leaves_same
theorem eqk_zeros {n : Nat} {neg : Bool} {K : AV → List (Nat × HObj) → Prop} : EqkW neg (true,List.replicate n .int) (.agg (List.replicate n (.v (.int .u64 0)))) (.agg (List.replicate n (.v (.int .u64 0)))) K = K (B (neg != true)) [] := by
 have hv : (AV.agg (List.replicate n (.v (.int .u64 0)))).val = some (.agg (List.replicate n (Value.int .u64 0)).toArray) := by
  have hl : valL (List.replicate n (.v (.int .u64 0))) = some (List.replicate n (Value.int .u64 0)) := by
   induction n with
   | zero => rfl
   | succ n ih => simp only [List.replicate_succ,valL,ih,Option.map_some]
  simp only [AV.val,hl,Option.map_some]
 refine eqk_of hv hv ?_
 simp only [eqK]
 exact leaves_same
end Go.AM

namespace Go.AM
open Go.RowKit Go.Proofs
theorem x_scope {P : Program} {E : HE} {x : AC} {fr : List (Nat × AV)} {hp : List HObj} {Q : Exit → St → Prop} : AWP P E (.scope x) ⟨fr,hp⟩ Q = AWP P E x ⟨fr,hp⟩ (Exit.ng Q) := rfl
def Z4 : List AV := List.replicate 4096 (.v (.int .u64 0))
theorem Z4_def : List.replicate 4096 (AV.v (.int .u64 0)) = Z4 := rfl
theorem grp_len {hp m E clk} (hg : GrH hp m E clk) : E.length ≤ 4096 := by
 have nd : (E.map fun e => e.key).Nodup := List.pairwise_map.2 hg.key
 have := nd.length_le_of_subset (l₂ := List.range 4096) fun k hk => by
  obtain ⟨e,he,rfl⟩ := List.mem_map.1 hk
  exact List.mem_range.2 (hg.sm e he).2
 simpa using this
theorem few_step {E : List GE} {F : Nat → Nat} (hF : FewOK E 0 F) {t : Nat} (ht : t < 4096) (hm : F t < manyN) (h0 : t ≠ 0) : ∃ s,s < t ∧ (∃ e ∈ E,orN s e.key = t) ∧ F s + 1 = F t := by
 rcases hF t ht with ⟨h,_⟩ | ⟨_,h2,h3⟩
 · omega
 obtain ⟨k,hk⟩ : ∃ k,F t = k + 1 := by
  refine ⟨F t - 1,?_⟩
  have : F t ≠ 0 := fun e => by rw [e,Rk.zero] at h2; exact h0 h2
  omega
 rw [hk] at h2
 obtain ⟨s,s1,e,he,s2⟩ := h2.last
 have le : s ≤ t := by rw [← s2]; exact or_ge
 rcases hF s (by omega) with ⟨_,h⟩ | ⟨_,g2,g3⟩
 · exact absurd s1 (h _)
 have a := g3 _ s1
 have b := h3 _ (s2 ▸ g2.add he)
 refine ⟨s,?_,⟨e,he,s2⟩,by omega⟩
 refine Classical.byContradiction fun hlt => ?_
 have : s = t := by omega
 subst this
 omega
set_option maxHeartbeats 8000000 in
theorem q_ways_w {f g : Bool} {s : SH} (hv : ValS s) {hp : List HObj} (hn : NoMpp hp) {rc m : Nat} {E : List GE} {clk : Nat} (hb : Brd f g s hp rc m E clk) (ho : GOf s (allR s) E) (hL : lostL s = []) {K : AV → List HObj → Prop}
 (hK : ∀ H x (l : List Nat),Agr hp H → AccG H x 1 l.length (cW l) → (∀ i,rid x = some i → hp.length ≤ i) → (∀ k ∈ l,∃ e ∈ E,e.key = k) → l.foldl orN 0 = allN s → (∀ k,k < l.length → ¬ RkR s (allR s) 0 k (allN s)) → l.length ≤ s.m.length → K x H) : CallW Tryz.prog n_q_ways [.ref rc 0] hp K := by
 have w := pw_12 hv
 have hm12 := hv.m12
 refine walk func_q_ways form_q_ways res_q_ways (by show 1 ≤ _; decide) ?_
 simp -implicitDefEqProofs (disch := omega) only [G_q_ways,Z4_def]
 have zl : Z4.length = 4096 := List.length_replicate
 have zp : (Z4.all AV.isPure) = true := by
  rw [List.all_eq_true]
  intro x hx
  rw [List.eq_of_mem_replicate hx]; rfl
 generalize hZ : Z4 = Z at zl zp ⊢
 have hbA := hb.app (o := .cells Z)
 have hnA : NoMpp (hp ++ [.cells Z]) := hn.app
 have cA : nthH (hp ++ [.cells Z]) hp.length = some (.cells Z) := (app_newK).2.1
 have had := had_all hb.gr ho
 have hall := (lost_nil hv).1 hL
 have h0 : ¬ hadN E = 0 := by rw [had,hall]; unfold allN; omega
 have eqz : ∀ {K : AV → List (Nat × HObj) → Prop},EqkW true (true,List.replicate 4096 .int) (.agg Z) (.agg Z) K = K (B false) [] := fun {K} => by
  rw [← hZ]; exact eqk_zeros
 generalize List.replicate 4096 Leaf.int = LF at eqz ⊢
 have tk : List.take 4096 Z = Z := List.take_of_length_le (by omega)
 have vw : view Z 0 4096 = Z := by simp only [view,List.drop_zero]; exact List.take_of_length_le (by omega)
 simp -implicitDefEqProofs (disch := omega) [wrap_id,x_scope]
 generalize hHA : hp ++ [HObj.cells Z] = HA at hbA hnA cA ⊢
 refine q_had_w hnA hbA ?_
 simp -implicitDefEqProofs (disch := omega) [wrap_id,-b_eql,uw_eq0,h0,cA,ldr_some,vw,eqz,zl,tk]
 obtain ⟨F,hF⟩ := fewOK_ex E 0
 obtain ⟨q1,q2,q3⟩ := few_fit hv hL hb.gr ho hF
 have hE := key_lt hv hb.gr ho
 have lt : allN s < 4096 := by unfold allN; omega
 refine q_few_w (had := 0) hv hnA hbA hE (by omega) hF ?_
 simp -implicitDefEqProofs (disch := omega) [wrap_id,hbA.bd,ldr_some]
 refine m_Keys_w ?_
 simp -implicitDefEqProofs (disch := omega) [wrap_id]
 have hE0 : E ≠ [] := fun e => h0 (by rw [e]; rfl)
 have agA : Agr hp HA := by rw [← hHA]; exact (Agr.refl hp).app
 refine s_SortedT_w (m := m) (clk := clk) (E := E) (app_newK (H := HA)).2.1 (hbA.app).gr (by have := grp_len hb.gr; omega) hE0 fun G id Q hQ hG hid hge => ?_
 have agG : Agr hp G := (agA.trans (Agr.refl HA).app).trans hG
 have lG : hp.length ≤ id := by have := agA.1; simp at hge; omega
 have hbG := hb.agr agG
 simp -implicitDefEqProofs (disch := omega) [wrap_id]
 refine q_all_w hbG hm12 ?_
 rw [show pwN s.m.length - 1 = allN s from rfl]
 simp -implicitDefEqProofs (disch := omega) [wrap_id]
 have lQ : Q.length ≤ 4096 := by rw [hQ.length_eq,List.length_map]; exact grp_len hb.gr
 have kQ : ∀ k,k ∈ Q ↔ ∃ e ∈ E,e.key = k := fun k => by rw [hQ.mem_iff,List.mem_map]
 clear hG hge hbG
 have fu : ∀ t,t ≤ allN s → F t ≤ manyN := fun t ht => by rcases hF t (by omega) with ⟨h,_⟩ | ⟨h,_⟩ <;> omega
 have fa : F (allN s) < manyN := by unfold manyN; omega
 refine loop_eq (fun q : Nat × List Nat × AV × List HObj => ⟨[(4,.ptr (fnA F) 0),(5,.ms id 0 Q.length 1),(6,q.2.2.1),(7,W64 q.1)],q.2.2.2⟩)
  (fun q => q.1 ≤ allN s ∧ F q.1 < manyN ∧ q.2.1.length + F q.1 = F (allN s) ∧ q.2.1.foldl orN q.1 = allN s ∧ (∀ k ∈ q.2.1,k ∈ Q) ∧ AccG q.2.2.2 q.2.2.1 1 q.2.1.length (cW q.2.1) ∧ Agr hp q.2.2.2 ∧ nthH q.2.2.2 id = some (.cells (cW Q)) ∧ ∀ i,rid q.2.2.1 = some i → hp.length ≤ i ∧ i ≠ id) (fun q => F q.1) (allN s,[],.sl true 0 [],G) ⟨Nat.le_refl _,fa,by simp,rfl,fun k h => (by cases h),.inl ⟨rfl,rfl,rfl⟩,agG,hid,by simp [rid]⟩ rfl ?_
 rintro ⟨t,l,x,H⟩ ⟨c0,c1,c2,c3,c4,c5,c6,c7,c8⟩
 simp only at c0 c1 c2 c3 c4 c5 c6 c7 c8 ⊢
 refine hideK' fun K0 hK0 => ?_
 simp -implicitDefEqProofs (disch := omega) [wrap_id,-b_neq,uw_ne0]
 refine c_split (fun hc => ?_) (fun hc => ?_)
 · have ht : t ≠ 0 := by simpa using hc
   have gt := fnA_get (f := F) (i := t) (by omega)
   have lF := fnA_len (f := F)
   simp -implicitDefEqProofs (disch := omega) [wrap_id]
   refine loop_eq (fun u : Nat => ⟨[(4,.ptr (fnA F) 0),(5,.ms id 0 Q.length 1),(6,x),(7,W64 t),(8,W64 u)],H⟩) (fun u => u ≤ t ∧ ∀ s',s' < u → ∀ k ∈ Q,¬ (F s' + 1 = F t ∧ orN s' k = t)) (fun u => t - u) 0 ⟨Nat.zero_le _,fun s' h => by omega⟩ rfl ?_
   rintro u ⟨d0,d1⟩
   refine hideK' fun K1 hK1 => ?_
   simp -implicitDefEqProofs (disch := omega) [wrap_id,-b_lss,uw_lss]
   refine c_split (fun hc => ?_) (fun hc => ?_)
   · have hu : u < t := by simpa using hc
     have gu := fnA_get (f := F) (i := u) (by omega)
     have fuu : F u ≤ 1048576 := fu u (by omega)
     simp -implicitDefEqProofs (disch := omega) [wrap_id]
     refine loop_eq (fun j : Nat => ⟨[(4,.ptr (fnA F) 0),(5,.ms id 0 Q.length 1),(6,x),(7,W64 t),(8,W64 u),(36,.ms id 0 Q.length 1),(37,I (Q.length : Int)),(38,I (j : Int))],H⟩) (fun j => j ≤ Q.length ∧ ∀ i,i < j → ¬ (F u + 1 = F t ∧ orN u (gN Q i) = t)) (fun j => Q.length - j) 0 ⟨Nat.zero_le _,fun i h => by omega⟩ (by simp) ?_
     rintro j ⟨e0,e1⟩
     refine hideK' fun K2 hK2 => ?_
     simp -implicitDefEqProofs (disch := omega) [wrap_id]
     refine c_split (fun hc => ?_) (fun hc => ?_)
     · have hj : j < Q.length := by simpa using hc
       have jx : ((j : Int) + 1) = ((j + 1 : Nat) : Int) := by omega
       have ej := cW_at (l := Q) (i := j) hj
       have kj : gN Q j ∈ Q := by
        unfold gN
        rw [List.getD_eq_getElem?_getD,List.getElem?_eq_getElem hj]
        exact List.getElem_mem hj
       have kl : gN Q j < 4096 := by
        obtain ⟨e,he,h⟩ := (kQ _).1 kj
        rw [← h]; exact (hb.gr.sm e he).2
       have ou : orN u (gN Q j) < 4096 := Nat.or_lt_two_pow (n := 12) (by omega) kl
       by_cases h1 : F u + 1 = F t
       · have h1' : (((F u : Int) + 1) == (F t : Int)) = true := by rw [beq_iff_eq]; omega
         simp -implicitDefEqProofs (disch := omega) [wrap_id,c7,ldr_some,ej,cW_len,gt,gu,lF,h1',cmp2,nthT,-b_or,-b_eql,uw_or,uw_eql]
         refine ⟨hj,by omega,by omega,?_⟩
         rw [b_eql,h1']
         simp -implicitDefEqProofs (disch := omega) [wrap_id,cmp2,nthT,-b_or,-b_eql,uw_or,uw_eql]
         refine c_split (fun hc => ?_) (fun hc => ?_)
         · have h2 : orN u (gN Q j) = t := by simpa using hc
           simp -implicitDefEqProofs (disch := omega) [wrap_id]
           refine bsl_of (ys := [W64 (gN Q j)]) rfl rfl ?_
           simp -implicitDefEqProofs (disch := omega) [wrap_id,zrep]
           refine app_accG (ys := [W64 (gN Q j)]) c5 (by omega) (by omega) rfl rfl fun ws w1 w2 w3 => ?_
           rw [x_contA]
           have b6 : Agr hp (writeL H ws) := ⟨by have := c6.1; omega,fun i hi => (w1 i (by have := c6.1; omega) (fun e => by have := (c8 i e).1; omega)).trans (c6.2 i hi)⟩
           have b7 : nthH (writeL H ws) id = some (.cells (cW Q)) := (w1 id (nthH_lt c7) (fun e => (c8 id e).2 rfl)).trans c7
           have hlt := nthH_lt c7
           have hln := c6.1
           generalize writeL H ws = H2 at b6 b7 w2 w3 ⊢
           subst hK2
           subst hK1
           simp -implicitDefEqProofs (disch := omega) [wrap_id]
           rw [hK0]
           have eW : cW l ++ [W64 (gN Q j)] = cW (l ++ [gN Q j]) := by simp [cW]
           have eN : (l ++ [gN Q j]).length = l.length + 1 := by simp
           refine next_sub (u,l ++ [gN Q j],.ms H.length 0 (l.length + 1) 1,H2) ⟨by simp only; omega,by simp only; omega,by simp only [eN]; omega,?_,fun k hk => ?_,?_,b6,b7,fun i hi => ?_⟩ (by simp only; omega) rfl (by simp)
           · simp only
             rw [← c3,← h2,List.foldl_append]
             refine Nat.eq_of_testBit_eq fun i => ?_
             simp only [List.foldl_cons,List.foldl_nil,orN_bit,foldl_bit]
             cases u.testBit i <;> cases (gN Q j).testBit i <;> simp
           · rcases List.mem_append.1 hk with h | h
             · exact c4 k h
             · rw [List.mem_singleton.1 h]; exact kj
           · simp only [eN]; rw [← eW]; exact w3
           · simp only [rid,Option.some.injEq] at hi
             omega
         · have h2 : ¬ orN u (gN Q j) = t := by simpa using hc
           simp -implicitDefEqProofs (disch := omega) [wrap_id]
           rw [hK2]
           refine next_sub (j + 1) ⟨by omega,fun i hi hn => ?_⟩ (by omega) rfl (by simp)
           rcases Nat.lt_or_ge i j with h | h
           · exact e1 i h hn
           · have : i = j := by omega
             subst this
             exact h2 hn.2
       · have h1' : (((F u : Int) + 1) == (F t : Int)) = false := by rw [beq_eq_false_iff_ne]; omega
         simp -implicitDefEqProofs (disch := omega) [wrap_id,c7,ldr_some,ej,cW_len,gt,gu,lF,cmp2,nthT,-b_eql]
         refine ⟨hj,by omega,by omega,?_⟩
         rw [b_eql,h1']
         simp -implicitDefEqProofs (disch := omega) [wrap_id,cmp2,nthT]
         rw [hK2]
         refine next_sub (j + 1) ⟨by omega,fun i hi hn => ?_⟩ (by omega) rfl (by simp)
         rcases Nat.lt_or_ge i j with h | h
         · exact e1 i h hn
         · exact h1 hn.1
     · have hj : j = Q.length := by simp at hc; omega
       subst hK2
       simp -implicitDefEqProofs (disch := omega) [wrap_id,-b_add,uw_inc]
       rw [hK1]
       refine next_sub (u + 1) ⟨by omega,fun s' hs' k hk hn => ?_⟩ (by omega) rfl (by simp)
       rcases Nat.lt_or_ge s' u with h | h
       · exact d1 s' h k hk hn
       · have : s' = u := by omega
         subst this
         obtain ⟨i,hi,rfl⟩ := List.mem_iff_getElem.1 hk
         have := e1 i (by omega)
         unfold gN at this
         rw [List.getD_eq_getElem?_getD,List.getElem?_eq_getElem hi] at this
         exact this hn
   · exfalso
     have hu : u = t := by simp at hc; omega
     obtain ⟨s',h1,⟨e,he,h2⟩,h3⟩ := few_step hF (by omega) c1 ht
     exact d1 s' (by omega) e.key ((kQ _).2 ⟨e,he,rfl⟩) ⟨h3,h2⟩
 · have ht : t = 0 := by simpa using hc
   subst ht
   subst hK0
   simp -implicitDefEqProofs (disch := omega) [wrap_id]
   have f0 : F 0 = 0 := by
    rcases hF 0 (by omega) with ⟨_,h⟩ | ⟨_,_,h⟩
    · exact absurd (Rk.zero.2 rfl) (h 0)
    · have := h 0 (Rk.zero.2 rfl); omega
   rw [f0,Nat.add_zero] at c2
   refine hK H x l c6 c5 (fun i hi => (c8 i hi).1) (fun k hk => (kQ k).1 (c4 k hk)) c3 (fun k hk => q2 k (by omega)) (by omega)
end Go.AM

namespace Go.AM
open Go.RowKit Go.Proofs
theorem slc_fullG {hp : List HObj} {x : AV} {n : Nat} {cs : List AV} {K : AV → List (Nat × HObj) → Prop} (h : AccG hp x 2 n cs) (k : K x []) : SlcW 2 x none (some (I (n : Int))) (some (I (n : Int))) K := by
 rcases h with ⟨rfl,rfl,_⟩ | ⟨id,rfl,h0,h1,h2,_⟩
 · exact ⟨_,[],⟨0,0,rfl,rfl,Nat.le_refl _,Nat.le_refl _,rfl,⟨rfl,rfl,rfl⟩,rfl⟩,k⟩
 · exact ⟨_,[],⟨0,n,rfl,rfl,Nat.zero_le _,Nat.le_refl _,rfl,⟨n,rfl,Nat.le_refl _,Nat.le_refl _,rfl⟩,by simp,rfl⟩,k⟩
structure Bst (s : SH) (R : List (Int × Int)) : Prop where
 mem : ∀ r ∈ R,r ∈ allR s
 all : (R.map fun r => bitO s r).foldl orN 0 = allN s
 few : ∀ k,k < R.length → ¬ RkR s (allR s) 0 k (allN s)
 len : R.length ≤ s.m.length
set_option maxHeartbeats 8000000 in
theorem q_best_w {f g : Bool} {s : SH} (hv : ValS s) {hp : List HObj} (hn : NoMpp hp) {rc m : Nat} {E : List GE} {clk : Nat} (hb : Brd f g s hp rc m E clk) (ho : GOf s (allR s) E) (hL : lostL s = []) {K : AV → List HObj → Prop}
 (hK : ∀ H id (R : List (Int × Int)),Agr hp H → nthH H id = some (.cells (flat2 R)) → hp.length ≤ id → R ≠ [] → Bst s R → K (.ms id 0 R.length 2) H) : CallW Tryz.prog n_q_best [.ref rc 0] hp K := by
 have w := pw_12 hv
 have hm12 := hv.m12
 refine walk func_q_best form_q_best res_q_best (by show 1 ≤ _; decide) ?_
 simp -implicitDefEqProofs (disch := omega) [G_q_best,wrap_id]
 refine q_ways_w hv hn hb ho hL fun H0 x l a1 a2 a3 a4 a5 a6 a7 => ?_
 have l0 : 0 < l.length := by
  refine Classical.byContradiction fun h => ?_
  have : l = [] := List.length_eq_zero_iff.1 (by omega)
  rw [this] at a5
  have : (0 : Nat) = allN s := a5
  unfold allN at this; omega
 rcases a2 with ⟨_,h,_⟩ | ⟨ic,rfl,b0,b1,b2,b3⟩
 · omega
 have hic := a3 ic rfl
 simp -implicitDefEqProofs (disch := omega) [wrap_id]
 refine loop_eq (fun q : Nat × List (Int × Int) × AV × List HObj => ⟨[(0,.ref rc 0),(3,q.2.2.1),(10,.ms ic 0 l.length 1),(11,I (l.length : Int)),(12,I (q.1 : Int))],q.2.2.2⟩)
  (fun q => q.1 ≤ l.length ∧ (q.2.1.map fun r => bitO s r) = l.take q.1 ∧ (∀ r ∈ q.2.1,r ∈ allR s) ∧ AccG q.2.2.2 q.2.2.1 2 q.2.1.length (flat2 q.2.1) ∧ Agr hp q.2.2.2 ∧ nthH q.2.2.2 ic = some (.cells (cW l)) ∧ ∀ i,rid q.2.2.1 = some i → hp.length ≤ i ∧ i ≠ ic) (fun q => l.length - q.1) (0,[],.sl true 0 [],H0) ⟨Nat.zero_le _,by simp,fun r h => (by cases h),.inl ⟨rfl,rfl,rfl⟩,a1,b1,by simp [rid]⟩ rfl ?_
 rintro ⟨i,R,y,H⟩ ⟨c0,c1,c2,c3,c4,c5,c6⟩
 simp only at c0 c1 c2 c3 c4 c5 c6 ⊢
 have hR : R.length = i := by have := congrArg List.length c1; simp at this; omega
 refine hideK' fun K0 hK0 => ?_
 simp -implicitDefEqProofs (disch := omega) [wrap_id]
 refine c_split (fun hc => ?_) (fun hc => ?_)
 · have hi : i < l.length := by simpa using hc
   have ix : ((i : Int) + 1) = ((i + 1 : Nat) : Int) := by omega
   have ei := cW_at (l := l) (i := i) hi
   have hbH := hb.agr c4
   simp -implicitDefEqProofs (disch := omega) [wrap_id,c5,ldr_some,ei,cW_len,hbH.bd]
   refine ⟨hi,?_⟩
   refine lkuU (k := gN l i) rfl rfl hbH.gr.mp (fun A e B eE eq hA0 => ?_) (fun hE => ?_)
   · have em : e ∈ E := by rw [eE]; simp
     have ce := hbH.gr.cel e em
     have ne := hbH.gr.ne e em
     have lr := hbH.gr.ln e em
     have hrows := ho.rows e em
     obtain ⟨r,t,hr⟩ : ∃ r t,e.rows = r :: t := by
      cases h : e.rows with
      | nil => exact absurd h ne
      | cons r t => exact ⟨r,t,rfl⟩
     have rm : r ∈ allR s ∧ bitO s r = gN l i := by
      have : r ∈ e.rows := by rw [hr]; simp
      rw [hrows,List.mem_filter] at this
      exact ⟨this.1,by rw [← eq]; exact of_decide_eq_true this.2⟩
     have ce2 : flat2 e.rows = I r.1 :: I r.2 :: flat2 t := by rw [hr]; rfl
     rw [ce2] at ce
     have l1 : 0 < e.rows.length := by rw [hr]; simp
     simp -implicitDefEqProofs (disch := omega) [wrap_id,ce,ldr_some,l1]
     have ne1 : ∀ j,j < H.length → nthH (H ++ [HObj.cells [I r.1,I r.2]]) j = nthH H j := fun j hj => nthH_front hj
     have n2 : nthH (H ++ [HObj.cells [I r.1,I r.2]]) H.length = some (.cells [I r.1,I r.2]) := (app_newK (H := H)).2.1
     have n3 : (H ++ [HObj.cells [I r.1,I r.2]]).length = H.length + 1 := by simp
     have d3 : AccG (H ++ [HObj.cells [I r.1,I r.2]]) y 2 R.length (flat2 R) := c3.mono fun j hj => ne1 j (c3.lt hj)
     have lic := nthH_lt c5
     have hln := c4.1
     have ylt : ∀ j,rid y = some j → j < H.length := fun j hj => c3.lt hj
     generalize H ++ [HObj.cells [I r.1,I r.2]] = H1 at ne1 n2 n3 d3 ⊢
     simp -implicitDefEqProofs (disch := omega) [wrap_id,d3.lenW]
     refine slc_fullG d3 ?_
     simp -implicitDefEqProofs (disch := omega) [wrap_id,n2,ldr_some]
     refine bsl_of (ys := [Pr r]) rfl rfl ?_
     simp -implicitDefEqProofs (disch := omega) [wrap_id,zrep]
     refine app_accG (ys := [I r.1,I r.2]) d3 (by omega) (by omega) rfl rfl fun ws w1 w2 w3 => ?_
     rw [x_contD]
     have d4 : Agr hp (writeL H1 ws) := ⟨by omega,fun j hj => by rw [w1 j (by omega) (fun e => by have := (c6 j e).1; omega),ne1 j (by omega)]; exact c4.2 j hj⟩
     have d5 : nthH (writeL H1 ws) ic = some (.cells (cW l)) := by rw [w1 ic (by omega) (fun e => (c6 ic e).2 rfl),ne1 ic lic]; exact c5
     generalize writeL H1 ws = H2 at d4 d5 w2 w3 ⊢
     simp -implicitDefEqProofs (disch := omega) [wrap_id,cmp2,nthT]
     rw [hK0]
     have eN : (R ++ [r]).length = R.length + 1 := by simp
     have eF : flat2 (R ++ [r]) = flat2 R ++ [I r.1,I r.2] := by rw [flat2_appK]; rfl
     refine next_eq (i + 1,R ++ [r],.ms H1.length 0 (R.length + 1) 2,H2) ⟨by simp only; omega,?_,fun x hx => ?_,?_,d4,d5,fun j hj => ?_⟩ (by simp only; omega) (by simp only [ix])
     · simp only [List.map_append,List.map_cons,List.map_nil,c1]
       rw [List.take_succ_eq_append_getElem hi,rm.2]
       unfold gN
       rw [List.getD_eq_getElem?_getD,List.getElem?_eq_getElem hi]; rfl
     · rcases List.mem_append.1 hx with h | h
       · exact c2 x h
       · rw [List.mem_singleton.1 h]; exact rm.1
     · simp only [eN,eF]; exact w3
     · simp only [rid,Option.some.injEq] at hj; omega
   · have : gN l i ∈ l := by
      unfold gN
      rw [List.getD_eq_getElem?_getD,List.getElem?_eq_getElem hi]
      exact List.getElem_mem hi
     obtain ⟨e,he,h⟩ := a4 _ this
     exact absurd h (hE e he)
 · have hi : i = l.length := by simp at hc; omega
   subst hi
   subst hK0
   rw [List.take_length] at c1
   rcases c3 with ⟨_,h,_⟩ | ⟨id,rfl,p0,p1,p2,p3⟩
   · omega
   simp -implicitDefEqProofs (disch := omega) [wrap_id]
   exact hK H id R c4 p1 (c6 id rfl).1 (fun e => by rw [e] at p0; exact absurd p0 (by simp)) ⟨c2,by rw [c1]; exact a5,by rw [hR]; exact a6,by omega⟩
end Go.AM

namespace Go.AM
open Go.RowKit Go.Proofs
def cmpI (a b : Int) : Int := if a < b then -1 else if b < a then 1 else 0
theorem c_isNaN_ok (x : Int) : PureOK Tryz.prog n_c_isNaN [I x] (B false) := by
 refine pure_of (walk func_c_isNaN form_c_isNaN res_c_isNaN (by show 1 ≤ _; decide) ?_)
 simp -implicitDefEqProofs (disch := omega) [G_c_isNaN,wrap_id]
theorem c_Compare_ok (a b : Int) : PureOK Tryz.prog n_c_Compare [I a,I b] (I (cmpI a b)) := by
 refine pure_of (walk func_c_Compare form_c_Compare res_c_Compare (by show 2 ≤ _; decide) ?_)
 simp -implicitDefEqProofs (disch := omega) [G_c_Compare,wrap_id]
 refine callW_pure rfl (c_isNaN_ok a) ?_
 simp -implicitDefEqProofs (disch := omega) [wrap_id]
 refine callW_pure rfl (c_isNaN_ok b) ?_
 simp -implicitDefEqProofs (disch := omega) [wrap_id]
 by_cases h : a < b
 · simp -implicitDefEqProofs (disch := omega) [wrap_id,h,cmpI]
 · by_cases h2 : b < a
   · simp -implicitDefEqProofs (disch := omega) [wrap_id,h,h2,cmpI]
   · simp -implicitDefEqProofs (disch := omega) [wrap_id,h,h2,cmpI]
def orI (a b : Int) : Int := if a ≠ 0 then a else b
theorem c_Or_ok (f : Bool) (a b : Int) : PureOK Tryz.prog n_c_Or [Ls f [a,b]] (I (orI a b)) := by
 refine pure_of (walk func_c_Or form_c_Or res_c_Or (by show 1 ≤ _; decide) ?_)
 simp -implicitDefEqProofs (disch := omega) [G_c_Or,wrap_id]
 refine loop_of (fun i : Nat => ⟨[(3,I 0),(6,Ls f [a,b]),(7,I 2),(8,I (i : Int))],[]⟩) (fun i => i ≤ 2 ∧ (0 < i → a = 0) ∧ (1 < i → b = 0)) (fun i => 2 - i) 0 ⟨by omega,fun h => by omega,fun h => by omega⟩ (le_sub (by simp)) ?_
 rintro i ⟨c0,c1,c2⟩
 refine hideK' fun K0 hK0 => ?_
 match i,c0,c1,c2 with
 | 0,_,_,_ =>
   by_cases h : a = 0
   · subst h
     simp -implicitDefEqProofs (disch := omega) [wrap_id]
     rw [hK0]
     exact next_of 1 ⟨by omega,fun _ => rfl,fun h => by omega⟩ (by omega) (le_sub (by simp))
   · have h' : (a != 0) = true := by simp [h]
     subst hK0
     simp -implicitDefEqProofs (disch := omega) [wrap_id,h,h',orI]
 | 1,_,c1,_ =>
   have ha := c1 (by omega)
   subst ha
   by_cases h : b = 0
   · subst h
     simp -implicitDefEqProofs (disch := omega) [wrap_id]
     rw [hK0]
     exact next_of 2 ⟨by omega,fun _ => rfl,fun _ => rfl⟩ (by omega) (le_sub (by simp))
   · have h' : (b != 0) = true := by simp [h]
     subst hK0
     simp -implicitDefEqProofs (disch := omega) [wrap_id,h,h',orI]
 | 2,_,c1,c2 =>
   have ha := c1 (by omega)
   have hb := c2 (by omega)
   subst ha; subst hb
   subst hK0
   simp -implicitDefEqProofs (disch := omega) [wrap_id,orI]
 | i + 3,c0,_,_ => omega
def cmpR (x y : Int × Int) : Int := orI (x.1 - y.1) (cmpI x.2 y.2)
theorem k_Best_1_ok {x y : Int × Int} (hx : 0 ≤ x.1 ∧ x.1 < 100) (hy : 0 ≤ y.1 ∧ y.1 < 100) : PureOK Tryz.prog n_k_Best_1 [Pr x,Pr y] (I (cmpR x y)) := by
 refine pure_of (walk func_k_Best_1 form_k_Best_1 res_k_Best_1 (by show 2 ≤ _; decide) ?_)
 simp -implicitDefEqProofs (disch := omega) [G_k_Best_1,wrap_id]
 refine pureW_of rfl (c_Compare_ok x.2 y.2) ?_
 simp -implicitDefEqProofs (disch := omega) [wrap_id]
 refine bsl_of (ys := [I (x.1 - y.1),I (cmpI x.2 y.2)]) rfl rfl ?_
 simp -implicitDefEqProofs (disch := omega) [wrap_id,zrep]
 refine pureW_of (ys := [Ls true [x.1 - y.1,cmpI x.2 y.2]]) (ids := []) rfl (c_Or_ok true _ _) ?_
 simp -implicitDefEqProofs (disch := omega) [wrap_id,cmp2,nthT,disj]
 rfl
def kapR (r : Int × Int) : Int := r.1 * 1000 + r.2
theorem cmpR_iff {x y : Int × Int} (hx : 0 ≤ x.2 ∧ x.2 ≤ 500) (hy : 0 ≤ y.2 ∧ y.2 ≤ 500) : cmpR x y < 0 ↔ kapR x < kapR y := by
 unfold cmpR orI cmpI kapR
 split
 · omega
 · split
   · omega
   · split <;> omega
def gR (l : List (Int × Int)) (i : Nat) : Int × Int := l.getD i (0,0)
theorem gR_at {l : List (Int × Int)} {i : Nat} (h : i < l.length) : gR l i = l[i] := by
 unfold gR; rw [List.getD_eq_getElem?_getD,List.getElem?_eq_getElem h]; rfl
theorem gR_set {l : List (Int × Int)} {i j : Nat} {v : Int × Int} (h : i < l.length) : gR (l.set i v) j = if j = i then v else gR l j := by
 unfold gR
 rw [List.getD_eq_getElem?_getD,List.getElem?_set]
 by_cases e : i = j
 · subst e; rw [if_pos rfl,if_pos rfl,if_pos h]; rfl
 · rw [if_neg e,if_neg (fun h => e h.symm),← List.getD_eq_getElem?_getD]
theorem swap_permR {Q : List (Int × Int)} {k : Nat} (hk : k + 1 < Q.length) : List.Perm ((Q.set (k + 1) (gR Q k)).set k (gR Q (k + 1))) Q := by
 have e1 : Q = Q.take k ++ Q[k] :: Q[k + 1] :: Q.drop (k + 2) := by
  rw [← List.drop_eq_getElem_cons (by omega),← List.drop_eq_getElem_cons (by omega),List.take_append_drop]
 rw [gR_at (by omega),gR_at hk]
 have tl : (Q.take k).length = k := by rw [List.length_take]; omega
 have e2 : (Q.set (k + 1) Q[k]).set k Q[k + 1] = Q.take k ++ Q[k + 1] :: Q[k] :: Q.drop (k + 2) := by
  refine List.ext_getElem (by simp; omega) fun i h1 h2 => ?_
  rw [List.getElem_set,List.getElem_set]
  by_cases a1 : k = i
  · subst a1
    rw [if_pos rfl,List.getElem_append_right (by omega)]
    simp [tl]
  · rw [if_neg a1]
    by_cases a2 : k + 1 = i
    · subst a2
      rw [if_pos rfl,List.getElem_append_right (by omega)]
      simp [tl]
    · rw [if_neg a2]
      by_cases a3 : i < k
      · rw [List.getElem_append_left (by omega),List.getElem_take]
      · rw [List.getElem_append_right (by omega)]
        obtain ⟨d,rfl⟩ : ∃ d,i = k + 2 + d := ⟨i - (k + 2),by omega⟩
        have : k + 2 + d - (Q.take k).length = d + 1 + 1 := by omega
        simp only [this,List.getElem_cons_succ,List.getElem_drop]
 rw [e2]
 conv => rhs; rw [e1]
 exact (List.Perm.swap _ _ _).append_left _
structure InsR (R Q : List (Int × Int)) (i k : Nat) : Prop where
 perm : List.Perm Q R
 srt : ∀ j m,j < m → m ≤ i → j ≠ k → m ≠ k → kapR (gR Q j) ≤ kapR (gR Q m)
 rest : ∀ m,k < m → m ≤ i → kapR (gR Q k) ≤ kapR (gR Q m)
theorem InsR.swap {R Q : List (Int × Int)} {i k : Nat} (h : InsR R Q i (k + 1)) (hk : k + 1 ≤ i) (hi : i < R.length) (hf : kapR (gR Q (k + 1)) < kapR (gR Q k)) : InsR R ((Q.set (k + 1) (gR Q k)).set k (gR Q (k + 1))) i k := by
 have hl := h.perm.length_eq
 have g : ∀ j,gR ((Q.set (k + 1) (gR Q k)).set k (gR Q (k + 1))) j = if j = k then gR Q (k + 1) else if j = k + 1 then gR Q k else gR Q j := fun j => by
  rw [gR_set (by simp; omega),gR_set (by omega)]
 refine ⟨(swap_permR (by omega)).trans h.perm,fun j m a1 a2 a3 a4 => ?_,fun m a1 a2 => ?_⟩
 · rw [g, g, if_neg a3, if_neg a4]
   by_cases e1 : j = k + 1
   · rw [if_pos e1,if_neg (by omega)]
     exact h.srt k m (by omega) a2 (by omega) (by omega)
   · rw [if_neg e1]
     by_cases e2 : m = k + 1
     · rw [if_pos e2]
       exact h.srt j k (by omega) (by omega) (by omega) (by omega)
     · rw [if_neg e2]
       exact h.srt j m a1 a2 e1 e2
 · rw [g,g,if_pos rfl,if_neg (by omega)]
   by_cases e2 : m = k + 1
   · rw [if_pos e2]; omega
   · rw [if_neg e2]; exact h.rest m (by omega) a2
theorem InsR.stop {R Q : List (Int × Int)} {i k : Nat} (h : InsR R Q i k) (hk : k ≤ i) (hi : i < R.length) (hf : k = 0 ∨ ¬ kapR (gR Q k) < kapR (gR Q (k - 1))) : InsR R Q (i + 1) (i + 1) := by
 have below : ∀ j, j < k → kapR (gR Q j) ≤ kapR (gR Q k) := fun j hj => by
  rcases hf with hf | hf
  · omega
  · by_cases e : j = k - 1
    · rw [e]; omega
    · have := h.srt j (k - 1) (by omega) (by omega) (by omega) (by omega)
      omega
 refine ⟨h.perm,fun j m a1 a2 a3 a4 => ?_,fun m a1 a2 => by omega⟩
 by_cases e1 : j = k
 · rw [e1]; exact h.rest m (by omega) (by omega)
 · by_cases e2 : m = k
   · rw [e2]; exact below j (by omega)
   · exact h.srt j m a1 (by omega) e1 e2
theorem InsR.one {R : List (Int × Int)} : InsR R R 1 1 := ⟨List.Perm.refl _,fun j m a1 a2 a3 a4 => by omega,fun m a1 a2 => by omega⟩
def SrtR (R Q : List (Int × Int)) : Prop := List.Perm Q R ∧ Q.Pairwise fun a b => kapR a ≤ kapR b
theorem InsR.fin {R Q : List (Int × Int)} {i : Nat} (h : InsR R Q i i) (hi : R.length ≤ i) : SrtR R Q := by
 refine ⟨h.perm,?_⟩
 rw [List.pairwise_iff_getElem]
 intro j m hj hm hjm
 have hl := h.perm.length_eq
 have := h.srt j m hjm (by omega) (by omega) (by omega)
 rw [gR_at hj,gR_at hm] at this
 exact this
end Go.AM

namespace Go.AM
open Go.RowKit Go.Proofs
theorem fvR {Q : List (Int × Int)} {j : Nat} (h : j < Q.length) : List.take 2 (List.drop (j * 2) (flat2 Q)) = [I (gR Q j).1,I (gR Q j).2] := by
 have := flat2_view h
 rw [this,gR_at h]
theorem put2R : ∀ {Q : List (Int × Int)} {j : Nat} {v : Int × Int},j < Q.length → List.take (j * 2) (flat2 Q) ++ I v.1 :: I v.2 :: List.drop (j * 2 + 2) (flat2 Q) = flat2 (Q.set j v)
 | q :: Q,0,v,_ => rfl
 | q :: Q,j + 1,v,h => by
   have ih := put2R (Q := Q) (j := j) (v := v) (by simpa using h)
   have e : (j + 1) * 2 = j * 2 + 1 + 1 := by omega
   rw [e,List.set_cons_succ]
   show I q.1 :: I q.2 :: (List.take (j * 2) (flat2 Q) ++ I v.1 :: I v.2 :: List.drop (j * 2 + 2) (flat2 Q)) = I q.1 :: I q.2 :: flat2 (Q.set j v)
   rw [ih]
abbrev cmpV : AV := .fn (.func n_k_Best_1) [] []
theorem hideA {P : Program} {c : AC} {st : St} {K : Exit → St → Prop} (h : ∀ K',K' = K → AWS P c st K') : AWS P c st K := h K rfl
def RwOK (r : Int × Int) : Prop := 0 ≤ r.1 ∧ r.1 < 100 ∧ 0 ≤ r.2 ∧ r.2 ≤ 500
set_option maxHeartbeats 8000000 in
theorem s_insertR_w {hp : List HObj} {id n : Nat} {R : List (Int × Int)} {K : AV → List HObj → Prop} (hd : nthH hp id = some (.cells (flat2 R))) (hn : n = R.length) (hl : R.length ≤ 1000) (hr : ∀ r ∈ R, RwOK r)
 (hK : ∀ H Q,SrtR R Q → nthH H id = some (.cells (flat2 Q)) → (∀ j,j < hp.length → j ≠ id → nthH H j = nthH hp j) → hp.length ≤ H.length → K (.tup []) H) : CallW Tryz.prog n_s_insertionSortCmpFuncR [.ms id 0 n 2,I 0,I (n : Int),cmpV] hp K := by
 subst hn
 refine callW_aws func_s_insertionSortCmpFuncR form_s_insertionSortCmpFuncR res_s_insertionSortCmpFuncR (by show 4 ≤ _; decide) ?_
 simp only [G_s_insertionSortCmpFuncR]
 refine aws_step ?_
 simp -implicitDefEqProofs (disch := omega) [wrap_id]
 refine aws_block (aws_loop (fun q : Nat × List HObj => ⟨[(0,.ms id 0 R.length 2),(1,I 0),(2,I (R.length : Int)),(3,cmpV),(8,I (q.1 : Int))],q.2⟩)
  (fun q => 1 ≤ q.1 ∧ q.1 ≤ max 1 R.length ∧ hp.length ≤ q.2.length ∧ (∀ j,j < hp.length → j ≠ id → nthH q.2 j = nthH hp j) ∧ ∃ Q,nthH q.2 id = some (.cells (flat2 Q)) ∧ InsR R Q q.1 q.1) (fun q => R.length + 1 - q.1) (1,hp) ⟨by omega,by simp only; omega,Nat.le_refl _,fun _ _ _ => rfl,R,hd,.one⟩ (le_sub (by simp)) ?_)
 rintro ⟨i,H1⟩ ⟨c0,c1,cl,ck,Q,c2,c3⟩
 simp only at c0 c1 cl ck c2 c3 ⊢
 refine hideA fun K0 hK0 => ?_
 refine aws_seq (aws_step ?_)
 simp -implicitDefEqProofs (disch := omega) [wrap_id]
 refine aws_cond (t := decide (i < R.length)) rfl (fun hc => aws_of ?_) (fun hc => aws_of ?_)
 · have hi : i < R.length := by simpa using hc
   have ix : ((i : Int) + 1) = ((i + 1 : Nat) : Int) := by omega
   simp -implicitDefEqProofs (disch := omega) only [x_skip,th_n]
   refine aws_seq (aws_block (aws_step ?_))
   simp -implicitDefEqProofs (disch := omega) [wrap_id]
   refine aws_block (aws_loop (fun q : Nat × List HObj => ⟨[(0,.ms id 0 R.length 2),(1,I 0),(2,I (R.length : Int)),(3,cmpV),(8,I (i : Int)),(9,I (q.1 : Int))],q.2⟩)
    (fun q => q.1 ≤ i ∧ hp.length ≤ q.2.length ∧ (∀ j,j < hp.length → j ≠ id → nthH q.2 j = nthH hp j) ∧ ∃ Q,nthH q.2 id = some (.cells (flat2 Q)) ∧ InsR R Q i q.1) (fun q => q.1) (i,H1) ⟨Nat.le_refl _,cl,ck,Q,c2,c3⟩ (le_sub (by simp)) ?_)
   clear c2 c3 Q cl ck
   rintro ⟨k,H2⟩ ⟨d1,dl,dk,Q,d2,d3⟩
   simp only at d1 dl dk d2 d3 ⊢
   have lQ : Q.length = R.length := d3.perm.length_eq
   have rQ : ∀ j,j < Q.length → RwOK (gR Q j) := fun j hj => by rw [gR_at hj]; exact hr _ (d3.perm.mem_iff.1 (List.getElem_mem hj))
   refine hideA fun K1 hK1 => ?_
   refine aws_seq (aws_seq (aws_read_g ?_))
   simp -implicitDefEqProofs (disch := omega) [wrap_id]
   by_cases hk : 0 < k
   · obtain ⟨m,rfl⟩ : ∃ m,k = m + 1 := ⟨k - 1,by omega⟩
     have kx : (((m + 1 : Nat) : Int) - 1) = (m : Int) := by omega
     obtain ⟨z,hz⟩ : ∃ z : Int,((m + 1 : Nat) : Int) = z := ⟨_,rfl⟩
     have z1 : z - 1 = (m : Int) := by omega
     have zn : z.toNat = m + 1 := by omega
     refine q_true (by simp [get]) ?_
     rw [hz]
     simp -implicitDefEqProofs (disch := omega) [wrap_id,z1,zn,d2,ldr_some]
     have f1 := fvR (Q := Q) (j := m + 1) (by omega)
     have f0 := fvR (Q := Q) (j := m) (by omega)
     have fl := flat2_len Q
     rw [f1,f0]
     refine ⟨by omega,by omega,by omega,by omega,?_⟩
     have ra := rQ (m + 1) (by omega)
     have rb := rQ m (by omega)
     have la := nthH_lt d2
     refine q_callv (I (cmpR (gR Q (m + 1)) (gR Q m))) rfl (by kernel_rfl) (fun KK hKK => callW_pure (ys := [Pr (gR Q (m + 1)),Pr (gR Q m)]) (ids := []) rfl (k_Best_1_ok ⟨ra.1,ra.2.1⟩ ⟨rb.1,rb.2.1⟩) hKK) ?_
     have hiff := cmpR_iff (x := gR Q (m + 1)) (y := gR Q m) ⟨ra.2.2.1,ra.2.2.2⟩ ⟨rb.2.2.1,rb.2.2.2⟩
     generalize cmpR (gR Q (m + 1)) (gR Q m) = cv at hiff ⊢
     simp -implicitDefEqProofs (disch := omega) [wrap_id]
     refine aws_cond (t := decide (cv < 0)) rfl (fun hc => aws_of ?_) (fun hc => aws_of ?_)
     · have hf : kapR (gR Q (m + 1)) < kapR (gR Q m) := hiff.1 (by simpa using hc)
       have sw := d3.swap d1 hi hf
       simp -implicitDefEqProofs (disch := omega) only [x_skip,th_n]
       refine aws_of ?_
       have s3 : ∀ o,nthH (H2.set id o) id = some o := fun o => nthH_set_same la
       have p1 := put2R (Q := Q) (j := m + 1) (v := gR Q m) (by omega)
       have p2 := put2R (Q := Q.set (m + 1) (gR Q m)) (j := m) (v := gR Q (m + 1)) (by simp; omega)
       have fl2 := flat2_len (Q.set (m + 1) (gR Q m))
       rw [List.length_set] at fl2
       simp -implicitDefEqProofs (disch := omega) [wrap_id,cmp2,nthT,z1,zn,d2,ldr_some,str_some,f1,f0,la,p1,p2,s3]
       repeat (refine And.intro (by omega) ?_)
       rw [hK1]
       refine next_of (m,H2.set id (.cells (flat2 ((Q.set (m + 1) (gR Q m)).set m (gR Q (m + 1)))))) ⟨by simp only; omega,by simp only [List.length_set]; omega,fun j hj hne => ?_,_,nthH_set_same la,sw⟩ (by simp only; omega) (le_sub (by simp))
       rw [nthH_set_ne (Ne.symm hne),dk j hj hne]
     · have hf : ¬ kapR (gR Q (m + 1)) < kapR (gR Q m) := fun h => by
        have := hiff.2 h
        simp at hc; omega
       have st := d3.stop d1 hi (.inr (by rw [Nat.add_sub_cancel]; exact hf))
       subst hK1
       simp -implicitDefEqProofs (disch := omega) [wrap_id]
       refine aws_of ?_
       simp -implicitDefEqProofs (disch := omega) [wrap_id]
       rw [hK0]
       exact next_of (i + 1,H2) ⟨by simp only; omega,by simp only; omega,dl,dk,Q,d2,st⟩ (by simp only; omega) (le_sub (by simp))
   · refine q_false (c := false) (by simp [get]; omega) (by decide) ?_
     have hk0 : k = 0 := by omega
     subst hk0
     have st := d3.stop d1 hi (.inl rfl)
     simp -implicitDefEqProofs (disch := omega) [wrap_id]
     refine aws_cond (t := false) rfl (fun hc => by cases hc) (fun hc => aws_of ?_)
     subst hK1
     simp -implicitDefEqProofs (disch := omega) [wrap_id]
     refine aws_of ?_
     simp -implicitDefEqProofs (disch := omega) [wrap_id]
     rw [hK0]
     exact next_of (i + 1,H2) ⟨by simp only; omega,by simp only; omega,dl,dk,Q,d2,st⟩ (by simp only; omega) (le_sub (by simp))
 · have hi : R.length ≤ i := by simp at hc; omega
   subst hK0
   simp -implicitDefEqProofs (disch := omega) [wrap_id]
   exact hK H1 Q (c3.fin hi) c2 ck cl
end Go.AM

namespace Go.AM
open Go.RowKit Go.Proofs
set_option maxHeartbeats 2000000 in
theorem s_pdqR_w {hp : List HObj} {id n : Nat} {R : List (Int × Int)} {lim : Int} {K : AV → List HObj → Prop} (hd : nthH hp id = some (.cells (flat2 R))) (hn : n = R.length) (hl : R.length ≤ 12) (hr : ∀ r ∈ R,RwOK r)
 (hK : ∀ H Q,SrtR R Q → nthH H id = some (.cells (flat2 Q)) → (∀ j,j < hp.length → j ≠ id → nthH H j = nthH hp j) → hp.length ≤ H.length → K (.tup []) H) : CallW Tryz.prog n_s_pdqsortCmpFuncR [.ms id 0 n 2,I 0,I (n : Int),I lim,cmpV] hp K := by
 refine walk func_s_pdqsortCmpFuncR form_s_pdqsortCmpFuncR res_s_pdqsortCmpFuncR (by show 5 ≤ _; decide) ?_
 simp -implicitDefEqProofs (disch := omega) [G_s_pdqsortCmpFuncR,wrap_id]
 refine loop_of (fun _ : Unit => ⟨[(0,.ms id 0 n 2),(1,I 0),(2,I (n : Int)),(3,I lim),(4,cmpV),(10,B true),(11,B true)],hp⟩) (fun _ => True) (fun _ => 0) () trivial (le_sub (by simp)) ?_
 rintro _ _
 have h12 : ((n : Int) ≤ 12) = True := by simp only [eq_iff_iff,iff_true]; omega
 refine hideK' fun K0 hK0 => ?_
 simp -implicitDefEqProofs (disch := omega) [wrap_id,h12]
 refine s_insertR_w hd hn (by omega) hr fun H Q h1 h2 h3 h4 => ?_
 subst hK0
 simp -implicitDefEqProofs (disch := omega) [wrap_id]
 exact hK H Q h1 h2 h3 h4
theorem s_SortFuncR_w {hp : List HObj} {id n : Nat} {R : List (Int × Int)} {K : AV → List HObj → Prop} (hd : nthH hp id = some (.cells (flat2 R))) (hn : n = R.length) (hl : R.length ≤ 12) (hr : ∀ r ∈ R,RwOK r)
 (hK : ∀ H Q,SrtR R Q → nthH H id = some (.cells (flat2 Q)) → (∀ j,j < hp.length → j ≠ id → nthH H j = nthH hp j) → hp.length ≤ H.length → K (.tup []) H) : CallW Tryz.prog n_s_SortFuncR [.ms id 0 n 2,cmpV] hp K := by
 have c1 : IntKind.u64.wrap (n : Int) = n := wrap_u64 (by omega)
 refine walk func_s_SortFuncR form_s_SortFuncR res_s_SortFuncR (by show 2 ≤ _; decide) ?_
 simp -implicitDefEqProofs (disch := omega) [G_s_SortFuncR,wrap_id,c1]
 refine callW_pure rfl (b_Len_ok n (by omega)) ?_
 simp -implicitDefEqProofs (disch := omega) [wrap_id]
 refine s_pdqR_w hd hn hl hr fun H Q h1 h2 h3 h4 => ?_
 simp -implicitDefEqProofs (disch := omega) [wrap_id]
 exact hK H Q h1 h2 h3 h4
theorem rw_ok {s : SH} (hv : ValS s) {r : Int × Int} (h : r ∈ allR s) : RwOK r := by
 obtain ⟨h1,h2⟩ := isK_allR h
 have hk8 := hv.k8
 unfold isK at h1
 simp only [Bool.and_eq_true,decide_eq_true_eq] at h1
 have h3 : ¬ (r.2 < 0 ∨ 500 < r.2) := fun h3 => h2 (by unfold bitO; rw [if_pos h3])
 exact ⟨h1.1,by omega,by omega,by omega⟩
def OrdR (R : List (Int × Int)) : Prop := R.Pairwise fun a b => kapR a < kapR b
theorem kapR_inj {x y : Int × Int} (hx : RwOK x) (hy : RwOK y) (h : kapR x = kapR y) : x = y := by
 obtain ⟨a,b⟩ := x
 obtain ⟨c,d⟩ := y
 unfold kapR RwOK at *
 simp only at *
 have : a = c := by omega
 have : b = d := by omega
 subst_vars; rfl
theorem Bst.sorted {s : SH} (hv : ValS s) {R Q : List (Int × Int)} (h : Bst s R) (hq : SrtR R Q) : Bst s Q ∧ OrdR Q := by
 have hl := hq.1.length_eq
 have pm : (Q.map fun r => bitO s r).Perm (R.map fun r => bitO s r) := hq.1.map _
 have ho : (Q.map fun r => bitO s r).foldl orN 0 = allN s := by
  rw [← h.all]
  refine Nat.eq_of_testBit_eq fun i => ?_
  rw [foldl_bit,foldl_bit]
  congr 1
  rw [Bool.eq_iff_iff]
  simp only [List.any_eq_true]
  exact ⟨fun ⟨x,hx,h⟩ => ⟨x,pm.mem_iff.1 hx,h⟩,fun ⟨x,hx,h⟩ => ⟨x,pm.mem_iff.2 hx,h⟩⟩
 have hb : Bst s Q := ⟨fun r hr => h.mem r (hq.1.mem_iff.1 hr),ho,by rw [hl]; exact h.few,by rw [hl]; exact h.len⟩
 refine ⟨hb,?_⟩
 have nd : (Q.map fun r => bitO s r).Nodup := nodup_of_min (s := s) (R := allR s) (had := 0) (n := Q.length) (t := allN s) (by simp) (fun k hk => by
  obtain ⟨r,hr,rfl⟩ := List.mem_map.1 hk
  exact ⟨r,hb.mem r hr,rfl⟩) ho hb.few
 have nd2 : Q.Pairwise fun a b => bitO s a ≠ bitO s b := List.pairwise_map.1 nd
 have both := hq.2.and nd2
 refine both.imp_of_mem fun {a b} ha hb' hab => ?_
 have : kapR a ≠ kapR b := fun e => hab.2 (by rw [kapR_inj (rw_ok hv (hb.mem a ha)) (rw_ok hv (hb.mem b hb')) e])
 have := hab.1
 omega
theorem cpy_all {P : Program} {F : Nat → AV} {hp : List HObj} {K : AV → List (Nat × HObj) → Prop} {d id id2 n : Nat} {x y : Opd} {cs ys : List AV} (hx : evF F x = .ms id 0 n 2) (hy : evF F y = .ms id2 0 n 2) (h1 : nthH hp id = some (.cells cs)) (h2 : nthH hp id2 = some (.cells ys))
 (l1 : cs.length = n * 2) (l2 : ys.length = n * 2) (hpc : (ys.all AV.isPC) = true) (k : K (I (n : Int)) [(id,.cells ys)]) : (AOp.cpy d 2 x y).wp P F hp K := by
 have e0 : Nat.min n n = n := Nat.min_self n
 have e1 : ys.take (n * 2) = ys := List.take_of_length_le (by omega)
 have e2 : splice cs 0 ys = ys := by
  unfold splice
  rw [List.take_zero,List.nil_append,Nat.zero_add,List.drop_of_length_le (by omega),List.append_nil]
 refine ⟨I (n : Int),[(id,.cells ys)],?_,k⟩
 simp only [AOp.sem,hx,hy,hpf_of' h1]
 refine ⟨n,ys,cs,?_,by rw [e0,e1]; exact hpc,(by first | trivial | rfl),(by first | trivial | rfl),by omega,by rw [e0],by rw [e0,e1,e2]⟩
 simp only [elems,hpf_of' h2]
 rw [if_pos ⟨(by first | trivial | rfl),by omega⟩]
 simp only [view,List.drop_zero,e1]
theorem zrep_len2 : ∀ {n : Nat} {z : List AV},(zrep n z).length = n * z.length
 | 0,z => by simp [zrep]
 | n + 1,z => by rw [zrep,List.length_append,zrep_len2,Nat.add_mul]; omega
set_option maxHeartbeats 4000000 in
theorem k_Best_w {f g : Bool} {s : SH} (hz : SzS s) {hp : List HObj} (hn : NoMpp hp) {K : AV → List HObj → Prop}
 (h1 : whE s [] ≠ 0 → ∀ H,Agr hp H → K (.tup [.sl true 0 [],I (whE s [])]) H)
 (h2 : whE s [] = 0 → shtE s = 0 → lostL s = [] → ∀ H id (R : List (Int × Int)),Agr hp H → nthH H id = some (.cells (flat2 R)) → hp.length ≤ id → R ≠ [] → Bst s R → OrdR R → K (.tup [.ms id 0 R.length 2,I 0]) H) : CallW Tryz.prog n_k_Best [Sn f g s] hp K := by
 refine walk func_k_Best form_k_Best res_k_Best (by show 1 ≤ _; decide) ?_
 simp -implicitDefEqProofs (disch := omega) [G_k_Best,wrap_id]
 refine k_whole_w (h := true) (cs := []) hz (by simp) hn.app (fun h0 H ha hm => ?_) (fun hw h0 hL H rc m E clk ha hm hlen hb hof => ?_)
 · have h0' : (whE s [] != 0) = true := by simp [h0]
   simp -implicitDefEqProofs (disch := omega) [wrap_id,h0']
   exact h1 h0 H ((Agr.refl hp).app.trans ha)
 · have hv := val_of h0
   have ha' : Agr hp H := (Agr.refl hp).app.trans ha
   simp -implicitDefEqProofs (disch := omega) [wrap_id]
   refine q_best_w hv hm hb hof hL fun G id R a1 a2 a3 a4 a5 => ?_
   have hm12 := hv.m12
   have hlR := a5.len
   simp -implicitDefEqProofs (disch := omega) [wrap_id]
   refine s_SortFuncR_w a2 rfl (by omega) (fun r hr => rw_ok hv (a5.mem r hr)) fun G2 Q b1 b2 b3 b4 => ?_
   obtain ⟨b5,b6⟩ := a5.sorted hv b1
   have lQ : Q.length = R.length := b1.1.length_eq
   have l0 : 0 < R.length := List.length_pos_iff.2 a4
   simp -implicitDefEqProofs (disch := omega) [wrap_id]
   refine ⟨R.length,rfl,rfl,by omega,by omega,rfl,?_⟩
   have n1 : nthH (G2 ++ [HObj.cells (zrep R.length [I 0,I 0])]) G2.length = some (.cells (zrep R.length [I 0,I 0])) := (app_newK (H := G2)).2.1
   have hlt := nthH_lt b2
   have n2 : nthH (G2 ++ [HObj.cells (zrep R.length [I 0,I 0])]) id = some (.cells (flat2 Q)) := (nthH_front hlt).trans b2
   have n3 : ∀ j,j < G2.length → nthH (G2 ++ [HObj.cells (zrep R.length [I 0,I 0])]) j = nthH G2 j := fun j hj => nthH_front hj
   have n4 : (G2 ++ [HObj.cells (zrep R.length [I 0,I 0])]).length = G2.length + 1 := by simp
   have zl : (zrep R.length [I 0,I 0]).length = R.length * 2 := zrep_len2
   simp -implicitDefEqProofs (disch := omega) [wrap_id]
   generalize zrep R.length [I 0,I 0] = Z at n1 n2 n3 n4 zl ⊢
   generalize G2 ++ [HObj.cells Z] = G3 at n1 n2 n3 n4 ⊢
   refine cpy_all rfl rfl n1 n2 zl (by rw [flat2_len,lQ]) (flat2_pc Q) ?_
   have l3 : G2.length < G3.length := by omega
   simp -implicitDefEqProofs (disch := omega) [wrap_id,l3]
   rw [← lQ]
   refine h2 hw h0 hL _ _ Q ⟨by rw [List.length_set]; have := ha'.1; have := a1.1; omega,fun j hj => ?_⟩ (nthH_set_same l3) (by have := ha'.1; have := a1.1; omega) (fun e => by rw [e] at lQ; simp at lQ; omega) b5 b6
   have := ha'.1
   have := a1.1
   rw [nthH_set_ne (by omega),n3 j (by omega),b3 j (by omega) (by omega),a1.2 j (by omega),ha'.2 j hj]
end Go.AM

namespace Go.AM
open Go.RowKit Go.Proofs
theorem k_Best_v {f g : Bool} {s : SH} (hz : SzS s) {hp : List HObj} (hn : NoMpp hp) {K : AV → List HObj → Prop}
 (h1 : whE s [] ≠ 0 → K (.tup [.sl true 0 [],I (whE s [])]) hp)
 (h2 : whE s [] = 0 → shtE s = 0 → lostL s = [] → ∀ (R : List (Int × Int)),R ≠ [] → Bst s R → OrdR R → K (.tup [Ps false R,I 0]) hp) : CallW Tryz.prog n_k_Best [Sn f g s] hp K := by
 refine callW_agrT hn (callW_frz ?_)
 refine k_Best_w hz hn (fun h0 H ha => ?_) (fun hw h0 hL H id R ha hc hid hR hB hO => ?_)
 · exact ⟨.tup [.sl true 0 [],I (whE s [])],[],rfl,ha,.inr ⟨_,rfl,by simp⟩,h1 h0⟩
 · have hlt := nthH_lt hc
   have l0 : 0 < R.length := List.length_pos_iff.2 hR
   refine ⟨.tup [Ps false R,I 0],[id],?_,⟨?_,fun j hj => ?_⟩,.inr ⟨_,rfl,?_⟩,h2 hw h0 hL R hR hB hO⟩
   · have fl := flat2_len R
     have vw : view (flat2 R) 0 (R.length * 2) = flat2 R := by simp only [view,List.drop_zero]; exact List.take_of_length_le (by omega)
     simp only [purify,purifyL,purify1,purify0,hpf_nthH,hc]
     rw [if_pos ⟨by omega,pcL_pure (flat2_pc R)⟩,vw]
     rfl
   · exact Nat.le_trans ha.1 (writeL_len _ _)
   · rw [nthH_gone (fun i hi => by rw [List.mem_singleton] at hi; subst hi; exact hlt) (fun hj2 => by rw [List.mem_singleton] at hj2; omega)]
     exact ha.2 j hj
   · intro y hy
     simp only [List.mem_cons,List.mem_nil_iff,or_false] at hy
     rcases hy with rfl | rfl
     · rfl
     · rfl
end Go.AM

set_option maxRecDepth 100000
namespace Go.AM
open Go.RowKit Go.Proofs
abbrev n_l_Works : Nat := 17
def G_l_Works : AC := (.seq (.rgn [⟨none,[(.mv 0 (.k (B false)))]⟩] []) (.seq (.rgn [⟨none,[(.call 31 56 []),(.call 32 56 []),(.al 1 [(.sl true 0 []),(.sl true 0 [])]),(.al 2 [(.sl true 0 []),(.sl true 0 [])]),(.st 2 (.t 1) (.t 31)),(.st 2 (.t 2) (.t 32))]⟩] [1,2]) (.seq (.rgn [⟨none,[(.fa 33 (.t 2) 0),(.ld 34 false 1 (.t 33)),(.slc 35 2 (.t 34) none (some (.k (I 1))) none),(.fa 36 (.t 2) 0),(.st 1 (.t 36) (.t 35))]⟩] [1,2]) (.seq (.drw [⟨none,[(.ld 38 true 2 (.t 1)),(.call 39 49 [(.k (I 0)),(.k (I 5))]),(.call 40 18 [(.t 38),(.t 39)]),(.mv 37 (.t 40)),(.ext 41 (.t 37) 0),(.ext 42 (.t 37) 1),(.mv 3 (.t 41)),(.mv 4 (.t 42))]⟩] [(0,1)] [1,2,3,4]) (.seq (.drw [⟨none,[(.ld 44 true 2 (.t 1)),(.call 45 49 [(.k (I 0)),(.k (I 6))]),(.call 46 18 [(.t 44),(.t 45)]),(.mv 43 (.t 46)),(.ext 47 (.t 43) 0),(.ext 48 (.t 43) 1),(.mv 5 (.t 47)),(.mv 6 (.t 48))]⟩] [(0,1)] [1,2,3,4,6]) (.seq (.rgn [⟨none,[(.ld 50 true 2 (.t 1)),(.call 51 20 [(.t 50),(.k (I 1))]),(.mv 49 (.t 51)),(.ext 52 (.t 49) 0),(.ext 53 (.t 49) 1),(.mv 7 (.t 52)),(.mv 8 (.t 53))]⟩] [1,2,3,4,6,7,8]) (.seq (.rgn [⟨none,[(.ld 55 true 2 (.t 2)),(.call 56 22 [(.t 55)]),(.mv 54 (.t 56)),(.ext 57 (.t 54) 0),(.ext 58 (.t 54) 1),(.mv 9 (.t 57)),(.mv 10 (.t 58))]⟩] [1,2,3,4,6,7,8,9,10]) (.seq (.rgn [⟨none,[(.ld 60 true 2 (.t 1)),(.call 61 29 [(.t 60)]),(.mv 59 (.t 61)),(.ext 62 (.t 59) 0),(.ext 63 (.t 59) 1),(.mv 11 (.t 62)),(.mv 12 (.t 63))]⟩] [1,2,3,4,6,7,8,9,10,11,12]) (.seq (.rgn [⟨none,[(.ld 65 true 2 (.t 2)),(.call 66 29 [(.t 65)]),(.mv 64 (.t 66)),(.ext 67 (.t 64) 0),(.ext 68 (.t 64) 1),(.mv 13 (.t 67)),(.mv 14 (.t 68))]⟩] [1,3,4,6,7,8,9,10,11,12,14]) (.seq (.rgn [⟨none,[(.ld 70 true 2 (.t 1)),(.call 71 30 [(.t 70)]),(.mv 69 (.t 71)),(.ext 72 (.t 69) 0),(.ext 73 (.t 69) 1),(.mv 15 (.t 72)),(.mv 16 (.t 73))]⟩] [1,3,4,6,7,8,9,10,11,12,14,15,16]) (.seq (.drw [⟨none,[(.ld 74 true 2 (.t 1)),(.call 75 49 [(.k (I 0)),(.k (I 5))]),(.call 76 49 [(.k (I 0)),(.k (I 15))]),(.bsl 77 2 2 [(I 0),(I 0)] [(0,(.t 75)),(1,(.t 76))]),(.call 78 32 [(.t 74),(.t 77)]),(.mv 17 (.t 78))]⟩] [(0,1),(0,2),(0,3)] [1,3,4,6,7,8,9,10,11,12,14,15,16,17]) (.seq (.rgn [⟨none,[(.ld 80 true 2 (.t 1)),(.call 81 37 [(.t 80)]),(.mv 79 (.t 81)),(.ext 82 (.t 79) 0),(.ext 83 (.t 79) 1),(.mv 18 (.t 82)),(.mv 19 (.t 83))]⟩] [1,3,4,6,7,8,9,10,11,12,14,15,16,17,18,19]) (.seq (.rgn [⟨none,[(.ld 84 true 2 (.t 1)),(.bsl 85 2 1 [(I 0)] [(0,(.k (I 0))),(1,(.k (I 2)))]),(.call 86 39 [(.t 84),(.t 85)]),(.mv 20 (.t 86))]⟩] [1,3,4,6,7,8,9,10,11,12,14,15,16,17,18,19,20]) (.seq (.drw [⟨none,[(.ld 88 true 2 (.t 1)),(.call 89 49 [(.k (I 0)),(.k (I 5))]),(.call 90 41 [(.t 88),(.t 89)]),(.mv 87 (.t 90)),(.ext 91 (.t 87) 0),(.ext 92 (.t 87) 1),(.mv 21 (.t 91)),(.mv 22 (.t 92))]⟩] [(0,1)] [1,3,4,6,7,8,9,10,11,12,14,15,16,17,18,19,20,21,22]) (.seq (.rgn [⟨none,[(.call 94 43 [(.k (I 10)),(.k (I 15)),(.k (I 5)),(.k (I 0))]),(.mv 93 (.t 94)),(.ext 95 (.t 93) 0),(.ext 96 (.t 93) 1),(.ext 97 (.t 93) 2),(.mv 23 (.t 95)),(.mv 24 (.t 96)),(.mv 25 (.t 97))]⟩] [1,3,4,6,7,8,9,10,11,12,14,15,16,17,18,19,20,21,22,23,24,25]) (.seq (.rgn [⟨none,[(.call 99 43 [(.k (I 10)),(.k (I 15)),(.k (I 0)),(.k (I 7))]),(.mv 98 (.t 99)),(.ext 100 (.t 98) 0),(.ext 101 (.t 98) 1),(.ext 102 (.t 98) 2),(.mv 26 (.t 100)),(.mv 27 (.t 101)),(.mv 28 (.t 102))]⟩] [1,3,4,6,7,8,9,10,11,12,14,15,16,17,18,19,20,21,22,23,24,25,28]) (.seq (.rgn [⟨none,[(.call 104 54 [(.k (I 5)),(.k (I 6))]),(.call 105 54 [(.k (I 15)),(.k (I 15))]),(.call 106 54 [(.k (I 25)),(.k (I 26))]),(.bsl 107 3 2 [(I 0),(I 0)] [(0,(.t 104)),(1,(.t 105)),(2,(.t 106))]),(.call 108 45 [(.t 107)]),(.mv 103 (.t 108)),(.ext 109 (.t 103) 0),(.ext 110 (.t 103) 1),(.mv 29 (.t 109)),(.mv 30 (.t 110))]⟩] [1,3,4,6,7,8,9,10,11,12,14,15,16,17,18,19,20,21,22,23,24,25,28,29,30]) (.seq (.seq (.rgn [⟨none,[(.mv 111 (.t 4)),(.bin 112 .neq (.t 111) (.k (I 0))),(.mv 113 (.t 112))]⟩,⟨(some (113,false)),[(.mv 114 (.t 6)),(.bin 115 .neq (.t 114) (.k (I 19)))]⟩,⟨none,[(.pick 116 (.t 113) (.k (B true)) (.t 115)),(.mv 117 (.t 116))]⟩,⟨(some (117,false)),[(.mv 118 (.t 8)),(.bin 119 .neq (.t 118) (.k (I 0)))]⟩,⟨none,[(.pick 120 (.t 117) (.k (B true)) (.t 119)),(.mv 121 (.t 120))]⟩,⟨(some (121,false)),[(.mv 122 (.t 10)),(.bin 123 .neq (.t 122) (.k (I 0)))]⟩,⟨none,[(.pick 124 (.t 121) (.k (B true)) (.t 123)),(.mv 125 (.t 124))]⟩,⟨(some (125,false)),[(.mv 126 (.t 12)),(.bin 127 .neq (.t 126) (.k (I 0)))]⟩,⟨none,[(.pick 128 (.t 125) (.k (B true)) (.t 127)),(.mv 129 (.t 128))]⟩,⟨(some (129,false)),[(.mv 130 (.t 14)),(.bin 131 .neq (.t 130) (.k (I 19)))]⟩,⟨none,[(.pick 132 (.t 129) (.k (B true)) (.t 131)),(.mv 133 (.t 132))]⟩,⟨(some (133,false)),[(.mv 134 (.t 16)),(.bin 135 .neq (.t 134) (.k (I 0)))]⟩,⟨none,[(.pick 136 (.t 133) (.k (B true)) (.t 135)),(.mv 137 (.t 136))]⟩,⟨(some (137,false)),[(.mv 138 (.t 17)),(.bin 139 .neq (.t 138) (.k (I 16)))]⟩,⟨none,[(.pick 140 (.t 137) (.k (B true)) (.t 139)),(.mv 141 (.t 140))]⟩,⟨(some (141,false)),[(.mv 142 (.t 19)),(.bin 143 .neq (.t 142) (.k (I 0)))]⟩,⟨none,[(.pick 144 (.t 141) (.k (B true)) (.t 143)),(.mv 145 (.t 144))]⟩,⟨(some (145,false)),[(.mv 146 (.t 20)),(.bin 147 .neq (.t 146) (.k (I 14)))]⟩,⟨none,[(.pick 148 (.t 145) (.k (B true)) (.t 147)),(.mv 149 (.t 148))]⟩,⟨(some (149,false)),[(.mv 150 (.t 22)),(.bin 151 .neq (.t 150) (.k (I 0)))]⟩,⟨none,[(.pick 152 (.t 149) (.k (B true)) (.t 151)),(.mv 153 (.t 152))]⟩,⟨(some (153,false)),[(.mv 154 (.t 25)),(.bin 155 .neq (.t 154) (.k (I 0)))]⟩,⟨none,[(.pick 156 (.t 153) (.k (B true)) (.t 155)),(.mv 157 (.t 156))]⟩,⟨(some (157,false)),[(.mv 158 (.t 28)),(.bin 159 .neq (.t 158) (.k (I 5)))]⟩,⟨none,[(.pick 160 (.t 157) (.k (B true)) (.t 159)),(.mv 161 (.t 160))]⟩,⟨(some (161,false)),[(.mv 162 (.t 30)),(.bin 163 .neq (.t 162) (.k (I 0)))]⟩,⟨none,[(.pick 164 (.t 161) (.k (B true)) (.t 163))]⟩] [1,3,7,9,11,15,18,21,23,24,29,164]) (.cond (.t 164) (.seq (.rgn [⟨none,[(.mv 0 (.k (B false)))]⟩] [0]) .ret) .skip)) (.seq (.drw [⟨none,[(.mv 165 (.t 3)),(.bsl 166 3 1 [(I 0)] [(0,(.k (I 0))),(1,(.k (I 1))),(2,(.k (I 3)))]),(.call 167 26 [(.t 165),(.t 166)]),(.mv 168 (.t 167))]⟩,⟨(some (168,true)),[(.mv 169 (.t 7)),(.bsl 170 5 1 [(I 0)] [(0,(.k (I 5))),(1,(.k (I 6))),(2,(.k (I 20))),(3,(.k (I 21))),(4,(.k (I 22)))]),(.call 171 27 [(.t 169),(.t 170)])]⟩,⟨none,[(.pick 172 (.t 168) (.t 171) (.k (B false))),(.mv 173 (.t 172))]⟩,⟨(some (173,true)),[(.mv 174 (.t 9)),(.bsl 175 1 1 [(I 0)] [(0,(.k (I 2)))]),(.call 176 26 [(.t 174),(.t 175)])]⟩,⟨none,[(.pick 177 (.t 173) (.t 176) (.k (B false))),(.mv 178 (.t 177))]⟩,⟨(some (178,true)),[(.mv 179 (.t 11)),(.len 180 (.t 179)),(.bin 181 .eql (.t 180) (.k (I 2)))]⟩,⟨none,[(.pick 182 (.t 178) (.t 181) (.k (B false))),(.mv 183 (.t 182))]⟩,⟨(some (183,true)),[(.ld 184 true 2 (.t 1)),(.mv 185 (.t 11)),(.call 186 33 [(.t 184),(.t 185)]),(.bin 187 .eql (.t 186) (.k (I 0)))]⟩,⟨none,[(.pick 188 (.t 183) (.t 187) (.k (B false))),(.mv 189 (.t 188))]⟩,⟨(some (189,true)),[(.mv 190 (.t 15)),(.bin 191 .eql (.t 190) (.k (I 5)))]⟩,⟨none,[(.pick 192 (.t 189) (.t 191) (.k (B false))),(.mv 193 (.t 192))]⟩,⟨(some (193,true)),[(.mv 194 (.t 18)),(.bsl 195 2 1 [(I 0)] [(0,(.k (I 0))),(1,(.k (I 4)))]),(.call 196 26 [(.t 194),(.t 195)])]⟩,⟨none,[(.pick 197 (.t 193) (.t 196) (.k (B false))),(.mv 198 (.t 197))]⟩,⟨(some (198,true)),[(.mv 199 (.t 21)),(.bin 200 .eql (.t 199) (.k (I 1)))]⟩,⟨none,[(.pick 201 (.t 198) (.t 200) (.k (B false))),(.mv 202 (.t 201))]⟩,⟨(some (202,true)),[(.mv 203 (.t 23)),(.bin 204 .eql (.t 203) (.k (I 15)))]⟩,⟨none,[(.pick 205 (.t 202) (.t 204) (.k (B false))),(.mv 206 (.t 205))]⟩,⟨(some (206,true)),[(.mv 207 (.t 24)),(.bin 208 .eql (.t 207) (.k (I 30)))]⟩,⟨none,[(.pick 209 (.t 206) (.t 208) (.k (B false))),(.mv 210 (.t 209))]⟩,⟨(some (210,true)),[(.mv 211 (.t 29)),(.len 212 (.t 211)),(.bin 213 .eql (.t 212) (.k (I 1)))]⟩,⟨none,[(.pick 214 (.t 210) (.t 213) (.k (B false))),(.mv 215 (.t 214))]⟩,⟨(some (215,true)),[(.mv 216 (.t 29)),(.ia 217 3 (.t 216) (.k (I 0))),(.ld 218 true 3 (.t 217)),(.call 219 54 [(.k (I 5)),(.k (I 5))]),(.bld 220 [(I 0),(I 0),(I 0)] [(0,1,(.k (I 10))),(1,2,(.t 219))]),(.eqk 221 false (true,[.int,.int,.int]) (.t 218) (.t 220))]⟩,⟨none,[(.pick 222 (.t 215) (.t 221) (.k (B false))),(.mv 0 (.t 222))]⟩] [(53,54)] [0]) .ret)))))))))))))))))))
theorem func_l_Works : Tryz.prog.funcs[n_l_Works]? = some Tryz.f17 := Tryz.func17
theorem form_l_Works : formOf Tryz.prog Tryz.f17 [0] = some G_l_Works := by kernel_rfl
theorem res_l_Works : resTmps Tryz.f17.results.toList = some [0] := by kernel_rfl
abbrev n_l_ints : Nat := 26
def G_l_ints : AC := (.seq (.rgn [⟨none,[(.mv 4 (.k (B false)))]⟩] [0,1]) (.seq (.seq (.rgn [⟨none,[(.mv 6 (.t 0)),(.len 7 (.t 6)),(.mv 8 (.t 1)),(.len 9 (.t 8)),(.bin 10 .neq (.t 7) (.t 9))]⟩] [0,1,10]) (.cond (.t 10) (.seq (.rgn [⟨none,[(.mv 4 (.k (B false)))]⟩] [4]) .ret) .skip)) (.seq (.seq (.rgn [⟨none,[(.mv 5 (.k (I 0)))]⟩] [0,1,5]) (.block 0 (.loop (.seq (.seq (.rgn [⟨none,[(.mv 11 (.t 5)),(.mv 12 (.t 0)),(.len 13 (.t 12)),(.bin 14 .lss (.t 11) (.t 13))]⟩] [0,1,5,14]) (.cond (.t 14) .skip (.exit 0))) (.seq (.block 1 (.seq (.drw [⟨none,[(.mv 17 (.t 0)),(.mv 18 (.t 5)),(.ia 19 1 (.t 17) (.t 18)),(.ld 20 false 1 (.t 19)),(.mv 21 (.t 1)),(.mv 22 (.t 5)),(.ia 23 1 (.t 21) (.t 22)),(.ld 24 false 1 (.t 23)),(.bin 25 .neq (.t 20) (.t 24))]⟩] [(3,7)] [0,1,5,25]) (.cond (.t 25) (.seq (.rgn [⟨none,[(.mv 4 (.k (B false)))]⟩] [4]) .ret) .skip))) (.rgn [⟨none,[(.mv 15 (.t 5)),(.bin 16 .add (.t 15) (.k (I 1))),(.mv 5 (.t 16))]⟩] [0,1,5])))))) (.seq (.rgn [⟨none,[(.mv 4 (.k (B true)))]⟩] [4]) .ret))))
theorem func_l_ints : Tryz.prog.funcs[n_l_ints]? = some Tryz.f26 := Tryz.func26
theorem form_l_ints : formOf Tryz.prog Tryz.f26 [4] = some G_l_ints := by kernel_rfl
theorem res_l_ints : resTmps Tryz.f26.results.toList = some [4] := by kernel_rfl
abbrev n_l_longs : Nat := 27
def G_l_longs : AC := (.seq (.rgn [⟨none,[(.mv 4 (.k (B false)))]⟩] [0,1]) (.seq (.seq (.rgn [⟨none,[(.mv 6 (.t 0)),(.len 7 (.t 6)),(.mv 8 (.t 1)),(.len 9 (.t 8)),(.bin 10 .neq (.t 7) (.t 9))]⟩] [0,1,10]) (.cond (.t 10) (.seq (.rgn [⟨none,[(.mv 4 (.k (B false)))]⟩] [4]) .ret) .skip)) (.seq (.seq (.rgn [⟨none,[(.mv 5 (.k (I 0)))]⟩] [0,1,5]) (.block 0 (.loop (.seq (.seq (.rgn [⟨none,[(.mv 11 (.t 5)),(.mv 12 (.t 0)),(.len 13 (.t 12)),(.bin 14 .lss (.t 11) (.t 13))]⟩] [0,1,5,14]) (.cond (.t 14) .skip (.exit 0))) (.seq (.block 1 (.seq (.drw [⟨none,[(.mv 17 (.t 0)),(.mv 18 (.t 5)),(.ia 19 1 (.t 17) (.t 18)),(.ld 20 false 1 (.t 19)),(.mv 21 (.t 1)),(.mv 22 (.t 5)),(.ia 23 1 (.t 21) (.t 22)),(.ld 24 false 1 (.t 23)),(.bin 25 .neq (.t 20) (.t 24))]⟩] [(3,7)] [0,1,5,25]) (.cond (.t 25) (.seq (.rgn [⟨none,[(.mv 4 (.k (B false)))]⟩] [4]) .ret) .skip))) (.rgn [⟨none,[(.mv 15 (.t 5)),(.bin 16 .add (.t 15) (.k (I 1))),(.mv 5 (.t 16))]⟩] [0,1,5])))))) (.seq (.rgn [⟨none,[(.mv 4 (.k (B true)))]⟩] [4]) .ret))))
theorem func_l_longs : Tryz.prog.funcs[n_l_longs]? = some Tryz.f27 := Tryz.func27
theorem form_l_longs : formOf Tryz.prog Tryz.f27 [4] = some G_l_longs := by kernel_rfl
theorem res_l_longs : resTmps Tryz.f27.results.toList = some [4] := by kernel_rfl
abbrev n_l_Row : Nat := 49
def G_l_Row : AC := (.seq (.rgn [⟨none,[(.al 4 [(I 0),(I 0)])]⟩] [0,1,4]) (.seq (.rgn [⟨none,[(.mv 5 (.t 0)),(.mv 6 (.t 1)),(.bld 7 [(I 0),(I 0)] [(0,1,(.t 5)),(1,1,(.t 6))]),(.st 2 (.t 4) (.t 7))]⟩] [4]) .ret))
theorem func_l_Row : Tryz.prog.funcs[n_l_Row]? = some Tryz.f49 := Tryz.func49
theorem form_l_Row : formOf Tryz.prog Tryz.f49 [4] = some G_l_Row := by kernel_rfl
theorem resc_l_Row : resCs Tryz.prog Tryz.f49.results.toList = some [(4,some (true,2))] := by kernel_rfl
abbrev n_l_rg : Nat := 54
def G_l_rg : AC := (.seq (.rgn [⟨none,[(.al 4 [(I 0),(I 0)])]⟩] [0,1,4]) (.seq (.rgn [⟨none,[(.mv 5 (.t 0)),(.mv 6 (.t 1)),(.bld 7 [(I 0),(I 0)] [(0,1,(.t 5)),(1,1,(.t 6))]),(.st 2 (.t 4) (.t 7))]⟩] [4]) .ret))
theorem func_l_rg : Tryz.prog.funcs[n_l_rg]? = some Tryz.f54 := Tryz.func54
theorem form_l_rg : formOf Tryz.prog Tryz.f54 [4] = some G_l_rg := by kernel_rfl
theorem resc_l_rg : resCs Tryz.prog Tryz.f54.results.toList = some [(4,some (true,2))] := by kernel_rfl
abbrev n_l_Sheet : Nat := 56
def G_l_Sheet : AC := (.seq (.rgn [⟨none,[(.al 0 [(.sl true 0 []),(.sl true 0 [])])]⟩] [0]) (.seq (.rgn [⟨none,[(.call 1 88 [(.k (I 10)),(.k (I 3))]),(.call 2 88 [(.k (I 15)),(.k (I 2))]),(.bsl 3 2 2 [(I 0),(I 0)] [(0,(.t 1)),(1,(.t 2))]),(.call 4 54 [(.k (I 5)),(.k (I 6))]),(.call 5 54 [(.k (I 15)),(.k (I 15))]),(.call 6 54 [(.k (I 20)),(.k (I 22))]),(.call 7 54 [(.k (I 25)),(.k (I 26))]),(.call 8 54 [(.k (I 35)),(.k (I 37))]),(.bsl 9 5 2 [(I 0),(I 0)] [(0,(.t 4)),(1,(.t 5)),(2,(.t 6)),(3,(.t 7)),(4,(.t 8))]),(.bld 10 [(.sl true 0 []),(.sl true 0 [])] [(0,1,(.t 3)),(1,1,(.t 9))]),(.st 2 (.t 0) (.t 10))]⟩] [0]) .ret))
theorem func_l_Sheet : Tryz.prog.funcs[n_l_Sheet]? = some Tryz.f56 := Tryz.func56
theorem form_l_Sheet : formOf Tryz.prog Tryz.f56 [0] = some G_l_Sheet := by kernel_rfl
theorem resc_l_Sheet : resCs Tryz.prog Tryz.f56.results.toList = some [(0,some (true,2))] := by kernel_rfl
abbrev n_l_Comb : Nat := 88
def G_l_Comb : AC := (.seq (.rgn [⟨none,[(.al 4 [(I 0),(I 0)])]⟩] [0,1,4]) (.seq (.rgn [⟨none,[(.mv 5 (.t 0)),(.mv 6 (.t 1)),(.bld 7 [(I 0),(I 0)] [(0,1,(.t 5)),(1,1,(.t 6))]),(.st 2 (.t 4) (.t 7))]⟩] [4]) .ret))
theorem func_l_Comb : Tryz.prog.funcs[n_l_Comb]? = some Tryz.f88 := Tryz.func88
theorem form_l_Comb : formOf Tryz.prog Tryz.f88 [4] = some G_l_Comb := by kernel_rfl
theorem resc_l_Comb : resCs Tryz.prog Tryz.f88.results.toList = some [(4,some (true,2))] := by kernel_rfl
end Go.AM

namespace Go.AM
open Go.RowKit Go.Proofs
set_option maxHeartbeats 1000000 in
theorem lk_ints_ok (f g : Bool) (l m : List Int) (hl : l.length ≤ 1000000) (hm : m.length ≤ 1000000) : PureOK Tryz.prog n_l_ints [Ls f l,Ls g m] (B (decide (l = m))) := by
 refine pure_of (walk func_l_ints form_l_ints res_l_ints (by show 2 ≤ _; decide) ?_)
 simp -implicitDefEqProofs (disch := omega) [G_l_ints,wrap_id]
 by_cases h : l.length = m.length
 · simp -implicitDefEqProofs (disch := omega) [wrap_id,h]
   refine loop_eq (fun i : Nat => ⟨[(0,Ls f l),(1,Ls g m),(5,I (i : Int))],[]⟩) (fun i => i ≤ l.length ∧ l.take i = m.take i) (fun i => l.length - i) 0 ⟨by omega,rfl⟩ (by simp [h]) ?_
   rintro i ⟨hi,he⟩
   refine hideK' fun K0 hK0 => ?_
   simp -implicitDefEqProofs (disch := omega) [wrap_id]
   refine c_split (fun hc => ?_) (fun hc => ?_)
   · have h1 : i < l.length := by simp at hc; omega
     have h2 : i < m.length := by omega
     have ix : ((i : Int) + 1) = ((i + 1 : Nat) : Int) := by omega
     by_cases e : l[i] = m[i]
     · have e' : (l[i] != m[i]) = false := by simpa using e
       simp -implicitDefEqProofs (disch := omega) [wrap_id,cells_ls,h1,h2,e',cmp2,nthT]
       rw [hK0]
       refine next_eq (i + 1) ⟨by omega,?_⟩ (by omega) (by simp only [ix])
       rw [List.take_add_one,List.take_add_one,he]; simp [h1,h2,e]
     · have e' : (l[i] != m[i]) = true := by simpa using e
       have ne : l ≠ m := fun h => by subst h; exact e rfl
       subst hK0
       simp -implicitDefEqProofs (disch := omega) [wrap_id,cells_ls,h1,h2,e',cmp2,nthT,ne]
   · have h1 : l.length ≤ i := by simp at hc; omega
     have e1 : l.take i = l := List.take_of_length_le h1
     have e2 : m.take i = m := List.take_of_length_le (by omega)
     have e : l = m := by rw [← e1,he,e2]
     subst hK0
     simp -implicitDefEqProofs (disch := omega) [wrap_id,e]
 · have ne : l ≠ m := fun e => h (by rw [e])
   have h' : ((l.length : Int) != (m.length : Int)) = true := by simp; omega
   simp -implicitDefEqProofs (disch := omega) [wrap_id,h',ne]
set_option maxHeartbeats 1000000 in
theorem lk_longs_ok (f g : Bool) (l m : List Int) (hl : l.length ≤ 1000000) (hm : m.length ≤ 1000000) : PureOK Tryz.prog n_l_longs [Ls f l,Ls g m] (B (decide (l = m))) := by
 refine pure_of (walk func_l_longs form_l_longs res_l_longs (by show 2 ≤ _; decide) ?_)
 simp -implicitDefEqProofs (disch := omega) [G_l_longs,wrap_id]
 by_cases h : l.length = m.length
 · simp -implicitDefEqProofs (disch := omega) [wrap_id,h]
   refine loop_eq (fun i : Nat => ⟨[(0,Ls f l),(1,Ls g m),(5,I (i : Int))],[]⟩) (fun i => i ≤ l.length ∧ l.take i = m.take i) (fun i => l.length - i) 0 ⟨by omega,rfl⟩ (by simp [h]) ?_
   rintro i ⟨hi,he⟩
   refine hideK' fun K0 hK0 => ?_
   simp -implicitDefEqProofs (disch := omega) [wrap_id]
   refine c_split (fun hc => ?_) (fun hc => ?_)
   · have h1 : i < l.length := by simp at hc; omega
     have h2 : i < m.length := by omega
     have ix : ((i : Int) + 1) = ((i + 1 : Nat) : Int) := by omega
     by_cases e : l[i] = m[i]
     · have e' : (l[i] != m[i]) = false := by simpa using e
       simp -implicitDefEqProofs (disch := omega) [wrap_id,cells_ls,h1,h2,e',cmp2,nthT]
       rw [hK0]
       refine next_eq (i + 1) ⟨by omega,?_⟩ (by omega) (by simp only [ix])
       rw [List.take_add_one,List.take_add_one,he]; simp [h1,h2,e]
     · have e' : (l[i] != m[i]) = true := by simpa using e
       have ne : l ≠ m := fun h => by subst h; exact e rfl
       subst hK0
       simp -implicitDefEqProofs (disch := omega) [wrap_id,cells_ls,h1,h2,e',cmp2,nthT,ne]
   · have h1 : l.length ≤ i := by simp at hc; omega
     have e1 : l.take i = l := List.take_of_length_le h1
     have e2 : m.take i = m := List.take_of_length_le (by omega)
     have e : l = m := by rw [← e1,he,e2]
     subst hK0
     simp -implicitDefEqProofs (disch := omega) [wrap_id,e]
 · have ne : l ≠ m := fun e => h (by rw [e])
   have h' : ((l.length : Int) != (m.length : Int)) = true := by simp; omega
   simp -implicitDefEqProofs (disch := omega) [wrap_id,h',ne]
theorem lk_rg_ok (a b : Int) : PureOK Tryz.prog n_l_rg [I a,I b] (Pr (a,b)) := by
 refine pure_of (callW_of func_l_rg form_l_rg resc_l_rg (by show 2 ≤ _; decide) ?_)
 simp -implicitDefEqProofs (disch := omega) [G_l_rg,wrap_id]
 exact retC_agg (id := 0) (off := 0) (cs := [I a,I b]) rfl rfl (by simp) (out_of (is := []) rfl)
theorem lk_Row_ok (a b : Int) : PureOK Tryz.prog n_l_Row [I a,I b] (Pr (a,b)) := by
 refine pure_of (callW_of func_l_Row form_l_Row resc_l_Row (by show 2 ≤ _; decide) ?_)
 simp -implicitDefEqProofs (disch := omega) [G_l_Row,wrap_id]
 exact retC_agg (id := 0) (off := 0) (cs := [I a,I b]) rfl rfl (by simp) (out_of (is := []) rfl)
theorem lk_Comb_ok (a b : Int) : PureOK Tryz.prog n_l_Comb [I a,I b] (Pr (a,b)) := by
 refine pure_of (callW_of func_l_Comb form_l_Comb resc_l_Comb (by show 2 ≤ _; decide) ?_)
 simp -implicitDefEqProofs (disch := omega) [G_l_Comb,wrap_id]
 exact retC_agg (id := 0) (off := 0) (cs := [I a,I b]) rfl rfl (by simp) (out_of (is := []) rfl)
end Go.AM

namespace Go.AM
open Go.RowKit Go.Proofs
abbrev shS : SH := ⟨[(10,3),(15,2)],[(5,6),(15,15),(20,22),(25,26),(35,37)]⟩
set_option maxHeartbeats 1000000 in
theorem lk_Sheet_ok : PureOK Tryz.prog n_l_Sheet [] (Sn true true shS) := by
 refine pure_of (callW_of func_l_Sheet form_l_Sheet resc_l_Sheet (by show 0 ≤ _; decide) ?_)
 simp -implicitDefEqProofs (disch := omega) [G_l_Sheet,wrap_id]
 refine callW_pure rfl (lk_Comb_ok 10 3) ?_
 simp -implicitDefEqProofs (disch := omega) [wrap_id,cmp2,nthT]
 refine callW_pure rfl (lk_Comb_ok 15 2) ?_
 simp -implicitDefEqProofs (disch := omega) [wrap_id,cmp2,nthT]
 refine bsl_of (sz := 2) (ys := [Pr (10,3),Pr (15,2)]) (by rfl) (by rfl) ?_
 simp -implicitDefEqProofs (disch := omega) [wrap_id,zrep]
 refine callW_pure rfl (lk_rg_ok 5 6) ?_
 simp -implicitDefEqProofs (disch := omega) [wrap_id]
 refine callW_pure rfl (lk_rg_ok 15 15) ?_
 simp -implicitDefEqProofs (disch := omega) [wrap_id]
 refine callW_pure rfl (lk_rg_ok 20 22) ?_
 simp -implicitDefEqProofs (disch := omega) [wrap_id]
 refine callW_pure rfl (lk_rg_ok 25 26) ?_
 simp -implicitDefEqProofs (disch := omega) [wrap_id]
 refine callW_pure rfl (lk_rg_ok 35 37) ?_
 simp -implicitDefEqProofs (disch := omega) [wrap_id]
 refine bsl_of (sz := 2) (ys := [Pr (5,6),Pr (15,15),Pr (20,22),Pr (25,26),Pr (35,37)]) (by rfl) (by rfl) ?_
 simp -implicitDefEqProofs (disch := omega) [wrap_id,zrep]
 exact retC_agg (id := 0) (off := 0) (cs := [Ps true shS.k,Ps true shS.m]) rfl rfl (by simp) (out_of (is := []) rfl)
end Go.AM

namespace Go.AM
open Go.RowKit Go.Proofs
abbrev shT : SH := ⟨[(10,3)],[(5,6),(15,15),(20,22),(25,26),(35,37)]⟩
theorem wS0 : shtE shS = 0 := by decide +kernel
theorem wT0 : shtE shT = 0 := by decide +kernel
theorem wS1 : hasL shS (0,5) = [0,1,3] ∧ hasE shS (0,5) = 0 ∧ hasE shS (0,6) = 19 := by decide +kernel
theorem wS2 : plsL shS 1 = [5,6,20,21,22] ∧ plsE shS 1 = 0 := by decide +kernel
theorem wT1 : lstL shT = [2] ∧ lostL shT ≠ [] := by decide +kernel
theorem wS3 : lostL shS = [] := by decide +kernel
theorem wS4 : rwsE2 shS [(0,5),(0,15)] = 16 := by decide +kernel
theorem wS5 : apaL shS = [0,4] := by decide +kernel
theorem wS6 : aprE shS [0,2] = 14 := by decide +kernel
theorem wS7 : cwA shS (allR shS) 0 1 = 0 ∧ cwA shS (allR shS) 0 2 = 5 := by decide +kernel
theorem wS8 : cwA shS (rstK shS (0,5)) 0 1 = 0 ∧ 0 < cwA shS (rstK shS (0,5)) 0 2 ∧ 0 < cwA shS (rstK shS (0,5)) (bitO shS (0,5)) 1 := by decide +kernel
theorem wS9 : spcL [(5,6),(15,15),(25,26)] = [(10,5,5)] ∧ spcE [(5,6),(15,15),(25,26)] = 0 := by decide +kernel
theorem bst_rk {s : SH} {R : List (Int × Int)} (h : Bst s R) : RkR s (allR s) 0 R.length (allN s) := ⟨R.map fun r => bitO s r,by simp,fun k hk => by
 obtain ⟨r,hr,rfl⟩ := List.mem_map.1 hk
 exact ⟨r,h.mem r hr,rfl⟩,h.all⟩
theorem bst_two {R : List (Int × Int)} (h : Bst shS R) (h0 : R ≠ []) : R.length = 2 := by
 have hv := val_of wS0
 have w := pw_12 hv
 have a : RkR shS (allR shS) 0 2 (allN shS) := RkR_of_cw hv (by omega) (by have := wS7.2; unfold cwA at this; unfold allN; omega)
 have l0 : 0 < R.length := List.length_pos_iff.2 h0
 have l2 : ¬ 2 < R.length := fun hh => h.few 2 hh a
 refine Classical.byContradiction fun hne => ?_
 have l1 : R.length = 1 := by omega
 have b := bst_rk h
 rw [l1] at b
 have := cw_of_RkR hv (by omega) b fun k hk hr => h.few k (by omega) hr
 have := wS7.1
 unfold cwA allN at *
 omega
theorem bst_rws {s : SH} (h0 : shtE s = 0) {R : List (Int × Int)} (h : Bst s R) (ho : OrdR R) : rwsE2 s R = 0 := by
 have hv := val_of h0
 have hm12 := hv.m12
 have hl := h.len
 unfold rwsE2
 rw [if_neg (by omega),if_neg (by omega),if_neg,if_neg,if_neg,if_neg]
 · intro hne
   apply hne
   have := foldl_or_le (s := s) (R := R)
   rw [← this,h.all]; rfl
 · unfold dupK
   rw [Bool.not_eq_true,List.any_eq_false]
   intro i hi hc
   have hi := List.mem_range.1 hi
   rw [List.contains_iff_mem,List.getD_eq_getElem?_getD,List.getElem?_eq_getElem hi] at hc
   obtain ⟨k,hk,e⟩ := List.mem_iff_getElem.1 hc
   rw [List.length_take] at hk
   rw [List.getElem_take] at e
   have := (List.pairwise_iff_getElem.1 ho) k i (by omega) hi (by omega)
   simp only [Option.getD_some] at e
   rw [e] at this
   omega
 · rw [Bool.not_eq_true,List.any_eq_false]
   intro r hr
   have := (isK_allR (h.mem r hr)).2
   simpa using this
 · rw [Bool.not_eq_false,List.all_eq_true]
   exact fun r hr => (isK_allR (h.mem r hr)).1
theorem ansW_S : AnsW shS (allR shS) 2 5 := by
 refine .inr ⟨by decide,by decide,by have := wS7.2; omega,fun k h1 h2 => ?_,by rw [wS7.2]; rfl⟩
 have : k = 1 := by omega
 subst this; exact wS7.1
theorem ansW_S2 : ∃ d,AnsW shS (rstK shS (0,5)) 2 d := by
 refine ⟨_,.inr ⟨by decide,by decide,wS8.2.1,fun k h1 h2 => ?_,rfl⟩⟩
 have : k = 1 := by omega
 subst this; exact wS8.1
theorem ansCt_S : AnsCt shS 5 0 := .inr ⟨wS0,.inr ⟨wS3,2,5,ansW_S,.inr ⟨by decide,rfl,rfl⟩⟩⟩
theorem ansKd_S : AnsKd shS (0,5) 1 0 := by
 obtain ⟨d,hd⟩ := ansW_S2
 exact .inr ⟨wS0,.inr ⟨by decide,.inr ⟨wS3,.inr ⟨by decide +kernel,rfl,2,5,2,d,ansW_S,hd,.inr (.inl ⟨rfl,wS8.2.2,rfl⟩)⟩⟩⟩⟩
theorem wh_S : whE shS [] = 0 := by unfold whE; rw [wS0,wS3]; rfl
theorem wh_T : whE shT [] = 19 := by unfold whE; rw [if_neg (by rw [wT0]; decide),if_neg (by decide),if_pos wT1.2]
end Go.AM

namespace Go.AM
open Go.RowKit Go.Proofs
theorem ansM_1 : AnsM 10 15 5 0 15 30 0 := .inr ⟨by unfold okM; decide,.inr ⟨by decide,by unfold Both; omega,fun x h1 h2 => by unfold Both; omega,by decide,rfl⟩⟩
theorem ansM_2 : AnsM 10 15 0 7 0 0 5 := .inr ⟨by unfold okM; decide,.inl ⟨fun x h1 => by unfold Both; omega,rfl,rfl,rfl⟩⟩
set_option maxHeartbeats 8000000 in
theorem lk_Works_ok : PureOK Tryz.prog n_l_Works [] (B true) := by
 have zS : SzS shS := ⟨by decide,by decide⟩
 have zT : SzS shT := ⟨by decide,by decide⟩
 refine pure_of (walk func_l_Works form_l_Works res_l_Works (by show 0 ≤ _; decide) ?_)
 simp -implicitDefEqProofs (disch := omega) [G_l_Works,wrap_id]
 refine callW_pure rfl lk_Sheet_ok ?_
 simp -implicitDefEqProofs (disch := omega) [wrap_id]
 refine callW_pure rfl lk_Sheet_ok ?_
 simp -implicitDefEqProofs (disch := omega) [wrap_id]
 have tk : List.take 2 (flat2 [((10 : Int),(3 : Int)),(15,2)]) = flat2 [(10,3)] := rfl
 refine ⟨rfl,?_⟩
 rw [tk]
 have cH := k_Has_ok true true shS zS (0,5)
 rw [wS1.1,wS1.2.1] at cH
 have cH2 := k_Has_ok true true shS zS (0,6)
 rw [wS1.2.2] at cH2
 have cP := k_Places_ok true true shS zS 1
 rw [wS2.1,wS2.2] at cP
 have cL := k_Lost_ok false true shT zT
 rw [wT1.1,wT0] at cL
 have cA := k_Apart_ok true true shS zS
 rw [wS5,wS0] at cA
 generalize hX : hasL shS (0,6) = X6 at cH2
 refine pureW_of rfl (lk_Row_ok 0 5) ?_
 simp -implicitDefEqProofs (disch := omega) [wrap_id,cmp2,nthT]
 refine pureW_of (ys := [Sn true true shS,Pr (0,5)]) (ids := []) rfl cH ?_
 simp -implicitDefEqProofs (disch := omega) [wrap_id,cmp2,nthT]
 refine pureW_of rfl (lk_Row_ok 0 6) ?_
 simp -implicitDefEqProofs (disch := omega) [wrap_id,cmp2,nthT]
 refine pureW_of (ys := [Sn true true shS,Pr (0,6)]) (ids := []) rfl cH2 ?_
 simp -implicitDefEqProofs (disch := omega) [wrap_id,cmp2,nthT]
 refine callW_pure (ys := [Sn true true shS,I 1]) (ids := []) rfl cP ?_
 simp -implicitDefEqProofs (disch := omega) [wrap_id,cmp2,nthT]
 refine callW_pure (ys := [Sn false true shT]) (ids := []) rfl cL ?_
 simp -implicitDefEqProofs (disch := omega) [wrap_id,cmp2,nthT]
 refine k_Best_v (f := true) (g := true) (s := shS) zS (mpp_list rfl) (fun h => absurd wh_S h) (fun _ _ _ R hR hB hO => ?_)
 have lR := bst_two hB hR
 have cR := bst_rws wS0 hB hO
 simp -implicitDefEqProofs (disch := omega) [wrap_id,cmp2,nthT]
 refine k_Best_v (f := false) (g := true) (s := shT) zT (mpp_list rfl) (fun _ => ?_) (fun h => absurd (wh_T.symm.trans h) (by decide))
 rw [wh_T]
 simp -implicitDefEqProofs (disch := omega) [wrap_id,cmp2,nthT]
 refine callW_pure (ys := [Sn true true shS]) (ids := []) rfl (k_Count_ok true true shS zS ansCt_S) ?_
 simp -implicitDefEqProofs (disch := omega) [wrap_id,cmp2,nthT]
 refine pureW_of rfl (lk_Row_ok 0 5) ?_
 simp -implicitDefEqProofs (disch := omega) [wrap_id,cmp2,nthT]
 refine pureW_of rfl (lk_Row_ok 0 15) ?_
 simp -implicitDefEqProofs (disch := omega) [wrap_id,cmp2,nthT]
 have cC := k_CheckRows_ok true true true shS zS [(0,5),(0,15)] (by decide)
 rw [wS4] at cC
 have cQ := k_CheckApart_ok true true true shS zS [0,2] (by decide)
 rw [wS6] at cQ
 have cS := k_Spaces_ok true [(5,6),(15,15),(25,26)] (by decide)
 rw [wS9.1,wS9.2] at cS
 refine bsl_of (sz := 2) (ys := [Pr (0,5),Pr (0,15)]) (by rfl) (by rfl) ?_
 simp -implicitDefEqProofs (disch := omega) [wrap_id,zrep]
 refine pureW_of (ys := [Sn true true shS,Ps true [(0,5),(0,15)]]) (ids := []) rfl cC ?_
 simp -implicitDefEqProofs (disch := omega) [wrap_id,cmp2,nthT,disj]
 refine callW_pure (ys := [Sn true true shS]) (ids := []) rfl cA ?_
 simp -implicitDefEqProofs (disch := omega) [wrap_id,cmp2,nthT]
 refine bsl_of (ys := [I 0,I 2]) (by rfl) (by rfl) ?_
 simp -implicitDefEqProofs (disch := omega) [wrap_id,zrep]
 refine callW_pure (ys := [Sn true true shS,Ls true [0,2]]) (ids := []) rfl cQ ?_
 simp -implicitDefEqProofs (disch := omega) [wrap_id,cmp2,nthT]
 refine pureW_of rfl (lk_Row_ok 0 5) ?_
 simp -implicitDefEqProofs (disch := omega) [wrap_id,cmp2,nthT]
 refine pureW_of (ys := [Sn true true shS,Pr (0,5)]) (ids := []) rfl (k_Kind_ok true true shS zS (0,5) ansKd_S) ?_
 simp -implicitDefEqProofs (disch := omega) [wrap_id,cmp2,nthT]
 refine callW_pure rfl (k_Meet_ok 10 15 5 0 ansM_1) ?_
 simp -implicitDefEqProofs (disch := omega) [wrap_id,cmp2,nthT]
 refine callW_pure rfl (k_Meet_ok 10 15 0 7 ansM_2) ?_
 simp -implicitDefEqProofs (disch := omega) [wrap_id,cmp2,nthT]
 refine callW_pure rfl (lk_rg_ok 5 6) ?_
 simp -implicitDefEqProofs (disch := omega) [wrap_id]
 refine callW_pure rfl (lk_rg_ok 15 15) ?_
 simp -implicitDefEqProofs (disch := omega) [wrap_id]
 refine callW_pure rfl (lk_rg_ok 25 26) ?_
 simp -implicitDefEqProofs (disch := omega) [wrap_id]
 refine bsl_of (sz := 2) (ys := [Pr (5,6),Pr (15,15),Pr (25,26)]) (by rfl) (by rfl) ?_
 simp -implicitDefEqProofs (disch := omega) [wrap_id,zrep]
 refine callW_pure (ys := [Ps true [(5,6),(15,15),(25,26)]]) (ids := []) rfl cS ?_
 simp -implicitDefEqProofs (disch := omega) [wrap_id]
 refine bsl_of (ys := [I 0,I 1,I 3]) (by rfl) (by rfl) ?_
 simp -implicitDefEqProofs (disch := omega) [wrap_id,zrep]
 refine pureW_of rfl (lk_ints_ok false true [0,1,3] [0,1,3] (by decide) (by decide)) ?_
 simp -implicitDefEqProofs (disch := omega) [wrap_id]
 refine bsl_of (ys := [I 5,I 6,I 20,I 21,I 22]) (by rfl) (by rfl) ?_
 simp -implicitDefEqProofs (disch := omega) [wrap_id,zrep]
 refine pureW_of rfl (lk_longs_ok false true [5,6,20,21,22] [5,6,20,21,22] (by decide) (by decide)) ?_
 simp -implicitDefEqProofs (disch := omega) [wrap_id]
 refine bsl_of (ys := [I 2]) (by rfl) (by rfl) ?_
 simp -implicitDefEqProofs (disch := omega) [wrap_id,zrep]
 refine pureW_of rfl (lk_ints_ok false true [2] [2] (by decide) (by decide)) ?_
 simp -implicitDefEqProofs (disch := omega) [wrap_id,lR]
 have cRR := r_CheckRows_ok true true false shS zS R (by omega)
 rw [cR] at cRR
 refine pureW_of (ys := [Sn true true shS,Ps false R]) (ids := []) rfl cRR ?_
 simp -implicitDefEqProofs (disch := omega) [wrap_id]
 refine bsl_of (ys := [I 0,I 4]) (by rfl) (by rfl) ?_
 simp -implicitDefEqProofs (disch := omega) [wrap_id,zrep]
 refine pureW_of rfl (lk_ints_ok false true [0,4] [0,4] (by decide) (by decide)) ?_
 simp -implicitDefEqProofs (disch := omega) [wrap_id]
 refine ⟨rfl,by decide,?_⟩
 rw [show List.take 3 (flat3 [((10 : Int),(5 : Int),(5 : Int))]) = [I 10,I 5,I 5] from rfl]
 refine pureW_of rfl (lk_rg_ok 5 5) ?_
 simp -implicitDefEqProofs (disch := omega) [wrap_id]
 rw [eqk_of (neg := false) (a := rowV [10,5,5]) (b := rowV [10,5,5]) (z := true) rfl rfl rfl]
 simp -implicitDefEqProofs (disch := omega) [wrap_id,cmp2,nthT,disj]
end Go.AM

namespace Go.AM
open Go.RowKit Go.Proofs
section
variable {w : World}
theorem rd3 : Rd Tryz.prog w 3 fun xs => ∃ n,xs = [I n] := rd_mono (rd_int Tryz.underlying3 (by kernel_rfl)) fun xs ⟨n,h1,h2⟩ => ⟨n,h1⟩
theorem rd2 : Rd Tryz.prog w 2 fun xs => ∃ n,xs = [I n] := rd_mono (rd_int Tryz.underlying2 (by kernel_rfl)) fun xs ⟨n,h1,h2⟩ => ⟨n,h1⟩
theorem rd5 : Rd Tryz.prog w 5 fun xs => ∃ n,xs = [.v (.int .u8 n)] ∧ 0 ≤ n ∧ n ≤ 255 := rd_mono (rd_int Tryz.underlying5 (by kernel_rfl)) fun xs ⟨n,h1,h2⟩ => ⟨n,h1,by
 simp [Lit.wf,IntKind.min,IntKind.max,IntKind.signed,IntKind.bits] at h2
 omega⟩
theorem rd77 : Rd Tryz.prog w 77 fun xs => ∃ n,xs = [.v (.int .u16 n)] ∧ 0 ≤ n ∧ n ≤ 65535 := rd_mono (rd_int Tryz.underlying77 (by kernel_rfl)) fun xs ⟨n,h1,h2⟩ => ⟨n,h1,by
 simp [Lit.wf,IntKind.min,IntKind.max,IntKind.signed,IntKind.bits] at h2
 omega⟩
theorem rd27 : Rd Tryz.prog w 27 fun xs => ∃ p : Int × Int,xs = [I p.1,I p.2] :=
 rd_mono (rd_struct2 Tryz.underlying27 (c0 := 1) (c1 := 1) (by kernel_rfl) rfl rfl (by kernel_rfl) (by kernel_rfl) rd3 rd2) fun xs ⟨a0,a1,_,_,h,⟨n,h1⟩,⟨m,h3⟩⟩ => ⟨(n,m),by rw [h,h1,h3]; rfl⟩
theorem rd72 : Rd Tryz.prog w 72 fun xs => ∃ p : Int × Int,xs = [I p.1,I p.2] :=
 rd_mono (rd_struct2 Tryz.underlying72 (c0 := 1) (c1 := 1) (by kernel_rfl) rfl rfl (by kernel_rfl) (by kernel_rfl) rd2 rd3) fun xs ⟨a0,a1,_,_,h,⟨n,h1⟩,⟨m,h3⟩⟩ => ⟨(n,m),by rw [h,h1,h3]; rfl⟩
theorem rd79 : Rd Tryz.prog w 79 fun xs => ∃ p : Int × Int,xs = [I p.1,I p.2] :=
 rd_mono (rd_struct2 Tryz.underlying79 (c0 := 1) (c1 := 1) (by kernel_rfl) rfl rfl (by kernel_rfl) (by kernel_rfl) rd2 rd2) fun xs ⟨a0,a1,_,_,h,⟨n,h1⟩,⟨m,h3⟩⟩ => ⟨(n,m),by rw [h,h1,h3]; rfl⟩
theorem ints_ofC : ∀ {els : List (List AV)},(∀ x ∈ els,x.length = 1 ∧ ∃ n,x = [I n]) → ∃ l : List Int,l.length = els.length ∧ els.flatten = l.map (fun n => I n)
 | [],_ => ⟨[],rfl,rfl⟩
 | x :: els,h => by
   obtain ⟨l,h1,h2⟩ := ints_ofC (els := els) (fun y hy => h y (by simp [hy]))
   obtain ⟨_,n,rfl⟩ := h x (by simp)
   exact ⟨n :: l,by simp [h1],by simp [h2]⟩
theorem pairs_ofC : ∀ {els : List (List AV)},(∀ x ∈ els,x.length = 2 ∧ ∃ p : Int × Int,x = [I p.1,I p.2]) → ∃ l : List (Int × Int),l.length = els.length ∧ els.flatten = flat2 l
 | [],_ => ⟨[],rfl,rfl⟩
 | x :: els,h => by
   obtain ⟨l,h1,h2⟩ := pairs_ofC (els := els) (fun y hy => h y (by simp [hy]))
   obtain ⟨_,p,rfl⟩ := h x (by simp)
   exact ⟨p :: l,by simp [h1],by rw [List.flatten_cons,h2]; rfl⟩
theorem rd30 : Rd Tryz.prog w 30 fun xs => ∃ l : List Int,xs = [Ls false l] :=
 rd_mono (rd_slice Tryz.underlying30 (by kernel_rfl) (sz := 1) (by kernel_rfl) (by omega) rd3) fun xs ⟨els,h1,h2,h3⟩ => by
  obtain ⟨l,k1,k2⟩ := ints_ofC h1
  exact ⟨l,by rw [h2,k2,← k1]⟩
theorem rd42 : Rd Tryz.prog w 42 fun xs => ∃ l : List (Int × Int),xs = [Ps false l] :=
 rd_mono (rd_slice Tryz.underlying42 (by kernel_rfl) (sz := 2) (by kernel_rfl) (by omega) rd27) fun xs ⟨els,h1,h2,h3⟩ => by
  obtain ⟨l,k1,k2⟩ := pairs_ofC h1
  exact ⟨l,by rw [h2,k2,← k1]⟩
theorem rd22 : Rd Tryz.prog w 22 fun xs => ∃ l : List (Int × Int),xs = [Ps false l] :=
 rd_mono (rd_slice Tryz.underlying22 (by kernel_rfl) (sz := 2) (by kernel_rfl) (by omega) rd72) fun xs ⟨els,h1,h2,h3⟩ => by
  obtain ⟨l,k1,k2⟩ := pairs_ofC h1
  exact ⟨l,by rw [h2,k2,← k1]⟩
theorem rd23 : Rd Tryz.prog w 23 fun xs => ∃ l : List (Int × Int),xs = [Ps false l] :=
 rd_mono (rd_slice Tryz.underlying23 (by kernel_rfl) (sz := 2) (by kernel_rfl) (by omega) rd79) fun xs ⟨els,h1,h2,h3⟩ => by
  obtain ⟨l,k1,k2⟩ := pairs_ofC h1
  exact ⟨l,by rw [h2,k2,← k1]⟩
theorem rd25 : Rd Tryz.prog w 25 fun xs => ∃ s : SH,xs = [Ps false s.k,Ps false s.m] :=
 rd_mono (rd_struct2 Tryz.underlying25 (c0 := 1) (c1 := 1) (by kernel_rfl) rfl rfl (by kernel_rfl) (by kernel_rfl) rd22 rd23) fun xs ⟨a0,a1,_,_,h,⟨l,h1⟩,⟨m,h3⟩⟩ => ⟨⟨l,m⟩,by rw [h,h1,h3]; rfl⟩
end
theorem tab_of {W : World} {laid : List (String × DataW Unit)} (hl : laid = [("math/bits.deBruijn32tab", YtfpfnlnmilndmaaGreatDoor.Rows.laid_math_bits_deBruijn32tab), ("math/bits.deBruijn64tab", YtfpfnlnmilndmaaGreatDoor.Rows.laid_math_bits_deBruijn64tab)]) (h : laidMet Tryz.prog laid W) : TabOK (gAll W) W := by
 subst hl
 have h2 := laidMet.tail h
 have htab : Lib.TabIs Tryz.prog W "math/bits.deBruijn64tab" .u8 (Lib.deBruijn64tab.map fun z : Nat => (z : Int)) := Lib.tabIs_of_head (g := 1) (t := 161) (e := 5) (n := 64) (by kernel_rfl) (by kernel_rfl) (by kernel_rfl) (by kernel_rfl) (by kernel_rfl) (by kernel_rfl) h2
 intro t ht i hi
 have e : t = (1,Lib.deBruijn64tab.map fun z : Nat => Value.int .u8 (z : Nat)) := by
  simpa [gtab] using ht
 subst e
 have hi2 : i < (Lib.deBruijn64tab.map fun z : Nat => (z : Int)).length := by simpa using hi
 have hc := htab.cell (g := 1) (by kernel_rfl) i hi2
 have ev : (Lib.deBruijn64tab.map fun z : Nat => Value.int .u8 ((z : Nat) : Int))[i]'(by simpa using hi) = Value.int .u8 ((Lib.deBruijn64tab.map fun z : Nat => (z : Int)).getD i 0) := by
  rw [List.getElem_map,List.getD_eq_getElem?_getD,List.getElem?_eq_getElem hi2,List.getElem_map]; rfl
 exact ⟨⟨_,hc⟩,by rw [hc]; exact congrArg some ev.symm⟩
end Go.AM
