/-
  Kc5: texts joined: Ce10 Ce11 Ce12 Ce13 Ce14 Ce15 Ce16 Tk1 Ce17 Tk2 Ce18 Tk3 Ce19 Tk4 Ce20 Tk5 Tk6 Cb21 Ce21 Tk7 Ce22 So1 So2 So4 So3 So5. Own work.
-/
import Derived.Test.YtfpfnlnmilndmaaGreatDoorKc4
set_option linter.unusedSimpArgs false
set_option linter.unusedVariables false

namespace Go.AM
open Go.RowKit Go.Proofs
structure GE where
 key : Nat
 born : Nat
 id : Nat
 rows : List (Int × Int)
abbrev ksU : KS := (false,[.int])
def keyU (k : Nat) : Value := .int .u64 (k : Int)
def entU (e : GE) : Value × Nat × AV := (keyU e.key,e.born,.ms e.id 0 e.rows.length 2)
def mpG (E : List GE) (clk : Nat) : HObj := .mp (E.map entU) clk
structure GrH (hp : List HObj) (m : Nat) (E : List GE) (clk : Nat) : Prop where
 mp : nthH hp m = some (mpG E clk)
 cel : ∀ e ∈ E,nthH hp e.id = some (.cells (flat2 e.rows))
 key : E.Pairwise fun a b => a.key ≠ b.key
 brs : E.Pairwise fun a b => a.born ≠ b.born
 brn : ∀ e ∈ E,e.born < clk
 ids : E.Pairwise fun a b => a.id ≠ b.id
 ne : ∀ e ∈ E,e.rows ≠ []
 sm : ∀ e ∈ E,0 < e.key ∧ e.key < 4096
 ln : ∀ e ∈ E,e.rows.length ≤ 10000
theorem eqK_u {a b : Nat} : eqK ksU (keyU a) (keyU b) = some (decide (a = b)) := by
 have : ((a : Int) == (b : Int)) = decide (a = b) := by rw [Bool.eq_iff_iff,beq_iff_eq,decide_eq_true_eq]; omega
 simp [eqK,eqLeaf,keyU,this]
theorem ufind_none {k : Nat} : ∀ {E : List GE} {i : Nat},(∀ e ∈ E,e.key ≠ k) → mfind ksU (keyU k) (E.map entU) i = some none
 | [],_,_ => rfl
 | e :: E,i,h => by
   have h1 : ¬ k = e.key := fun e1 => h e (by simp) e1.symm
   simp only [List.map_cons,mfind,entU,eqK_u,decide_eq_false h1]
   exact ufind_none fun e he => h e (by simp [he])
theorem ufind_some {k : Nat} {e : GE} {B : List GE} (he : e.key = k) : ∀ {A : List GE} {i : Nat},(∀ r ∈ A,r.key ≠ k) → mfind ksU (keyU k) ((A ++ e :: B).map entU) i = some (some (i + A.length))
 | [],i,_ => by simp [mfind,entU,eqK_u,he]
 | a :: A,i,h => by
   have h1 : ¬ k = a.key := fun e1 => h a (by simp) e1.symm
   simp only [List.cons_append,List.map_cons,mfind,entU,eqK_u,decide_eq_false h1]
   rw [ufind_some he fun r hr => h r (by simp [hr])]
   simp; omega
theorem ucases (k : Nat) : ∀ (E : List GE), (∀ e ∈ E, e.key ≠ k) ∨ ∃ A e B, E = A ++ e :: B ∧ e.key = k ∧ ∀ r ∈ A, r.key ≠ k
 | [] => .inl fun e h => by cases h
 | a :: E => by
   by_cases ha : a.key = k
   · exact .inr ⟨[],a,E,rfl,ha,fun r h => by cases h⟩
   · rcases ucases k E with h | ⟨A,e,B,rfl,h2,h3⟩
     · exact .inl fun e he => by
        rcases List.mem_cons.1 he with rfl | he
        · exact ha
        · exact h e he
     · exact .inr ⟨a :: A,e,B,rfl,h2,fun r hr => by
        rcases List.mem_cons.1 hr with rfl | hr
        · exact ha
        · exact h3 r hr⟩
section
variable {P : Program} {F : Nat → AV} {hp : List HObj} {K : AV → List (Nat × HObj) → Prop}
theorem lkuU {d x k clk : Nat} {z : AV} {m ky : Opd} {E : List GE} (hm : evF F m = .mp x) (hk : evF F ky = W64 k) (ho : nthH hp x = some (mpG E clk))
 (k1 : ∀ A e B,E = A ++ e :: B → e.key = k → (∀ r ∈ A,r.key ≠ k) → K (.ms e.id 0 e.rows.length 2) []) (k2 : (∀ e ∈ E,e.key ≠ k) → K z []) :
 (AOp.lku d ksU z false m ky).wp P F hp K := by
 rcases ucases k E with h | ⟨A,e,B,rfl,h2,h3⟩
 · refine ⟨z,[],?_,k2 h⟩
   simp only [AOp.sem,hm,hpf_of' ho,mpG,hk]
   exact ⟨keyU k,rfl,by rw [eqK_u]; simp,(by first | rfl | trivial),.inr ⟨ufind_none h,rfl⟩⟩
 · refine ⟨.ms e.id 0 e.rows.length 2,[],?_,k1 A e B rfl h2 h3⟩
   simp only [AOp.sem,hm,hpf_of' ho,mpG,hk]
   refine ⟨keyU k,rfl,by rw [eqK_u]; simp,(by first | rfl | trivial),.inl ⟨A.length,entU e,?_,by simp,rfl⟩⟩
   have := ufind_some h2 (B := B) (i := 0) h3
   rw [Nat.zero_add] at this; exact this
def Chg (G : List HObj) (x : Nat) (o : HObj) (G' : List HObj) : Prop := G.length ≤ G'.length ∧ ∀ i,nthH G' i = if i = x then some o else nthH G i
theorem chg_of {G : List HObj} {x : Nat} {o : HObj} (h : x < G.length) : Chg G x o (writeL G [(x,o)]) := by
 refine ⟨writeL_len _ _,fun i => ?_⟩
 rw [nthH_writeL (by simp; omega)]
 simp only [Hp.write]
 split
 · rename_i e; subst e; rw [Hp.set_same]
 · rename_i e; rw [Hp.set_other _ _ e,nthH_eq]; rfl
theorem insU {x k clk : Nat} {v : AV} {m ky vv : Opd} {E : List GE} (hm : evF F m = .mp x) (hk : evF F ky = W64 k) (hv : evF F vv = v) (ho : nthH hp x = some (mpG E clk))
 (k1 : ∀ A e B,E = A ++ e :: B → e.key = k → (∀ r ∈ A,r.key ≠ k) → K .any [(x,.mp ((A ++ e :: B).map entU |>.set A.length (keyU k,e.born,v)) clk)])
 (k2 : (∀ e ∈ E,e.key ≠ k) → K .any [(x,.mp (E.map entU ++ [(keyU k,clk,v)]) (clk + 1))]) :
 (AOp.ins ksU m ky vv).wp P F hp K := by
 rcases ucases k E with h | ⟨A,e,B,rfl,h2,h3⟩
 · refine ⟨.any,_,?_,k2 h⟩
   simp only [AOp.sem,hm,hpf_of' ho,mpG,hk,hv]
   exact ⟨keyU k,rfl,by rw [eqK_u]; simp,(by first | rfl | trivial),.inr ⟨ufind_none h,rfl⟩⟩
 · refine ⟨.any,_,?_,k1 A e B rfl h2 h3⟩
   simp only [AOp.sem,hm,hpf_of' ho,mpG,hk,hv]
   refine ⟨keyU k,rfl,by rw [eqK_u]; simp,(by first | rfl | trivial),.inl ⟨A.length,entU e,?_,by simp,?_⟩⟩
   · have := ufind_some h2 (B := B) (i := 0) h3
     rw [Nat.zero_add] at this; exact this
   · simp only [entU]; rw [h2]
theorem delU {x k clk : Nat} {m ky : Opd} {E : List GE} (hm : evF F m = .mp x) (hk : evF F ky = W64 k) (ho : nthH hp x = some (mpG E clk))
 (k1 : ∀ A e B,E = A ++ e :: B → e.key = k → (∀ r ∈ A,r.key ≠ k) → K .any [(x,mpG (A ++ B) clk)]) (k2 : (∀ e ∈ E,e.key ≠ k) → K .any []) :
 (AOp.del ksU m ky).wp P F hp K := by
 rcases ucases k E with h | ⟨A,e,B,rfl,h2,h3⟩
 · refine ⟨.any,[],?_,k2 h⟩
   simp only [AOp.sem,hm,hpf_of' ho,mpG,hk]
   exact ⟨keyU k,rfl,by rw [eqK_u]; simp,(by first | rfl | trivial),.inr ⟨ufind_none h,(by first | rfl | trivial)⟩⟩
 · refine ⟨.any,_,?_,k1 A e B rfl h2 h3⟩
   simp only [AOp.sem,hm,hpf_of' ho,mpG,hk]
   refine ⟨keyU k,rfl,by rw [eqK_u]; simp,(by first | rfl | trivial),.inl ⟨A.length,?_,?_⟩⟩
   · have := ufind_some h2 (B := B) (i := 0) h3
     rw [Nat.zero_add] at this; exact this
   · have : ((A ++ e :: B).map entU).eraseIdx A.length = (A ++ B).map entU := by
      rw [List.map_append,List.map_cons,List.eraseIdx_append_of_length_le (by simp)]
      simp
     rw [this]
theorem rngU {x clk : Nat} {E : List GE} (ho : nthH hp x = some (mpG E clk)) (k : K (.ref hp.length 0) [(hp.length,.it x clk [] clk)]) : RngX hp (.mp x) K := by
 simp only [RngX,ho,mpG]; exact k
theorem nxtU {it x clk : Nat} {E : List GE} {S : List Nat} (hi : nthH hp it = some (.it x clk S clk)) (hL : GrH hp x E clk)
 (k0 : (∀ q ∈ E,q.born ∈ S) → K (.tup [B false]) [])
 (k1 : ∀ q ∈ E,q.born ∉ S → K (.tup [B true,W64 q.key,.ms q.id 0 q.rows.length 2]) [(it,.it x clk (S ++ [q.born]) clk)]) : NxtX hp (.ref it 0) K := by
 have ho := hL.mp
 simp only [NxtX,AOp.many,evF,hpf_of' hi,hpf_of' ho,mpG]
 refine ⟨?_,fun h => k0 fun q hq => ?_,fun e he hs => ?_⟩
 · match E,hL with
   | [],_ => simp
   | q :: E,hL =>
     have := hL.brn q (by simp)
     have : decide (clk ≤ (entU q).2.1) = false := decide_eq_false (by show ¬ clk ≤ q.born; omega)
     simp only [List.map_cons,List.all_cons,this,Bool.false_and,Bool.not_false,Bool.or_true]
 · refine Classical.byContradiction fun hn => ?_
   have hm : entU q ∈ (E.map entU).filter fun e => !S.contains e.2.1 && decide (e.2.1 < clk) := by
    rw [List.mem_filter]
    refine ⟨List.mem_map_of_mem hq,?_⟩
    have := hL.brn q hq
    simp [entU,hn,this]
   rw [List.isEmpty_iff] at h
   rw [h] at hm; cases hm
 · obtain ⟨q,hq,rfl⟩ := List.mem_map.1 he
   exact k1 q hq (by simpa [entU] using hs)
theorem find_u {q : GE} : ∀ {E : List GE},q ∈ E → (E.Pairwise fun q r => q.born ≠ r.born) → (E.map entU).find? (fun e => e.2.1 == q.born) = some (entU q)
 | [],h,_ => by cases h
 | r :: E, h, hp => by
   rw [List.pairwise_cons] at hp
   rw [List.map_cons,List.find?_cons]
   rcases List.mem_cons.1 h with rfl | h
   · simp [entU]
   · have := hp.1 q h
     have : ((entU r).2.1 == q.born) = false := by simp only [entU,beq_eq_false_iff_ne,ne_eq]; exact this
     rw [this]
     exact find_u h hp.2
theorem entU_of {it x clk : Nat} {E : List GE} {S : List Nat} {q : GE} (hi : nthH hp it = some (.it x clk (S ++ [q.born]) clk)) (hL : GrH hp x E clk) (hq : q ∈ E)
 (k : K (.tup [W64 q.key,.ms q.id 0 q.rows.length 2]) []) : EntX hp (.ref it 0) K := by
 have ho := hL.mp
 simp only [EntX,AOp.many,evF,hpf_of' hi,hpf_of' ho,mpG]
 refine ⟨trivial,q.born,entU q,by simp,find_u hq hL.brs,?_⟩
 exact k
theorem app_old {id n : Nat} {cs ys : List AV} {g : Bool} (h2 : nthH hp id = some (.cells cs)) (h3 : cs.length = n * 2) (hn : n ≤ 1000000) (h4 : (cs.all AV.isPC) = true) (hy : ys.length = 2) (hpc : (ys.all AV.isPC) = true)
 (hK : K (.ms hp.length 0 (n + 1) 2) [(id,.gone),(hp.length,.cells (cs ++ ys))]) : AppW hp 2 16 (.ms id 0 n 2) (.sl g 1 ys) K := by
 have hlt := nthH_lt h2
 rw [app_ms,h2,appr_some]
 have hv : view cs 0 (n * 2) = cs := by simp only [view,List.drop_zero]; rw [List.take_of_length_le (by omega)]
 rw [hv]
 exact ⟨⟨by omega,hpc,rfl,by omega,by omega,by omega⟩,hK⟩
theorem app_new1 {ys : List AV} {g : Bool} (hy : ys.length = 2) (hpc : (ys.all AV.isPC) = true) (hK : K (.ms hp.length 0 1 2) [(hp.length,.cells ys)]) : AppW hp 2 16 (.sl true 0 []) (.sl g 1 ys) K := by
 rw [app_sl]
 exact ⟨⟨rfl,by omega,hpc,by simp,by omega,by omega,.inl rfl⟩,by simpa using hK⟩
end
structure GOf (s : SH) (L : List (Int × Int)) (E : List GE) : Prop where
 rows : ∀ e ∈ E,e.rows = L.filter fun r => decide (bitO s r = e.key)
 all : ∀ r ∈ L,∃ e ∈ E,e.key = bitO s r
theorem flat2_pc (l : List (Int × Int)) : ((flat2 l).all AV.isPC) = true := by
 rw [List.all_eq_true]
 intro x hx
 simp only [flat2,List.mem_flatMap] at hx
 obtain ⟨p,_,hx⟩ := hx
 simp at hx
 rcases hx with rfl | rfl <;> rfl
structure GB (hp0 : List HObj) (m : Nat) (s : SH) (L : List (Int × Int)) (P : List (Nat × HObj)) (E : List GE) (clk : Nat) (G : List HObj) : Prop where
 gr : GrH G m E clk
 of : GOf s L E
 pin : ∀ q ∈ P,nthH G q.1 = some q.2 ∧ q.1 ≠ m ∧ ∀ e ∈ E,q.1 ≠ e.id
 nm : NoMpp G
 ag : Agr hp0 G
 lo : hp0.length ≤ m ∧ ∀ e ∈ E,hp0.length ≤ e.id
theorem NoMpp.app {G : List HObj} {cs : List AV} (h : NoMpp G) : NoMpp (G ++ [.cells cs]) := fun i Φ hi => by
 rcases Nat.lt_or_ge i G.length with h1 | h1
 · rw [nthH_front h1] at hi; exact h i Φ hi
 · rw [nthH_eq,List.getElem?_append_right h1] at hi
   cases e : i - G.length with
   | zero => rw [e] at hi; simp at hi
   | succ n => rw [e] at hi; simp at hi
theorem GrH.mono {G G' : List HObj} {m : Nat} {E : List GE} {clk : Nat} (h : GrH G m E clk) (h1 : nthH G' m = nthH G m) (h2 : ∀ e ∈ E,nthH G' e.id = nthH G e.id) : GrH G' m E clk :=
 ⟨h1.trans h.mp,fun e he => (h2 e he).trans (h.cel e he),h.key,h.brs,h.brn,h.ids,h.ne,h.sm,h.ln⟩
theorem GrH.app {G : List HObj} {m : Nat} {E : List GE} {clk : Nat} {o : HObj} (h : GrH G m E clk) : GrH (G ++ [o]) m E clk :=
 h.mono (nthH_front (nthH_lt h.mp)) fun e he => nthH_front (nthH_lt (h.cel e he))
theorem GB.pinned {hp0 m s L P E clk G cs} (h : GB hp0 m s L P E clk G) : GB hp0 m s L ((G.length,.cells cs) :: P) E clk (G ++ [.cells cs]) := by
 refine ⟨h.gr.app,h.of,fun q hq => ?_,h.nm.app,h.ag.app,h.lo⟩
 rcases List.mem_cons.1 hq with rfl | hq
 · refine ⟨(app_newK (H := G)).2.1,?_,fun e he => ?_⟩
   · have := nthH_lt h.gr.mp; omega
   · have := nthH_lt (h.gr.cel e he); omega
 · obtain ⟨h1,h2,h3⟩ := h.pin q hq
   exact ⟨(nthH_front (nthH_lt h1)).trans h1,h2,h3⟩
theorem GB.drop {hp0 m s L q P E clk G} (h : GB hp0 m s L (q :: P) E clk G) : GB hp0 m s L P E clk G := ⟨h.gr,h.of,fun q hq => h.pin q (by simp [hq]),h.nm,h.ag,h.lo⟩
theorem pair_set {α : Type} {R : α → α → Prop} (hs : ∀ a b,R a b → R b a) {A B : List α} {e e' : α} (h : (A ++ e :: B).Pairwise R) (h1 : ∀ a,R e a → R e' a) : (A ++ e' :: B).Pairwise R := by
 rw [List.pairwise_append,List.pairwise_cons] at h ⊢
 obtain ⟨a1,⟨a2,a3⟩,a4⟩ := h
 refine ⟨a1,⟨fun b hb => h1 b (a2 b hb),a3⟩,fun a ha b hb => ?_⟩
 rcases List.mem_cons.1 hb with rfl | hb
 · exact hs _ _ (h1 a (hs _ _ (a4 a ha e (by simp))))
 · exact a4 a ha b (by simp [hb])
theorem GB.old {hp0 m s L P A e B clk G G'} (h : GB hp0 m s L P (A ++ e :: B) clk G) {r : Int × Int} (hr : bitO s r = e.key) (hL : L.length ≤ 9999) (hlen : G.length ≤ G'.length)
 (hG : ∀ i,nthH G' i = if i = m then some (.mp ((A ++ e :: B).map entU |>.set A.length (keyU e.key,e.born,.ms G.length 0 (e.rows.length + 1) 2)) clk) else if i = G.length then some (.cells (flat2 e.rows ++ [I r.1,I r.2])) else if i = e.id then some .gone else nthH G i) :
 GB hp0 m s (L ++ [r]) P (A ++ ⟨e.key,e.born,G.length,e.rows ++ [r]⟩ :: B) clk G' := by
 have hm := nthH_lt h.gr.mp
 have he := nthH_lt (h.gr.cel e (by simp))
 have ltE : ∀ x ∈ A ++ e :: B,x.id < G.length := fun x hx => nthH_lt (h.gr.cel x hx)
 have hid := h.gr.ids
 have hkey := h.gr.key
 rw [List.pairwise_append,List.pairwise_cons] at hid hkey
 have other : ∀ x,x ∈ A ∨ x ∈ B → x.id ≠ e.id ∧ x.key ≠ e.key := fun x hx => by
  rcases hx with hx | hx
  · exact ⟨hid.2.2 x hx e (by simp),hkey.2.2 x hx e (by simp)⟩
  · exact ⟨fun e1 => hid.2.1.1 x hx e1.symm,fun e1 => hkey.2.1.1 x hx e1.symm⟩
 have mem : ∀ {x},x ∈ A ++ (⟨e.key,e.born,G.length,e.rows ++ [r]⟩ : GE) :: B → x = ⟨e.key,e.born,G.length,e.rows ++ [r]⟩ ∨ (x ∈ A ∨ x ∈ B) := fun hx => by
  simp at hx
  rcases hx with h | h | h
  · exact .inr (.inl h)
  · exact .inl h
  · exact .inr (.inr h)
 have inE : ∀ {x},x ∈ A ∨ x ∈ B → x ∈ A ++ e :: B := fun hx => by
  simp; rcases hx with h | h
  · exact .inl h
  · exact .inr (.inr h)
 have mne : ∀ x ∈ A ++ e :: B,x.id ≠ m := fun x hx e1 => by
  have h1 := h.gr.cel x hx
  rw [e1,h.gr.mp] at h1
  cases h1
 have keep : ∀ i,i < G.length → i ≠ m → i ≠ e.id → nthH G' i = nthH G i := fun i h1 h2 h3 => by
  rw [hG,if_neg h2,if_neg (by omega),if_neg h3]
 refine ⟨⟨?_,fun x hx => ?_,pair_set (fun a b h e => h e.symm) h.gr.key (fun a h => h),pair_set (fun a b h e => h e.symm) h.gr.brs (fun a h => h),fun x hx => ?_,?_,fun x hx => ?_,fun x hx => ?_,fun x hx => ?_⟩,⟨fun x hx => ?_,fun q hq => ?_⟩,fun q hq => ?_,fun i Φ hi => ?_,?_,?_⟩
 · rw [hG,if_pos rfl,mpG]
   simp [List.set_append,entU]
 · rcases mem hx with rfl | hx
   · simp only
     rw [hG,if_neg (by omega),if_pos rfl,flat2_appK]; rfl
   · rw [keep x.id (ltE x (inE hx)) (mne x (inE hx)) (other x hx).1]
     exact h.gr.cel x (inE hx)
 · rcases mem hx with rfl | hx
   · exact h.gr.brn e (by simp)
   · exact h.gr.brn x (inE hx)
 · have ne1 : ∀ x,x ∈ A ∨ x ∈ B → x.id ≠ G.length := fun x hx => by have := ltE x (inE hx); omega
   rw [List.pairwise_append,List.pairwise_cons]
   refine ⟨hid.1,⟨fun b hb => (ne1 b (.inr hb)).symm,hid.2.1.2⟩,fun a ha b hb => ?_⟩
   rcases List.mem_cons.1 hb with rfl | hb
   · exact ne1 a (.inl ha)
   · exact hid.2.2 a ha b (by simp [hb])
 · rcases mem hx with rfl | hx
   · simp
   · exact h.gr.ne x (inE hx)
 · rcases mem hx with rfl | hx
   · exact h.gr.sm e (by simp)
   · exact h.gr.sm x (inE hx)
 · rcases mem hx with rfl | hx
   · have := h.of.rows e (by simp)
     simp only [List.length_append,List.length_singleton]
     rw [this]
     have := List.length_filter_le (fun r => decide (bitO s r = e.key)) L
     omega
   · exact h.gr.ln x (inE hx)
 · rcases mem hx with rfl | hx
   · simp only
     rw [List.filter_append,h.of.rows e (by simp)]
     congr 1
     simp [hr]
   · rw [List.filter_append,← h.of.rows x (inE hx)]
     have : ¬ bitO s r = x.key := fun e1 => (other x hx).2 (by rw [← e1,hr])
     simp [this]
 · rw [List.mem_append] at hq
   rcases hq with hq | hq
   · obtain ⟨x,hx,e1⟩ := h.of.all q hq
     simp at hx
     rcases hx with hx | rfl | hx
     · exact ⟨x,by simp [hx],e1⟩
     · exact ⟨_,List.mem_append_right _ (List.mem_cons_self),e1⟩
     · exact ⟨x,by simp [hx],e1⟩
   · rw [List.mem_singleton] at hq
     subst hq
     exact ⟨_,List.mem_append_right _ (List.mem_cons_self),hr.symm⟩
 · obtain ⟨h1,h2,h3⟩ := h.pin q hq
   refine ⟨(keep q.1 (nthH_lt h1) h2 (h3 e (by simp))).trans h1,h2,fun x hx => ?_⟩
   rcases mem hx with rfl | hx
   · have := nthH_lt h1; simp only; omega
   · exact h3 x (inE hx)
 · rw [hG] at hi
   split at hi
   · simp at hi
   · split at hi
     · simp at hi
     · split at hi
       · simp at hi
       · exact h.nm i Φ hi
 · refine ⟨Nat.le_trans h.ag.1 hlen,fun j hj => ?_⟩
   have h1 := h.lo.1
   have h2 := h.lo.2 e (by simp)
   have h3 := h.ag.1
   rw [keep j (by omega) (by omega) (by omega)]
   exact h.ag.2 j hj
 · refine ⟨h.lo.1,fun x hx => ?_⟩
   rcases mem hx with rfl | hx
   · exact h.ag.1
   · exact h.lo.2 x (inE hx)
theorem GB.new {hp0 m s L P E clk G G'} (h : GB hp0 m s L P E clk G) {r : Int × Int} {k : Nat} (hr : bitO s r = k) (hk : 0 < k ∧ k < 4096) (hE : ∀ e ∈ E,e.key ≠ k) (hlen : G.length ≤ G'.length)
 (hG : ∀ i,nthH G' i = if i = m then some (.mp (E.map entU ++ [(keyU k,clk,.ms G.length 0 1 2)]) (clk + 1)) else if i = G.length then some (.cells [I r.1,I r.2]) else nthH G i) :
 GB hp0 m s (L ++ [r]) P (E ++ [⟨k,clk,G.length,[r]⟩]) (clk + 1) G' := by
 have hm := nthH_lt h.gr.mp
 have ltE : ∀ x ∈ E,x.id < G.length := fun x hx => nthH_lt (h.gr.cel x hx)
 have mne : ∀ x ∈ E,x.id ≠ m := fun x hx e1 => by
  have h1 := h.gr.cel x hx
  rw [e1,h.gr.mp] at h1
  cases h1
 have keep : ∀ i,i < G.length → i ≠ m → nthH G' i = nthH G i := fun i h1 h2 => by
  rw [hG,if_neg h2,if_neg (by omega)]
 have mem : ∀ {x},x ∈ E ++ [(⟨k,clk,G.length,[r]⟩ : GE)] → x = ⟨k,clk,G.length,[r]⟩ ∨ x ∈ E := fun hx => by
  simp at hx; exact hx.symm
 have nof : L.filter (fun r => decide (bitO s r = k)) = [] := by
  rw [List.filter_eq_nil_iff]
  intro q hq
  obtain ⟨x,hx,e1⟩ := h.of.all q hq
  have := hE x hx
  simp only [decide_eq_true_eq]
  omega
 refine ⟨⟨?_,fun x hx => ?_,?_,?_,fun x hx => ?_,?_,fun x hx => ?_,fun x hx => ?_,fun x hx => ?_⟩,⟨fun x hx => ?_,fun q hq => ?_⟩,fun q hq => ?_,fun i Φ hi => ?_,?_,?_⟩
 · rw [hG,if_pos rfl,mpG]
   simp [entU]
 · rcases mem hx with rfl | hx
   · simp only
     rw [hG,if_neg (by omega),if_pos rfl]; rfl
   · rw [keep x.id (ltE x hx) (mne x hx)]
     exact h.gr.cel x hx
 · rw [List.pairwise_append]
   exact ⟨h.gr.key,by simp,fun a ha b hb => by simp at hb; subst hb; exact hE a ha⟩
 · rw [List.pairwise_append]
   exact ⟨h.gr.brs,by simp,fun a ha b hb => by simp at hb; subst hb; have := h.gr.brn a ha; simp only; omega⟩
 · rcases mem hx with rfl | hx
   · simp only; omega
   · have := h.gr.brn x hx; omega
 · rw [List.pairwise_append]
   exact ⟨h.gr.ids,by simp,fun a ha b hb => by simp at hb; subst hb; have := ltE a ha; simp only; omega⟩
 · rcases mem hx with rfl | hx
   · simp
   · exact h.gr.ne x hx
 · rcases mem hx with rfl | hx
   · exact hk
   · exact h.gr.sm x hx
 · rcases mem hx with rfl | hx
   · simp
   · exact h.gr.ln x hx
 · rcases mem hx with rfl | hx
   · simp only
     rw [List.filter_append,nof]
     simp [hr]
   · rw [List.filter_append,← h.of.rows x hx]
     have : ¬ bitO s r = x.key := fun e1 => hE x hx (by rw [← e1,hr])
     simp [this]
 · rw [List.mem_append] at hq
   rcases hq with hq | hq
   · obtain ⟨x,hx,e1⟩ := h.of.all q hq
     exact ⟨x,by simp [hx],e1⟩
   · rw [List.mem_singleton] at hq
     subst hq
     exact ⟨_,List.mem_append_right _ (List.mem_singleton.2 rfl),hr.symm⟩
 · obtain ⟨h1,h2,h3⟩ := h.pin q hq
   refine ⟨(keep q.1 (nthH_lt h1) h2).trans h1,h2,fun x hx => ?_⟩
   rcases mem hx with rfl | hx
   · have := nthH_lt h1; simp only; omega
   · exact h3 x hx
 · rw [hG] at hi
   split at hi
   · simp at hi
   · split at hi
     · simp at hi
     · exact h.nm i Φ hi
 · refine ⟨Nat.le_trans h.ag.1 hlen,fun j hj => ?_⟩
   have h1 := h.lo.1
   have h3 := h.ag.1
   rw [keep j (by omega) (by omega)]
   exact h.ag.2 j hj
 · refine ⟨h.lo.1,fun x hx => ?_⟩
   rcases mem hx with rfl | hx
   · exact h.ag.1
   · exact h.lo.2 x hx
end Go.AM

namespace Go.AM
open Go.RowKit Go.Proofs
theorem GB.sub {hp0 m s L P P' E clk G} (h : GB hp0 m s L P E clk G) (hs : ∀ x ∈ P',x ∈ P) : GB hp0 m s L P' E clk G := ⟨h.gr,h.of,fun q hq => h.pin q (hs q hq),h.nm,h.ag,h.lo⟩
theorem GB.repin {hp0 m s L P E clk G} {q : Nat} {o o' : HObj} (h : GB hp0 m s L ((q,o) :: P) E clk G) (hq : hp0.length ≤ q) (hn : ∀ x ∈ P,x.1 ≠ q) (ho : ∀ Φ,o' ≠ .mpp Φ) : GB hp0 m s L ((q,o') :: P) E clk (G.set q o') := by
 obtain ⟨p1,p2,p3⟩ := h.pin _ (List.mem_cons_self)
 have hlt := nthH_lt p1
 have ne : ∀ i,i ≠ q → nthH (G.set q o') i = nthH G i := fun i hi => nthH_set_ne (Ne.symm hi)
 refine ⟨h.gr.mono (ne _ (Ne.symm p2)) (fun e he => ne _ (Ne.symm (p3 e he))),h.of,fun x hx => ?_,fun i Φ hi => ?_,⟨by rw [List.length_set]; exact h.ag.1,fun j hj => ?_⟩,h.lo⟩
 · rcases List.mem_cons.1 hx with rfl | hx
   · exact ⟨nthH_set_same hlt,p2,p3⟩
   · obtain ⟨h1,h2,h3⟩ := h.pin x (List.mem_cons_of_mem _ hx)
     exact ⟨(ne _ (hn x hx)).trans h1,h2,h3⟩
 · by_cases e : i = q
   · subst e; rw [nthH_set_same hlt] at hi; exact ho Φ (Option.some.inj hi)
   · rw [ne i e] at hi; exact h.nm i Φ hi
 · rw [ne j (by omega)]; exact h.ag.2 j hj
def NBJ (s : SH) (hp0 : List HObj) (m q : Nat) (lp : HObj) (base : List (Nat × HObj)) (L : List (Int × Int)) (p : List (Nat × HObj)) (G : List HObj) : Prop :=
 ∃ E clk,GB hp0 m s L ((q,lp) :: (base ++ p)) E clk G ∧ ∀ x ∈ base ++ p,x.1 ≠ q
theorem NBJ.pinned {s hp0 m q lp base L p G cs} (h : NBJ s hp0 m q lp base L p G) : NBJ s hp0 m q lp base L ((G.length,.cells cs) :: p) (G ++ [.cells cs]) := by
 obtain ⟨E,clk,h1,h2⟩ := h
 have hq := nthH_lt (h1.pin _ (List.mem_cons_self)).1
 refine ⟨E,clk,h1.pinned.sub fun x hx => ?_,fun x hx => ?_⟩
 · simp at hx ⊢
   rcases hx with h | h | h | h <;> simp [h]
 · simp at hx
   rcases hx with h | h | h
   · exact h2 x (by simp [h])
   · subst h; simp only at hq ⊢; omega
   · exact h2 x (by simp [h])
theorem NBJ.drop {s hp0 m q lp base L p G x} (h : NBJ s hp0 m q lp base L (x :: p) G) : NBJ s hp0 m q lp base L p G := by
 obtain ⟨E,clk,h1,h2⟩ := h
 refine ⟨E,clk,h1.sub fun y hy => ?_,fun y hy => h2 y ?_⟩
 · simp at hy ⊢
   rcases hy with h | h | h <;> simp [h]
 · simp at hy ⊢
   rcases hy with h | h <;> simp [h]
theorem NBJ.repin {s hp0 m q lp lp' base L p G} (h : NBJ s hp0 m q lp base L p G) (hq : hp0.length ≤ q) (ho : ∀ Φ,lp' ≠ .mpp Φ) : NBJ s hp0 m q lp' base L p (G.set q lp') := by
 obtain ⟨E,clk,h1,h2⟩ := h
 exact ⟨E,clk,h1.repin hq h2 ho,h2⟩
theorem mkmU {P : Program} {F : Nat → AV} {hp : List HObj} {K : AV → List (Nat × HObj) → Prop} {d : Nat} (k : K (.mp hp.length) [(hp.length,mpG [] 0)]) : (AOp.mkm d).wp P F hp K := ⟨_,_,⟨rfl,rfl⟩,k⟩
theorem nthH_at {hp l : List HObj} {i : Nat} : nthH (hp ++ l) (hp.length + i) = nthH l i := by
 rw [nthH_eq,List.getElem?_append_right (by omega),nthH_eq]
 congr 1; omega
theorem NoMpp.apps {G l : List HObj} (h : NoMpp G) (hl : ∀ i Φ,nthH l i ≠ some (.mpp Φ)) : NoMpp (G ++ l) := fun i Φ hi => by
 rcases Nat.lt_or_ge i G.length with h1 | h1
 · rw [nthH_front h1] at hi; exact h i Φ hi
 · obtain ⟨j,rfl⟩ : ∃ j,i = G.length + j := ⟨i - G.length,by omega⟩
   rw [nthH_at] at hi; exact hl j Φ hi
theorem mpp_list : ∀ {l : List HObj},(l.all fun o => match o with | .mpp _ => false | _ => true) = true → ∀ i Φ,nthH l i ≠ some (.mpp Φ)
 | [],_,i,Φ,h => by simp [nthH_eq] at h
 | o :: l,hl,i,Φ,h => by
   simp only [List.all_cons,Bool.and_eq_true] at hl
   rw [nthH_eq] at h
   cases i with
   | zero => simp at h; subst h; simp at hl
   | succ i => simp at h; exact mpp_list hl.2 i Φ (by rw [nthH_eq]; exact h)
set_option maxHeartbeats 4000000 in
theorem k_newBoard_w {f g : Bool} {s : SH} (h0 : shtE s = 0) {hp : List HObj} (hn : NoMpp hp) {K : AV → List HObj → Prop}
 (hK : ∀ H rc m E clk,Agr hp H → NoMpp H → hp.length ≤ rc → nthH H rc = some (.cells [Ps f s.k,Ps g s.m,.mp m]) → GrH H m E clk → GOf s (allR s) E → K (.ref rc 0) H) : CallW Tryz.prog n_k_newBoard [Sn f g s] hp K := by
 have hv := val_of h0
 have hk8 := hv.k8
 have hm12 := hv.m12
 refine walk func_k_newBoard form_k_newBoard res_k_newBoard (by show 1 ≤ _; decide) ?_
 simp -implicitDefEqProofs (disch := omega) [G_k_newBoard,wrap_id]
 refine mkmU ?_
 simp -implicitDefEqProofs (disch := omega) [wrap_id]
 have w3 : nthH (hp ++ [HObj.cells [Ps f s.k,Ps g s.m],mpG [] 0,HObj.cells [Ps f s.k,Ps g s.m,AV.mp (hp.length + 1)],HObj.cells [AV.v (Value.pointer none)]]) (hp.length + 3) = some (.cells [AV.v (Value.pointer none)]) := nthH_at
 rw [w3]
 have e3 : ∀ o,(hp ++ [HObj.cells [Ps f s.k,Ps g s.m],mpG [] 0,HObj.cells [Ps f s.k,Ps g s.m,AV.mp (hp.length + 1)],HObj.cells [AV.v (Value.pointer none)]]).set (hp.length + 3) o = hp ++ [HObj.cells [Ps f s.k,Ps g s.m],mpG [] 0,HObj.cells [Ps f s.k,Ps g s.m,AV.mp (hp.length + 1)],o] := fun o => by
  rw [List.set_append_right _ _ (by omega),show hp.length + 3 - hp.length = 3 by omega]; rfl
 simp -implicitDefEqProofs (disch := omega) [wrap_id,str_some]
 have w4 : nthH (hp ++ [HObj.cells [Ps f s.k,Ps g s.m],mpG [] 0,HObj.cells [Ps f s.k,Ps g s.m,AV.mp (hp.length + 1)],HObj.cells [AV.ref (hp.length + 2) 0]]) (hp.length + 3) = some (.cells [AV.ref (hp.length + 2) 0]) := nthH_at
 rw [w4]
 simp -implicitDefEqProofs (disch := omega) [wrap_id,ldr_some]
 refine q_rows_w ?_
 simp -implicitDefEqProofs (disch := omega) [wrap_id]
 let base : List (Nat × HObj) := [(hp.length + 2,.cells [Ps f s.k,Ps g s.m,AV.mp (hp.length + 1)]),(hp.length + 3,.cells [AV.ref (hp.length + 2) 0]),(hp.length + 4,.cells [AV.ref (hp.length + 2) 0])]
 have hl : (hp ++ [HObj.cells [Ps f s.k,Ps g s.m],mpG [] 0,HObj.cells [Ps f s.k,Ps g s.m,AV.mp (hp.length + 1)],HObj.cells [AV.ref (hp.length + 2) 0],HObj.cells [AV.ref (hp.length + 2) 0]]).length = hp.length + 5 := by simp
 have init : NBJ s hp (hp.length + 1) (hp.length + 5) (.lp .ready (hp.length + 5 + 1)) base [] [] (hp ++ [HObj.cells [Ps f s.k,Ps g s.m],mpG [] 0,HObj.cells [Ps f s.k,Ps g s.m,AV.mp (hp.length + 1)],HObj.cells [AV.ref (hp.length + 2) 0],HObj.cells [AV.ref (hp.length + 2) 0]] ++ [.lp .ready (hp.length + 5 + 1),.gone]) := by
  rw [List.append_assoc]
  refine ⟨[],0,⟨⟨nthH_at,fun e h => (by cases h),.nil,.nil,fun e h => (by cases h),.nil,fun e h => (by cases h),fun e h => (by cases h),fun e h => (by cases h)⟩,⟨fun e h => (by cases h),fun e h => (by cases h)⟩,fun x hx => ?_,hn.apps (mpp_list rfl),⟨by simp,fun j hj => nthH_front hj⟩,by omega,fun e h => (by cases h)⟩,fun x hx => ?_⟩
  · simp [base] at hx
    rcases hx with rfl | rfl | rfl | rfl
    · exact ⟨nthH_at,by simp only; omega,fun e h => (by cases h)⟩
    · exact ⟨nthH_at,by simp only; omega,fun e h => (by cases h)⟩
    · exact ⟨nthH_at,by simp only; omega,fun e h => (by cases h)⟩
    · exact ⟨nthH_at,by simp only; omega,fun e h => (by cases h)⟩
  · simp [base] at hx
    rcases hx with rfl | rfl | rfl <;> simp
 generalize hp ++ [HObj.cells [Ps f s.k,Ps g s.m],mpG [] 0,HObj.cells [Ps f s.k,Ps g s.m,AV.mp (hp.length + 1)],HObj.cells [AV.ref (hp.length + 2) 0],HObj.cells [AV.ref (hp.length + 2) 0]] = HB at hl init ⊢
 clear e3 w3 w4
 refine rf_of (K0 := fun G => NBJ s hp (hp.length + 1) (hp.length + 5) (.lp .ready (hp.length + 5 + 1)) base (allR s) [] G ∨ False)
  (q_rows_R hv (f := f) (g := g) (X := .mp (hp.length + 1)) (rc := hp.length + 2) (cb := hp.length + 4) (J := NBJ s hp (hp.length + 1) (hp.length + 5) (.lp .ready (hp.length + 5 + 1)) base) (D := fun _ => False) ?_ ?_ (fun L p G cs h => h.pinned) (fun L q p G h => h.drop) ?_) ?_
 · rw [hl]; exact init
 · rintro L p G ⟨E,clk,h1,h2⟩
   exact ⟨⟨(h1.pin (hp.length + 4,_) (by simp [base])).1,(h1.pin (hp.length + 2,_) (by simp [base])).1⟩,fun q hq => (h1.pin q (by simp [hq])).1⟩
 · intro L r t p G hL hJ
   have hJ1 := hJ.pinned (cs := [I r.1,I r.2])
   have hJ2 := hJ1.repin (lp' := .lp .busy (hp.length + 5 + 1)) (by omega) (fun Φ h => by cases h)
   have lp0 : nthH G (hp.length + 5) = some (.lp .ready (hp.length + 5 + 1)) := by
    obtain ⟨E,clk,h1,h2⟩ := hJ
    exact (h1.pin _ (List.mem_cons_self)).1
   have lp1 : nthH (G ++ [HObj.cells [I r.1,I r.2]]) (hp.length + 5) = some (.lp .ready (hp.length + 5 + 1)) := (nthH_front (nthH_lt lp0)).trans lp0
   have lq : hp.length + 5 < G.length + 1 := by have := nthH_lt lp0; omega
   have bL : L.length ≤ 9999 := by
    have := congrArg List.length hL
    rw [List.length_append] at this
    have := rwsK_len (s := s) (n := s.k.length)
    unfold allR at *
    omega
   have hr := isK_allR (s := s) (r := r) (by rw [← hL]; simp)
   have hsm := bitO_small hv r
   have h4096 : bitO s r < 4096 := Nat.lt_of_lt_of_le hsm (Nat.pow_le_pow_right (by decide) hm12)
   rw [hl]
   refine ⟨by rw [hpf_nthH]; exact lp0,rfl,?_⟩
   simp -implicitDefEqProofs (disch := omega) [wrap_id,putPs,hpf_nthH,lp1,lq]
   generalize (G ++ [HObj.cells [I r.1,I r.2]]).set (hp.length + 5) (HObj.lp LpSt.busy (hp.length + 5 + 1)) = G1 at hJ2 ⊢
   obtain ⟨E,clk,h1,h2⟩ := hJ2
   have c3 : nthH G1 (hp.length + 3) = some (.cells [AV.ref (hp.length + 2) 0]) := (h1.pin (hp.length + 3,.cells [AV.ref (hp.length + 2) 0]) (by simp [base])).1
   have c2 : nthH G1 (hp.length + 2) = some (.cells [Ps f s.k,Ps g s.m,AV.mp (hp.length + 1)]) := (h1.pin (hp.length + 2,.cells [Ps f s.k,Ps g s.m,AV.mp (hp.length + 1)]) (by simp [base])).1
   have c4 : nthH G1 G.length = some (.cells [I r.1,I r.2]) := (h1.pin (G.length,.cells [I r.1,I r.2]) (by simp)).1
   have d2 : ∀ e ∈ E,G.length ≠ e.id := (h1.pin (G.length,.cells [I r.1,I r.2]) (by simp)).2.2
   have d3 : ∀ e ∈ E,hp.length + 3 ≠ e.id := (h1.pin (hp.length + 3,.cells [AV.ref (hp.length + 2) 0]) (by simp [base])).2.2
   have d4 : ∀ e ∈ E,hp.length + 2 ≠ e.id := (h1.pin (hp.length + 2,.cells [Ps f s.k,Ps g s.m,AV.mp (hp.length + 1)]) (by simp [base])).2.2
   have lm := nthH_lt h1.gr.mp
   have fin : ∀ (fr : List (Nat × AV)) (G2 : List HObj) (E' : List GE) (clk' : Nat),GB hp (hp.length + 1) s (L ++ [r]) ((hp.length + 5,HObj.lp LpSt.busy (hp.length + 5 + 1)) :: (base ++ (G.length,HObj.cells [I r.1,I r.2]) :: p)) E' clk' G2 →
    RoundQ (hp.length + 5) (fun rr G' => rr = AM.B true ∧ NBJ s hp (hp.length + 1) (hp.length + 5) (HObj.lp LpSt.ready (hp.length + 5 + 1)) base (L ++ [r]) p G') .normal ⟨fr,G2⟩ := fun fr G2 E' clk' hg => by
    have b1 := (hg.pin _ (List.mem_cons_self)).1
    have lb := nthH_lt b1
    refine ⟨by rw [hpf_nthH]; exact b1,rfl,?_⟩
    simp only at lb
    simp only [setL,lb,if_true]
    exact NBJ.drop ⟨E',clk',hg.repin (o' := .lp .ready (hp.length + 5 + 1)) (by omega) h2 (fun Φ h => by cases h),h2⟩
   simp -implicitDefEqProofs (disch := omega) [wrap_id,c3,c4,ldr_some]
   refine q_marks_w hv c2 hr.1 ?_
   have ne1 : G.length ≠ G1.length := by have := nthH_lt c4; omega
   have ne2 : hp.length + 3 ≠ G1.length := by have := nthH_lt c3; omega
   have ne3 : hp.length + 2 ≠ G1.length := by have := nthH_lt c2; omega
   simp -implicitDefEqProofs (disch := omega) [wrap_id,c3,c2,ldr_some]
   refine lkuU (k := bitO s r) rfl rfl h1.gr.mp (fun A e B eE eq hA => ?_) (fun hE => ?_)
   · subst eE
     simp -implicitDefEqProofs (disch := omega) [wrap_id,c4,ldr_some]
     refine bsl_of (ys := [Pr r]) rfl rfl ?_
     simp -implicitDefEqProofs (disch := omega) [wrap_id,zrep,-app_ms]
     have hc := h1.gr.cel e (by simp)
     have hcl := nthH_lt hc
     have hln := h1.gr.ln e (by simp)
     have sep3 := d3 e (by simp)
     have sep2 := d4 e (by simp)
     have sepm : hp.length + 1 ≠ e.id := fun h => by rw [← h,h1.gr.mp] at hc; cases hc
     refine app_old hc (flat2_len _) (by omega) (flat2_pc _) rfl rfl ?_
     rw [x_contD]
     have hG2 : ∀ i,nthH (writeL G1 [(e.id,.gone),(G1.length,.cells (flat2 e.rows ++ [I r.1,I r.2]))]) i = if i = G1.length then some (.cells (flat2 e.rows ++ [I r.1,I r.2])) else if i = e.id then some .gone else nthH G1 i := fun i => by
      rw [nthH_writeL (by simp; omega)]
      simp only [Hp.write]
      by_cases e1 : i = G1.length
      · subst e1; rw [Hp.set_same,if_pos rfl]
      · rw [Hp.set_other _ _ e1,if_neg e1]
        by_cases e2 : i = e.id
        · subst e2; rw [Hp.set_same,if_pos rfl]
        · rw [Hp.set_other _ _ e2,if_neg e2,nthH_eq]; rfl
     have hl2 : G1.length ≤ (writeL G1 [(e.id,HObj.gone),(G1.length,.cells (flat2 e.rows ++ [I r.1,I r.2]))]).length := writeL_len _ _
     generalize writeL G1 [(e.id,HObj.gone),(G1.length,HObj.cells (flat2 e.rows ++ [I r.1,I r.2]))] = G2 at hG2 hl2 ⊢
     have hm2 : nthH G2 (hp.length + 1) = some (mpG (A ++ e :: B) clk) := by
      rw [hG2,if_neg (by omega),if_neg sepm]; exact h1.gr.mp
     simp -implicitDefEqProofs (disch := omega) [wrap_id]
     refine insU (k := bitO s r) (v := .ms G1.length 0 (e.rows.length + 1) 2) rfl rfl rfl hm2 (fun A' e' B' eE' eq' hA' => ?_) (fun hE => absurd eq (hE e (by simp)))
     have same : A'.length = A.length ∧ e' = e := by
      have hlen : ∀ {A A' B B' : List GE} {e e' : GE}, A ++ e :: B = A' ++ e' :: B' → e.key = bitO s r → e'.key = bitO s r → (∀ x ∈ A, x.key ≠ bitO s r) → (∀ x ∈ A', x.key ≠ bitO s r) → A'.length = A.length ∧ e' = e := by
       intro A
       induction A with
       | nil =>
         intro A' B B' e e' h h1 h2 h3 h4
         cases A' with
         | nil => simp at h; exact ⟨rfl,h.1.symm⟩
         | cons a A' => simp at h; exact absurd (by rw [← h.1]; exact h1) (h4 a (by simp))
       | cons a A ih =>
         intro A' B B' e e' h h1 h2 h3 h4
         cases A' with
         | nil => simp at h; exact absurd (by rw [h.1]; exact h2) (h3 a (by simp))
         | cons a' A' =>
           simp at h
           obtain ⟨q1,q2⟩ := ih h.2 h1 h2 (fun x hx => h3 x (by simp [hx])) (fun x hx => h4 x (by simp [hx]))
           exact ⟨by simp [q1],q2⟩
      exact hlen eE' eq eq' hA hA'
     obtain ⟨sl,rfl⟩ := same
     rw [← eE',sl]
     rw [x_contD]
     have lm2 := nthH_lt hm2
     obtain ⟨q1,q2⟩ := chg_of (G := G2) (x := hp.length + 1) (o := .mp ((A ++ e' :: B).map entU |>.set A.length (keyU (bitO s r),e'.born,.ms G1.length 0 (e'.rows.length + 1) 2)) clk) lm2
     generalize writeL G2 [(hp.length + 1,HObj.mp (((A ++ e' :: B).map entU).set A.length (keyU (bitO s r),e'.born,AV.ms G1.length 0 (e'.rows.length + 1) 2)) clk)] = G3 at q1 q2 ⊢
     have h3 := h1.old (r := r) (G' := G3) eq.symm (by omega) (by omega) (fun i => by
      rw [q2,eq]
      by_cases e1 : i = hp.length + 1
      · rw [if_pos e1,if_pos e1]
      · rw [if_neg e1,if_neg e1]; exact hG2 i)
     simp -implicitDefEqProofs (disch := omega) [wrap_id,cmp2,nthT,disj,sep3,sep2,ne1,ne2,ne3]
     exact ⟨⟨⟨by omega,by omega⟩,by omega,by omega⟩,fin _ _ _ _ h3⟩
   · simp -implicitDefEqProofs (disch := omega) [wrap_id,c4,ldr_some]
     refine bsl_of (ys := [Pr r]) rfl rfl ?_
     simp -implicitDefEqProofs (disch := omega) [wrap_id,zrep,-app_sl]
     refine app_new1 rfl rfl ?_
     rw [x_contD]
     have hG2 : ∀ i,nthH (writeL G1 [(G1.length,.cells [I r.1,I r.2])]) i = if i = G1.length then some (.cells [I r.1,I r.2]) else nthH G1 i := fun i => by
      rw [nthH_writeL (by simp)]
      simp only [Hp.write]
      by_cases e1 : i = G1.length
      · subst e1; rw [Hp.set_same,if_pos rfl]
      · rw [Hp.set_other _ _ e1,if_neg e1,nthH_eq]; rfl
     have hl2 : G1.length ≤ (writeL G1 [(G1.length,HObj.cells [I r.1,I r.2])]).length := writeL_len _ _
     generalize writeL G1 [(G1.length,HObj.cells [I r.1,I r.2])] = G2 at hG2 hl2 ⊢
     have hm2 : nthH G2 (hp.length + 1) = some (mpG E clk) := by
      rw [hG2,if_neg (by omega)]; exact h1.gr.mp
     simp -implicitDefEqProofs (disch := omega) [wrap_id]
     refine insU (k := bitO s r) (v := .ms G1.length 0 1 2) rfl rfl rfl hm2 (fun A' e' B' eE' eq' hA' => absurd eq' (hE e' (by rw [eE']; simp))) (fun _ => ?_)
     rw [x_contD]
     have lm2 := nthH_lt hm2
     obtain ⟨q1,q2⟩ := chg_of (G := G2) (x := hp.length + 1) (o := .mp (E.map entU ++ [(keyU (bitO s r),clk,.ms G1.length 0 1 2)]) (clk + 1)) lm2
     generalize writeL G2 [(hp.length + 1,HObj.mp (E.map entU ++ [(keyU (bitO s r),clk,AV.ms G1.length 0 1 2)]) (clk + 1))] = G3 at q1 q2 ⊢
     have h3 := h1.new (r := r) (G' := G3) (k := bitO s r) rfl ⟨by omega,h4096⟩ hE (by omega) (fun i => by
      rw [q2]
      by_cases e1 : i = hp.length + 1
      · rw [if_pos e1,if_pos e1]
      · rw [if_neg e1,if_neg e1]; exact hG2 i)
     simp -implicitDefEqProofs (disch := omega) [wrap_id,cmp2,nthT,disj,ne1,ne2,ne3]
     exact ⟨⟨by omega,by omega⟩,fin _ _ _ _ h3⟩
 · rintro G (⟨E,clk,h1,h2⟩ | h)
   · have lp0 := (h1.pin _ (List.mem_cons_self)).1
     have h3 := h1.repin (o' := .gone) (by omega) h2 (fun Φ h => by cases h)
     rw [hl]
     refine rfEnd_ready lp0 ?_
     generalize G.set (hp.length + 5) .gone = G1 at h3
     have c3 : nthH G1 (hp.length + 3) = some (.cells [AV.ref (hp.length + 2) 0]) := (h3.pin (hp.length + 3,.cells [AV.ref (hp.length + 2) 0]) (by simp [base])).1
     have c2 : nthH G1 (hp.length + 2) = some (.cells [Ps f s.k,Ps g s.m,AV.mp (hp.length + 1)]) := (h3.pin (hp.length + 2,.cells [Ps f s.k,Ps g s.m,AV.mp (hp.length + 1)]) (by simp [base])).1
     simp -implicitDefEqProofs (disch := omega) [wrap_id,c3,ldr_some]
     exact hK _ _ _ _ _ h3.ag h3.nm (by omega) c2 h3.gr h3.of
   · exact h.elim
end Go.AM

namespace Go.AM
open Go.RowKit Go.Proofs
structure Brd (f g : Bool) (s : SH) (H : List HObj) (rc m : Nat) (E : List GE) (clk : Nat) : Prop where
 bd : nthH H rc = some (.cells [Ps f s.k,Ps g s.m,.mp m])
 gr : GrH H m E clk
theorem Brd.app {f g s H rc m E clk o} (h : Brd f g s H rc m E clk) : Brd f g s (H ++ [o]) rc m E clk := ⟨(nthH_front (nthH_lt h.bd)).trans h.bd,h.gr.app⟩
theorem Brd.agr {f g s H H' rc m E clk} (h : Brd f g s H rc m E clk) (ha : Agr H H') : Brd f g s H' rc m E clk := ⟨ha.get h.bd,h.gr.mono (ha.2 _ (nthH_lt h.gr.mp)) fun e he => ha.2 _ (nthH_lt (h.gr.cel e he))⟩
theorem k_open_w {f g : Bool} {s : SH} (hz : SzS s) {hp : List HObj} (hn : NoMpp hp) {K : AV → List HObj → Prop}
 (h1 : shtE s ≠ 0 → ∀ H,Agr hp H → NoMpp H → K (.tup [.v (.pointer none),I (shtE s)]) H)
 (h2 : shtE s = 0 → ∀ H rc m E clk,Agr hp H → NoMpp H → hp.length ≤ rc → Brd f g s H rc m E clk → GOf s (allR s) E → K (.tup [.ref rc 0,I 0]) H) : CallW Tryz.prog n_k_open [Sn f g s] hp K := by
 refine walk func_k_open form_k_open res_k_open (by show 1 ≤ _; decide) ?_
 simp -implicitDefEqProofs (disch := omega) [G_k_open,wrap_id]
 refine callW_pure rfl (k_CheckSheet_ok f g s hz) ?_
 by_cases h0 : shtE s = 0
 · rw [h0]
   simp -implicitDefEqProofs (disch := omega) [wrap_id]
   refine k_newBoard_w h0 hn.app fun H rc m E clk ha hm hlen hrec hgr hof => ?_
   simp -implicitDefEqProofs (disch := omega) [wrap_id]
   have ha' : Agr hp H := (Agr.refl hp).app.trans ha
   exact h2 h0 _ _ _ _ _ ha' hm (by simp at hlen; omega) ⟨hrec,hgr⟩ hof
 · have h0' : (shtE s != 0) = true := by simp [h0]
   simp -implicitDefEqProofs (disch := omega) [wrap_id,h0']
   exact h1 h0 _ (Agr.refl hp).app hn.app
def hadN (E : List GE) : Nat := E.foldr (fun e a => orN e.key a) 0
theorem hadN_bit {i : Nat} : ∀ {E : List GE},(hadN E).testBit i = E.any fun e => e.key.testBit i
 | [] => by simp [hadN]
 | e :: E => by
   have := hadN_bit (i := i) (E := E)
   show (e.key ||| hadN E).testBit i = _
   rw [Nat.testBit_or,this]; rfl
theorem hadN_lt : ∀ {E : List GE},(∀ e ∈ E,e.key < 4096) → hadN E < 4096
 | [],_ => by simp [hadN]
 | e :: E,h => Nat.or_lt_two_pow (n := 12) (h e (by simp)) (hadN_lt fun x hx => h x (by simp [hx]))
def muE (E : List GE) (S : List Nat) : Nat := (E.filter fun e => !S.contains e.born).length
theorem muE_lt {E : List GE} {S : List Nat} {q : GE} (hq : q ∈ E) (hs : q.born ∉ S) : muE E (S ++ [q.born]) < muE E S := by
 unfold muE
 have hle : ∀ (l : List GE),(l.filter fun e => !(S ++ [q.born]).contains e.born).length ≤ (l.filter fun e => !S.contains e.born).length := fun l => by
  induction l with
  | nil => simp
  | cons a l ih =>
    simp only [List.filter_cons,List.contains_append]
    cases h1 : S.contains a.born <;> cases h2 : [q.born].contains a.born <;> simp only [Bool.or_true,Bool.or_false,Bool.not_true,Bool.not_false,Bool.false_eq_true,if_true,if_false,Bool.true_or,Bool.false_or,List.length_cons] at ih ⊢ <;> simp only [List.contains_append] at ih <;> omega
 induction E with
 | nil => cases hq
 | cons a E ih =>
   rcases List.mem_cons.1 hq with rfl | hq
   · have h1 : S.contains q.born = false := by simpa using hs
     have h2 : (S ++ [q.born]).contains q.born = true := by simp
     simp only [List.filter_cons,h1,h2,Bool.not_true,Bool.not_false,Bool.false_eq_true,if_true,if_false,List.length_cons]
     have := hle E
     omega
   · have i1 := ih hq
     simp only [List.filter_cons,List.contains_append] at i1 ⊢
     cases h1 : S.contains a.born <;> cases h2 : [q.born].contains a.born <;> simp only [Bool.or_true,Bool.or_false,Bool.not_true,Bool.not_false,Bool.false_eq_true,if_true,if_false,Bool.true_or,Bool.false_or,List.length_cons] at i1 ⊢ <;> omega
def SeenOr (E : List GE) (S : List Nat) (p : GE → Bool) (a : Nat) : Prop := a < 4096 ∧ ∀ i,a.testBit i = E.any fun e => decide (e.born ∈ S) && p e && e.key.testBit i
theorem SeenOr.nil {E : List GE} {p} : SeenOr E [] p 0 := ⟨by decide,fun i => by simp⟩
theorem born_inj {e q : GE} : ∀ {l : List GE},(l.Pairwise fun a b => a.born ≠ b.born) → e ∈ l → q ∈ l → e.born = q.born → e = q
 | [],_,h,_,_ => by cases h
 | x :: l, hp, h1, h2, he => by
   rw [List.pairwise_cons] at hp
   rcases List.mem_cons.1 h1 with e1 | h3
   · rcases List.mem_cons.1 h2 with e2 | h4
     · rw [e1,e2]
     · rw [e1] at he; exact absurd he (hp.1 q h4)
   · rcases List.mem_cons.1 h2 with e2 | h4
     · rw [e2] at he; exact absurd he.symm (hp.1 e h3)
     · exact born_inj hp.2 h3 h4 he
theorem SeenOr.add {E : List GE} {S : List Nat} {p : GE → Bool} {a : Nat} {q : GE} (h : SeenOr E S p a) (hb : E.Pairwise fun a b => a.born ≠ b.born) (hq : q ∈ E) (hk : q.key < 4096) (hp : p q = true) : SeenOr E (S ++ [q.born]) p (orN a q.key) := by
 refine ⟨Nat.or_lt_two_pow (n := 12) h.1 hk,fun i => ?_⟩
 show (a ||| q.key).testBit i = _
 rw [Nat.testBit_or,h.2 i,Bool.eq_iff_iff]
 simp only [Bool.or_eq_true,List.any_eq_true,Bool.and_eq_true,decide_eq_true_eq,List.mem_append,List.mem_singleton]
 constructor
 · rintro (⟨e,he,⟨h1,h2⟩,h3⟩ | h1)
   · exact ⟨e,he,⟨.inl h1,h2⟩,h3⟩
   · exact ⟨q,hq,⟨.inr rfl,hp⟩,h1⟩
 · rintro ⟨e,he,⟨h1 | h1,h2⟩,h3⟩
   · exact .inl ⟨e,he,⟨h1,h2⟩,h3⟩
   · have : e = q := born_inj hb he hq h1
     subst this
     exact .inr h3
theorem SeenOr.skip {E : List GE} {S : List Nat} {p : GE → Bool} {a : Nat} {q : GE} (h : SeenOr E S p a) (hb : E.Pairwise fun a b => a.born ≠ b.born) (hq : q ∈ E) (hp : p q = false) : SeenOr E (S ++ [q.born]) p a := by
 refine ⟨h.1,fun i => ?_⟩
 rw [h.2 i,Bool.eq_iff_iff]
 simp only [List.any_eq_true,Bool.and_eq_true,decide_eq_true_eq,List.mem_append,List.mem_singleton]
 constructor
 · rintro ⟨e,he,⟨h1,h2⟩,h3⟩
   exact ⟨e,he,⟨.inl h1,h2⟩,h3⟩
 · rintro ⟨e,he,⟨h1 | h1,h2⟩,h3⟩
   · exact ⟨e,he,⟨h1,h2⟩,h3⟩
   · have := born_inj hb he hq h1
     subst this
     rw [hp] at h2; cases h2
theorem SeenOr.end {E : List GE} {S : List Nat} {p : GE → Bool} {a : Nat} (h : SeenOr E S p a) (hs : ∀ e ∈ E,e.born ∈ S) : a = hadN (E.filter p) := by
 refine Nat.eq_of_testBit_eq fun i => ?_
 rw [h.2 i,hadN_bit,List.any_filter,Bool.eq_iff_iff]
 simp only [List.any_eq_true,Bool.and_eq_true,decide_eq_true_eq]
 constructor
 · rintro ⟨e,he,⟨_,h2⟩,h3⟩; exact ⟨e,he,h2,h3⟩
 · rintro ⟨e,he,h2,h3⟩; exact ⟨e,he,⟨hs e he,h2⟩,h3⟩
set_option maxHeartbeats 1000000 in
theorem q_had_w {f g : Bool} {s : SH} {hp : List HObj} (hn : NoMpp hp) {rc m : Nat} {E : List GE} {clk : Nat} (hb : Brd f g s hp rc m E clk) {K : AV → List HObj → Prop} (hK : K (W64 (hadN E)) hp) : CallW Tryz.prog n_q_had [.ref rc 0] hp K := by
 refine callW_agr hn (walk func_q_had form_q_had res_q_had (by show 1 ≤ _; decide) ?_)
 simp -implicitDefEqProofs (disch := omega) [G_q_had,wrap_id,hb.bd,ldr_some,xx_rng]
 refine rngU hb.gr.mp ?_
 simp -implicitDefEqProofs (disch := omega) [wrap_id]
 refine loop_eq (fun q : Nat × List Nat => ⟨[(3,W64 q.1),(9,.ref hp.length 0)],hp ++ [.it m clk q.2 clk]⟩) (fun q => SeenOr E q.2 (fun _ => true) q.1) (fun q => muE E q.2) (0,[]) SeenOr.nil rfl ?_
 rintro ⟨a,S⟩ d1
 simp only at d1 ⊢
 have hb1 := hb.app (o := .it m clk S clk)
 refine hideK' fun K0 hK0 => ?_
 simp -implicitDefEqProofs (disch := omega) [wrap_id,xx_nxt]
 refine nxtU (app_newK).2.1 hb1.gr (fun h => ?_) (fun q hq hS => ?_)
 · simp -implicitDefEqProofs (disch := omega) [wrap_id]
   subst hK0
   simp -implicitDefEqProofs (disch := omega) [wrap_id]
   have := d1.end h
   rw [List.filter_eq_self.2 (fun _ _ => rfl)] at this
   rw [this]; exact ⟨(Agr.refl hp).app,hK⟩
 · have hsm := (hb.gr.sm q hq).2
   have hb2 := hb.app (o := .it m clk (S ++ [q.born]) clk)
   simp -implicitDefEqProofs (disch := omega) [wrap_id,xx_ent]
   refine entU_of (app_newK).2.1 hb2.gr hq ?_
   have d2 := d1.1
   simp -implicitDefEqProofs (disch := omega) [wrap_id,-b_or,uw_or]
   rw [hK0]
   exact next_eq (orN a q.key,S ++ [q.born]) (d1.add hb.gr.brs hq hsm rfl) (muE_lt hq hS) rfl
theorem and_bit {a n : Nat} : decide (andN a (pwN n) ≠ 0) = a.testBit n := by
 unfold andN pwN
 rw [Bool.eq_iff_iff,decide_eq_true_eq]
 constructor
 · intro h
   refine Classical.byContradiction fun hn => h ?_
   refine Nat.eq_of_testBit_eq fun i => ?_
   rw [Nat.testBit_and,Nat.testBit_two_pow]
   by_cases e : n = i
   · subst e; simp at hn; simp [hn]
   · simp [e]
 · intro h h0
   have := congrArg (fun x => x.testBit n) h0
   simp [Nat.testBit_and,Nat.testBit_two_pow,h] at this
def besN (E : List GE) (n : Nat) : Nat := difN (hadN (E.filter fun e => e.key.testBit n)) (pwN n)
theorem besN_lt {E : List GE} (h : ∀ e ∈ E,e.key < 4096) {n : Nat} : besN E n < 4096 := Nat.lt_of_le_of_lt difN_le (hadN_lt fun e he => h e (List.mem_filter.1 he).1)
set_option maxHeartbeats 1000000 in
theorem q_beside_w {f g : Bool} {s : SH} {hp : List HObj} (hn : NoMpp hp) {rc m : Nat} {E : List GE} {clk : Nat} (hb : Brd f g s hp rc m E clk) {n : Nat} (h12 : n < 12) {K : AV → List HObj → Prop} (hK : K (W64 (besN E n)) hp) : CallW Tryz.prog n_q_beside [.ref rc 0,I (n : Int)] hp K := by
 refine callW_agr hn (walk func_q_beside form_q_beside res_q_beside (by show 2 ≤ _; decide) ?_)
 have pw := pwN_small (i := n) (by omega)
 simp -implicitDefEqProofs (disch := omega) [G_q_beside,wrap_id,hb.bd,ldr_some,xx_rng]
 refine rngU hb.gr.mp ?_
 simp -implicitDefEqProofs (disch := omega) [wrap_id]
 refine loop_eq (fun q : Nat × List Nat => ⟨[(1,I (n : Int)),(5,W64 q.1),(11,.ref hp.length 0)],hp ++ [.it m clk q.2 clk]⟩) (fun q => SeenOr E q.2 (fun e => e.key.testBit n) q.1) (fun q => muE E q.2) (0,[]) SeenOr.nil rfl ?_
 rintro ⟨a,S⟩ d1
 simp only at d1 ⊢
 have d2 := d1.1
 have hb1 := hb.app (o := .it m clk S clk)
 refine hideK' fun K0 hK0 => ?_
 simp -implicitDefEqProofs (disch := omega) [wrap_id,xx_nxt]
 refine nxtU (app_newK).2.1 hb1.gr (fun h => ?_) (fun q hq hS => ?_)
 · simp -implicitDefEqProofs (disch := omega) [wrap_id]
   subst hK0
   have d3 := d1.end h
   simp -implicitDefEqProofs (disch := omega) [wrap_id,-b_shl,uw_shl,-b_andNot,uw_dif,pw]
   rw [d3]
   exact ⟨(Agr.refl hp).app,hK⟩
 · have hsm := (hb.gr.sm q hq).2
   have hb2 := hb.app (o := .it m clk (S ++ [q.born]) clk)
   simp -implicitDefEqProofs (disch := omega) [wrap_id,xx_ent]
   refine entU_of (app_newK).2.1 hb2.gr hq ?_
   simp -implicitDefEqProofs (disch := omega) [wrap_id,-b_shl,uw_shl,-b_and,uw_and,-b_neq,uw_ne0,pw]
   rw [hK0]
   cases ht : q.key.testBit n with
   | true =>
     rw [← and_bit,decide_eq_true_eq] at ht
     simp -implicitDefEqProofs (disch := omega) [wrap_id,ht,-b_or,uw_or]
     exact next_eq (orN a q.key,S ++ [q.born]) (d1.add hb.gr.brs hq hsm (by rw [← and_bit]; simp [ht])) (muE_lt hq hS) rfl
   | false =>
     rw [← and_bit,decide_eq_false_iff_not,Classical.not_not] at ht
     simp -implicitDefEqProofs (disch := omega) [wrap_id,ht]
     exact next_sub (a,S ++ [q.born]) (d1.skip hb.gr.brs hq (by rw [← and_bit]; simp [ht])) (muE_lt hq hS) rfl (by simp)
theorem q_all_w {f g : Bool} {s : SH} {hp : List HObj} {rc m : Nat} {E : List GE} {clk : Nat} (hb : Brd f g s hp rc m E clk) (hm : s.m.length ≤ 12) {K : AV → List HObj → Prop} (hK : K (W64 (pwN s.m.length - 1)) hp) : CallW Tryz.prog n_q_all [.ref rc 0] hp K :=
 callW_see (.cons (see_bd hb.bd) .nil) (q_all_ok f g s hm) rfl hK
theorem q_isComb_w {f g : Bool} {s : SH} {hp : List HObj} {rc m : Nat} {E : List GE} {clk : Nat} (hb : Brd f g s hp rc m E clk) (n : Int) {K : AV → List HObj → Prop} (hK : K (B (isK s n)) hp) : CallW Tryz.prog n_q_isComb [.ref rc 0,I n] hp K :=
 callW_see (.cons (see_bd hb.bd) (.cons (.pure rfl) .nil)) (q_isComb_ok f g s n) rfl hK
end Go.AM

namespace Go.AM
open Go.RowKit Go.Proofs
def allN (s : SH) : Nat := pwN s.m.length - 1
theorem pw_12 {s : SH} (hv : ValS s) : pwN s.m.length ≤ 4096 ∧ 2 ≤ pwN s.m.length := by
 have h1 := hv.m1
 have h2 := hv.m12
 unfold pwN
 exact ⟨Nat.le_trans (Nat.pow_le_pow_right (by decide) h2) (by decide),Nat.le_trans (show 2 ≤ 2 ^ 1 by decide) (Nat.pow_le_pow_right (by decide) h1)⟩
theorem orT_bit {s : SH} {R : List (Int × Int)} {k : Nat} : (allB s R).testBit k = R.any fun r => (bitO s r).testBit k := by
 unfold allB
 rw [orT_orJ,orJ_bit,Nat.zero_testBit,Bool.false_or,Bool.eq_iff_iff]
 simp only [List.any_eq_true,List.mem_range]
 constructor
 · rintro ⟨j,hj,h⟩
   rw [getD_at hj] at h
   exact ⟨_,List.getElem_mem hj,h⟩
 · rintro ⟨r,hr,h⟩
   obtain ⟨j,hj,rfl⟩ := List.mem_iff_getElem.1 hr
   exact ⟨j,hj,by rw [getD_at hj]; exact h⟩
theorem key_of {s : SH} {hp m E clk} (hg : GrH hp m E clk) (ho : GOf s (allR s) E) {e : GE} (he : e ∈ E) : ∃ r ∈ allR s,bitO s r = e.key := by
 have h1 := hg.ne e he
 have h2 := ho.rows e he
 cases h : e.rows with
 | nil => exact absurd h h1
 | cons r t =>
   have : r ∈ (allR s).filter fun r => decide (bitO s r = e.key) := by rw [← h2,h]; simp
   rw [List.mem_filter,decide_eq_true_eq] at this
   exact ⟨r,this⟩
theorem had_all {s : SH} {hp m E clk} (hg : GrH hp m E clk) (ho : GOf s (allR s) E) : hadN E = allB s (allR s) := by
 refine Nat.eq_of_testBit_eq fun i => ?_
 rw [hadN_bit,orT_bit,Bool.eq_iff_iff]
 simp only [List.any_eq_true]
 constructor
 · rintro ⟨e,he,h⟩
   obtain ⟨r,hr,h2⟩ := key_of hg ho he
   exact ⟨r,hr,by rw [h2]; exact h⟩
 · rintro ⟨r,hr,h⟩
   obtain ⟨e,he,h2⟩ := ho.all r hr
   exact ⟨e,he,by rw [h2]; exact h⟩
theorem dif_full {n x : Nat} (h : x < 2 ^ n) : difN (2 ^ n - 1) x = 2 ^ n - 1 - x := by
 refine Nat.eq_of_testBit_eq fun i => ?_
 have e : 2 ^ n - 1 - x = 2 ^ n - (x + 1) := by omega
 rw [e,Nat.testBit_two_pow_sub_succ h]
 unfold difN
 rw [Nat.testBit_xor,Nat.testBit_and,Nat.testBit_two_pow_sub_one]
 cases decide (i < n) <;> cases x.testBit i <;> rfl
theorem lost_nil {s : SH} (hv : ValS s) : lostL s = [] ↔ allB s (allR s) = allN s := by
 have w := pw_12 hv
 have ob : allB s (allR s) < pwN s.m.length := orT_small hv
 unfold lostL allN
 constructor
 · intro h
   have := bitL_nil (x := pwN s.m.length - 1 - allB s (allR s)) (by omega) h
   omega
 · intro h
   rw [show pwN s.m.length - 1 - allB s (allR s) = 0 by omega]; exact bitL_zero
theorem k_whole1_w {f g : Bool} {s : SH} {hp : List HObj} {c rc m : Nat} {E : List GE} {clk : Nat} (hb : Brd f g s hp rc m E clk) (hc : nthH hp c = some (.cells [.ref rc 0])) (n : Int) {K : AV → List HObj → Prop} (hK : K (B (!isK s n)) hp) : CallW Tryz.prog n_k_whole_1 [I n,.ref c 0] hp K := by
 refine walk func_k_whole_1 form_k_whole_1 res_k_whole_1 (by show 2 ≤ _; decide) ?_
 simp -implicitDefEqProofs (disch := omega) [G_k_whole_1,wrap_id,hc,ldr_some]
 refine q_isComb_w hb n ?_
 simp -implicitDefEqProofs (disch := omega) [wrap_id]
 exact hK
def whE (s : SH) (cs : List Int) : Int := if shtE s ≠ 0 then shtE s else if cs.any (fun n => !isK s n) = true then 2 else if lostL s ≠ [] then 19 else 0
set_option maxHeartbeats 2000000 in
theorem k_whole_w {f g h : Bool} {s : SH} (hz : SzS s) {cs : List Int} (hcs : cs.length ≤ 1000) {hp : List HObj} (hn : NoMpp hp) {K : AV → List HObj → Prop}
 (h1 : whE s cs ≠ 0 → ∀ H,Agr hp H → NoMpp H → K (.tup [.v (.pointer none),I (whE s cs)]) H)
 (h2 : whE s cs = 0 → shtE s = 0 → lostL s = [] → ∀ H rc m E clk,Agr hp H → NoMpp H → hp.length ≤ rc → Brd f g s H rc m E clk → GOf s (allR s) E → K (.tup [.ref rc 0,I 0]) H) : CallW Tryz.prog n_k_whole [Sn f g s,Ls h cs] hp K := by
 refine callW_aws func_k_whole form_k_whole res_k_whole (by show 2 ≤ _; decide) ?_
 simp only [G_k_whole]
 refine aws_step ?_
 simp -implicitDefEqProofs (disch := omega) [wrap_id]
 refine aws_step ?_
 simp -implicitDefEqProofs (disch := omega) [wrap_id]
 refine k_open_w hz hn.app (fun h0 H ha hm => ?_) (fun h0 H rc m E clk ha hm hlen hb hof => ?_)
 · have e : whE s cs = shtE s := by unfold whE; rw [if_pos h0]
   have h0' : (shtE s != 0) = true := by simp [h0]
   simp -implicitDefEqProofs (disch := omega) [wrap_id]
   refine aws_of ?_
   simp -implicitDefEqProofs (disch := omega) [wrap_id,h0']
   have := h1 (by rw [e]; exact h0)
   rw [e] at this
   exact this _ ((Agr.refl hp).app.trans (ha.trans (Agr.refl H).app)) hm.app
 · have hv := val_of h0
   have w := pw_12 hv
   have hm12 := hv.m12
   simp -implicitDefEqProofs (disch := omega) [wrap_id]
   obtain ⟨o1,o2,o3⟩ := app_newK (H := H) (o := .cells [.ref rc 0])
   have hb2 := hb.app (o := .cells [.ref rc 0])
   have hm2 : NoMpp (H ++ [.cells [.ref rc 0]]) := hm.app
   have ha2 : Agr hp (H ++ [.cells [.ref rc 0]]) := ((Agr.refl hp).app.trans ha).app
   have hl2 : hp.length ≤ rc := by simp at hlen; omega
   generalize H ++ [HObj.cells [AV.ref rc 0]] = G at *
   refine aws_seq (aws_block (aws_step ?_))
   simp -implicitDefEqProofs (disch := omega) [wrap_id]
   refine aws_cond (t := false) rfl (fun h => by cases h) fun _ => ?_
   refine aws_step ?_
   simp -implicitDefEqProofs (disch := omega) [wrap_id]
   refine k_containsL_w h cs (by omega) (p := fun n => !isK s n) (by kernel_rfl) (fun i hi KK hKK => k_whole1_w hb2 o2 _ hKK) ?_
   simp -implicitDefEqProofs (disch := omega) [wrap_id]
   cases hany : cs.any fun n => !isK s n with
   | true =>
     have e : whE s cs = 2 := by unfold whE; rw [if_neg (by omega),if_pos hany]
     refine aws_cond (t := true) rfl (fun _ => aws_of ?_) (fun h => by cases h)
     simp -implicitDefEqProofs (disch := omega) [wrap_id]
     have := h1 (by omega) _ ha2 hm2
     rw [e] at this
     exact this
   | false =>
     refine aws_cond (t := false) rfl (fun h => by cases h) fun _ => ?_
     refine aws_seq (aws_read ?_)
     simp -implicitDefEqProofs (disch := omega) [wrap_id,o2,ldr_some]
     refine r_call (W64 (hadN E)) (fun KK hKK => q_had_w hm2 hb2 hKK) ?_
     simp -implicitDefEqProofs (disch := omega) [wrap_id,o2,ldr_some]
     refine r_call (W64 (allN s)) (fun KK hKK => q_all_w hb2 hm12 hKK) ?_
     simp -implicitDefEqProofs (disch := omega) [wrap_id,-b_neq,uw_neq]
     have had := had_all hb.gr hof
     have ln := lost_nil hv
     rw [← had] at ln
     by_cases hL : lostL s = []
     · have e1 := ln.1 hL
       have e : whE s cs = 0 := by unfold whE; rw [if_neg (by omega),if_neg (by rw [hany]; decide),if_neg (by simp [hL])]
       refine aws_cond (t := false) (by simp [e1]) (fun h => by cases h) fun _ => aws_of ?_
       simp -implicitDefEqProofs (disch := omega) [wrap_id]
       refine aws_of ?_
       simp -implicitDefEqProofs (disch := omega) [wrap_id,o2,ldr_some]
       exact h2 e h0 hL _ _ _ _ _ ha2 hm2 hl2 hb2 hof
     · have e1 : hadN E ≠ allN s := fun h => hL (ln.2 h)
       have e : whE s cs = 19 := by unfold whE; rw [if_neg (by omega),if_neg (by rw [hany]; decide),if_pos hL]
       refine aws_cond (t := true) (by simp [e1]) (fun _ => aws_of ?_) fun h => by cases h
       simp -implicitDefEqProofs (disch := omega) [wrap_id]
       have := h1 (by omega) _ ha2 hm2
       rw [e] at this
       exact this
end Go.AM

namespace Go.AM
open Go.RowKit Go.Proofs
set_option maxHeartbeats 2000000 in
theorem k_Has_ok (f g : Bool) (s : SH) (hz : SzS s) (r : Int × Int) : PureOK Tryz.prog n_k_Has [Sn f g s, Pr r] (.tup [Ls (hasL s r).isEmpty (hasL s r), I (hasE s r)]) := by
 refine pure_of (walk func_k_Has form_k_Has res_k_Has (by show 2 ≤ _; decide) ?_)
 simp -implicitDefEqProofs (disch := omega) [G_k_Has,wrap_id]
 refine k_open_w hz (mpp_list rfl) (fun h0 H ha hm => ?_) (fun h0 H rc m E clk ha hm hlen hb hof => ?_)
 · have e : hasE s r = shtE s := by unfold hasE; rw [if_pos h0]
   have e2 : hasL s r = [] := by unfold hasL; rw [if_neg (by omega)]
   have h0' : (shtE s != 0) = true := by simp [h0]
   rw [e,e2]
   simp -implicitDefEqProofs (disch := omega) [wrap_id,h0']
   exact out_of (is := []) rfl
 · have hv := val_of h0
   have w := pw_12 hv
   have c1 : nthH H 1 = some (.cells [I r.1,I r.2]) := ha.get rfl
   simp -implicitDefEqProofs (disch := omega) [wrap_id,c1,ldr_some]
   refine q_isComb_w hb r.1 ?_
   cases hk : isK s r.1 with
   | false =>
     have e : hasE s r = 2 := by unfold hasE; rw [if_neg (by omega),if_pos hk]
     have e2 : hasL s r = [] := by unfold hasL; rw [if_neg (by omega)]
     rw [e,e2]
     simp -implicitDefEqProofs (disch := omega) [wrap_id]
     exact out_of (is := []) rfl
   | true =>
     simp -implicitDefEqProofs (disch := omega) [wrap_id,c1,ldr_some]
     refine q_marks_w hv hb.bd hk ?_
     by_cases hz : bitO s r = 0
     · have e : hasE s r = 19 := by unfold hasE; rw [if_neg (by omega),if_neg (by rw [hk]; decide),if_pos hz]
       have e2 : hasL s r = [] := by unfold hasL; rw [if_neg (by omega)]
       rw [e,e2,hz]
       simp -implicitDefEqProofs (disch := omega) [wrap_id]
       exact out_of (is := []) rfl
     · have e : hasE s r = 0 := by unfold hasE; rw [if_neg (by omega),if_neg (by rw [hk]; decide),if_neg hz]
       have e2 : hasL s r = bitL (bitO s r) := by unfold hasL; rw [if_pos e]
       have hsm : bitO s r < 4096 := by
        have := bitO_small hv r
        have := w.1
        unfold pwN at this
        omega
       rw [e,e2]
       simp -implicitDefEqProofs (disch := omega) [wrap_id,-b_eql,uw_eq0,hz]
       refine callW_pure (ys := [W64 (bitO s r)]) (ids := []) rfl (t_list_ok _ hsm) ?_
       simp -implicitDefEqProofs (disch := omega) [wrap_id]
       exact out_of (is := []) rfl
set_option maxHeartbeats 2000000 in
theorem k_Lost_ok (f g : Bool) (s : SH) (hz : SzS s) : PureOK Tryz.prog n_k_Lost [Sn f g s] (.tup [Ls (lstL s).isEmpty (lstL s),I (shtE s)]) := by
 refine pure_of (walk func_k_Lost form_k_Lost res_k_Lost (by show 1 ≤ _; decide) ?_)
 simp -implicitDefEqProofs (disch := omega) [G_k_Lost,wrap_id]
 refine k_open_w hz (mpp_list rfl) (fun h0 H ha hm => ?_) (fun h0 H rc m E clk ha hm hlen hb hof => ?_)
 · have e2 : lstL s = [] := by unfold lstL; rw [if_neg h0]
   have h0' : (shtE s != 0) = true := by simp [h0]
   rw [e2]
   simp -implicitDefEqProofs (disch := omega) [wrap_id,h0']
   exact out_of (is := []) rfl
 · have hv := val_of h0
   have w := pw_12 hv
   have hm12 := hv.m12
   have had := had_all hb.gr hof
   have hlt : hadN E < pwN s.m.length := by rw [had]; exact orT_small hv
   have e2 : lstL s = bitL (difN (allN s) (hadN E)) := by
    unfold lstL lostL; rw [if_pos h0]
    unfold allN pwN at *
    rw [dif_full hlt,had]
   have hd : difN (allN s) (hadN E) < 4096 := by
    have := difN_le (a := allN s) (c := hadN E)
    unfold allN at *
    omega
   have ha60 : allN s < 2 ^ 60 := by unfold allN; omega
   rw [e2,h0]
   simp -implicitDefEqProofs (disch := omega) [wrap_id]
   refine q_all_w hb hm12 ?_
   simp -implicitDefEqProofs (disch := omega) [wrap_id]
   refine q_had_w hm hb ?_
   show AM.contC _ _ _ _ _ _ _ _
   rw [show pwN s.m.length - 1 = allN s from rfl]
   simp -implicitDefEqProofs (disch := omega) [wrap_id,-b_andNot,uw_dif]
   refine callW_pure (ys := [W64 (difN (allN s) (hadN E))]) (ids := []) rfl (t_list_ok _ hd) ?_
   simp -implicitDefEqProofs (disch := omega) [wrap_id]
   exact out_of (is := []) rfl
end Go.AM

namespace Go.AM
open Go.RowKit Go.Proofs
theorem slc_full {hp : List HObj} {x : AV} {l : List Int} {K : AV → List (Nat × HObj) → Prop} (h : AccR hp x l) (k : K x []) : SlcW 1 x none (some (I (l.length : Int))) (some (I (l.length : Int))) K := by
 rcases h with ⟨rfl,rfl⟩ | ⟨id,rfl,h1,h2⟩
 · exact ⟨_,[],⟨0,0,rfl,rfl,Nat.le_refl _,Nat.le_refl _,rfl,⟨rfl,rfl,rfl⟩,rfl⟩,k⟩
 · exact ⟨_,[],⟨0,l.length,rfl,rfl,Nat.zero_le _,Nat.le_refl _,rfl,⟨l.length,rfl,Nat.le_refl _,Nat.le_refl _,rfl⟩,by simp,rfl⟩,k⟩
theorem accR_len {hp : List HObj} {x : AV} {l : List Int} {K : AV → List (Nat × HObj) → Prop} (h : AccR hp x l) : LenW x K = K (I (l.length : Int)) [] := by
 rcases h with ⟨rfl,rfl⟩ | ⟨id,rfl,h1,h2⟩ <;> rfl
def atsK (n : Int) (L : List (Int × Int)) : List Int := (L.filter fun r => decide (r.1 = n)).map (·.2)
theorem atsK_app {n : Int} {L L' : List (Int × Int)} : atsK n (L ++ L') = atsK n L ++ atsK n L' := by unfold atsK; rw [List.filter_append,List.map_append]
theorem atsK_rowOf {s : SH} {n : Int} {c : Nat} : atsK n (rowOf s c) = if (c : Int) = n then plcT s n 501 else [] := by
 unfold atsK rowOf
 split
 · rename_i h
   subst h
   rw [List.filter_eq_self.2 (by
    intro r hr
    rw [List.mem_map] at hr
    obtain ⟨a,_,rfl⟩ := hr
    simp),List.map_map]
   have : ((fun r : Int × Int => r.2) ∘ fun a : Int => ((c : Int),a)) = id := rfl
   rw [this,List.map_id]
 · rename_i h
   rw [List.filter_eq_nil_iff.2 (by
    intro r hr
    rw [List.mem_map] at hr
    obtain ⟨a,_,rfl⟩ := hr
    simpa using h)]
   rfl
theorem atsK_rws {s : SH} {n : Int} : ∀ {k : Nat},atsK n (rwsK s k) = if 0 ≤ n ∧ n < k then plcT s n 501 else []
 | 0 => by rw [if_neg (by omega)]; rfl
 | k + 1 => by
   rw [rwsK_succ,atsK_app,atsK_rws,atsK_rowOf]
   by_cases h1 : (k : Int) = n
   · rw [if_neg (by omega),if_pos h1,if_pos (by omega),List.nil_append]
   · rw [if_neg h1,List.append_nil]
     by_cases h2 : 0 ≤ n ∧ n < (k : Int)
     · rw [if_pos h2,if_pos (by omega)]
     · rw [if_neg h2,if_neg (by omega)]
structure PlJ (n : Int) (c8 q : Nat) (lp : HObj) (base : List (Nat × HObj)) (L : List (Int × Int)) (p : List (Nat × HObj)) (x : AV) (G : List HObj) : Prop where
 cell : nthH G c8 = some (.cells [x])
 acc : AccR G x (atsK n L)
 pin : ∀ y ∈ (q,lp) :: (base ++ p),nthH G y.1 = some y.2 ∧ y.1 ≠ c8 ∧ rid x ≠ some y.1
 self : rid x ≠ some c8
 sep : ∀ y ∈ base ++ p,y.1 ≠ q
theorem PlJ.pinned {n c8 q lp base L p x G cs} (h : PlJ n c8 q lp base L p x G) : PlJ n c8 q lp base L ((G.length,.cells cs) :: p) x (G ++ [.cells cs]) := by
 have hq := nthH_lt (h.pin _ (List.mem_cons_self)).1
 have h8 := nthH_lt h.cell
 have hr : ∀ i,rid x = some i → i < G.length := fun i hi => by
  rcases h.acc with ⟨rfl,_⟩ | ⟨id,rfl,_,h2⟩
  · cases hi
  · cases hi; exact nthH_lt h2
 refine ⟨(nthH_front h8).trans h.cell,h.acc.mono fun i hi => nthH_front (hr i hi),fun y hy => ?_,h.self,fun y hy => ?_⟩
 · have : y ∈ (q,lp) :: (base ++ p) ∨ y = (G.length,.cells cs) := by
    simp at hy ⊢
    rcases hy with h | h | h | h <;> simp [h]
   rcases this with hy | rfl
   · obtain ⟨h1,h2,h3⟩ := h.pin y hy
     exact ⟨(nthH_front (nthH_lt h1)).trans h1,h2,h3⟩
   · exact ⟨(app_newK (H := G)).2.1,by simp only; omega,fun e => by have := hr _ e; simp only at this; omega⟩
 · simp at hy
   rcases hy with h1 | h1 | h1
   · exact h.sep y (by simp [h1])
   · subst h1; simp only at hq ⊢; omega
   · exact h.sep y (by simp [h1])
theorem PlJ.drop {n c8 q lp base L y p x G} (h : PlJ n c8 q lp base L (y :: p) x G) : PlJ n c8 q lp base L p x G := by
 refine ⟨h.cell,h.acc,fun z hz => h.pin z ?_,h.self,fun z hz => h.sep z ?_⟩
 · simp at hz ⊢
   rcases hz with h | h | h <;> simp [h]
 · simp at hz ⊢
   rcases hz with h | h <;> simp [h]
theorem PlJ.repin {n c8 q lp lp' base L p x G} (h : PlJ n c8 q lp base L p x G) : PlJ n c8 q lp' base L p x (G.set q lp') := by
 obtain ⟨h1,h2,h3⟩ := h.pin _ (List.mem_cons_self)
 simp only at h1 h2 h3
 have ne : ∀ i,i ≠ q → nthH (G.set q lp') i = nthH G i := fun i hi => nthH_set_ne (Ne.symm hi)
 refine ⟨(ne _ (Ne.symm h2)).trans h.cell,h.acc.mono fun i hi => ne i (fun e => h3 (by rw [hi,e])),fun y hy => ?_,h.self,h.sep⟩
 rcases List.mem_cons.1 hy with rfl | hy
 · exact ⟨nthH_set_same (nthH_lt h1),h2,h3⟩
 · obtain ⟨k1,k2,k3⟩ := h.pin y (List.mem_cons_of_mem _ hy)
   exact ⟨(ne _ (h.sep y hy)).trans k1,k2,k3⟩
set_option maxHeartbeats 4000000 in
theorem k_Places_ok (f g : Bool) (s : SH) (hz : SzS s) (n : Int) : PureOK Tryz.prog n_k_Places [Sn f g s,I n] (.tup [Ls (plsL s n).isEmpty (plsL s n),I (plsE s n)]) := by
 refine pure_of (walk func_k_Places form_k_Places res_k_Places (by show 2 ≤ _; decide) ?_)
 simp -implicitDefEqProofs (disch := omega) [G_k_Places,wrap_id]
 refine k_open_w hz (mpp_list rfl) (fun h0 H ha hm => ?_) (fun h0 H rc m E clk ha hm hlen hb hof => ?_)
 · have e : plsE s n = shtE s := by unfold plsE; rw [if_pos h0]
   have e2 : plsL s n = [] := by unfold plsL; rw [if_neg (by omega)]
   have h0' : (shtE s != 0) = true := by simp [h0]
   rw [e,e2]
   simp -implicitDefEqProofs (disch := omega) [wrap_id,h0']
   exact out_of (is := []) rfl
 have hv := val_of h0
 have c1 : nthH H 1 = some (.cells [I n]) := ha.get rfl
 have lH := nthH_lt c1
 simp -implicitDefEqProofs (disch := omega) [wrap_id,c1,ldr_some]
 refine q_isComb_w hb n ?_
 cases hk : isK s n with
 | false =>
   have e : plsE s n = 2 := by unfold plsE; rw [if_neg (by omega),if_pos hk]
   have e2 : plsL s n = [] := by unfold plsL; rw [if_neg (by omega)]
   rw [e,e2]
   simp -implicitDefEqProofs (disch := omega) [wrap_id]
   exact out_of (is := []) rfl
 | true =>
 have e : plsE s n = 0 := by unfold plsE; rw [if_neg (by omega),if_neg (by rw [hk]; decide)]
 have e2 : plsL s n = atsK n (allR s) := by
  unfold isK at hk
  simp only [Bool.and_eq_true,decide_eq_true_eq] at hk
  unfold plsL allR
  rw [if_pos e,atsK_rws,if_pos hk]
 rw [e,e2]
 simp -implicitDefEqProofs (disch := omega) [wrap_id]
 refine q_rows_w ?_
 simp -implicitDefEqProofs (disch := omega) [wrap_id]
 let base : List (Nat × HObj) := [(1,.cells [I n]),(rc,.cells [Ps f s.k,Ps g s.m,.mp m]),(H.length + 1,.cells [.ref rc 0])]
 have hrc := nthH_lt hb.bd
 have hl : (H ++ [HObj.cells [AV.sl true 0 []],HObj.cells [AV.ref rc 0]]).length = H.length + 2 := by simp
 have init : PlJ n H.length (H.length + 2) (.lp .ready (H.length + 2 + 1)) base [] [] (.sl true 0 []) (H ++ [HObj.cells [AV.sl true 0 []],HObj.cells [AV.ref rc 0]] ++ [.lp .ready (H.length + 2 + 1),.gone]) := by
  rw [List.append_assoc]
  refine ⟨nthH_at (i := 0),.inl ⟨rfl,rfl⟩,fun y hy => ?_,by simp [rid],fun y hy => ?_⟩
  · simp [base] at hy
    rcases hy with rfl | rfl | rfl | rfl
    · exact ⟨nthH_at,by simp only; omega,by simp [rid]⟩
    · exact ⟨(nthH_front lH).trans c1,by simp only; omega,by simp [rid]⟩
    · exact ⟨(nthH_front hrc).trans hb.bd,by simp only; omega,by simp [rid]⟩
    · exact ⟨nthH_at,by simp only; omega,by simp [rid]⟩
  · simp [base] at hy
    rcases hy with rfl | rfl | rfl <;> simp only <;> omega
 generalize H ++ [HObj.cells [AV.sl true 0 []],HObj.cells [AV.ref rc 0]] = HB at hl init ⊢
 refine rf_of (K0 := fun G => (∃ x,PlJ n H.length (H.length + 2) (.lp .ready (H.length + 2 + 1)) base (allR s) [] x G) ∨ False)
  (q_rows_R hv (f := f) (g := g) (X := .mp m) (rc := rc) (cb := H.length + 1) (J := fun L p G => ∃ x,PlJ n H.length (H.length + 2) (.lp .ready (H.length + 2 + 1)) base L p x G) (D := fun _ => False) ?_ ?_ (fun L p G cs ⟨x,h⟩ => ⟨x,h.pinned⟩) (fun L q p G ⟨x,h⟩ => ⟨x,h.drop⟩) ?_) ?_
 · rw [hl]; exact ⟨_,init⟩
 · rintro L p G ⟨x,h⟩
   exact ⟨⟨(h.pin (H.length + 1,.cells [.ref rc 0]) (by simp [base])).1,(h.pin (rc,.cells [Ps f s.k,Ps g s.m,.mp m]) (by simp [base])).1⟩,fun q hq => (h.pin q (by simp [hq])).1⟩
 · rintro L r t p G hL ⟨x,hJ⟩
   have hJ2 := (hJ.pinned (cs := [I r.1,I r.2])).repin (lp' := .lp .busy (H.length + 2 + 1))
   have lp0 : nthH G (H.length + 2) = some (.lp .ready (H.length + 2 + 1)) := (hJ.pin _ (List.mem_cons_self)).1
   have lp1 : nthH (G ++ [HObj.cells [I r.1,I r.2]]) (H.length + 2) = some (.lp .ready (H.length + 2 + 1)) := (nthH_front (nthH_lt lp0)).trans lp0
   have lq : H.length + 2 < G.length + 1 := by have := nthH_lt lp0; omega
   have bL : (atsK n L).length ≤ 9999 := by
    have := congrArg List.length hL
    rw [List.length_append] at this
    have := rwsK_len (s := s) (n := s.k.length)
    have hk8 := hv.k8
    have h3 : (atsK n L).length ≤ L.length := by unfold atsK; rw [List.length_map]; exact List.length_filter_le _ _
    unfold allR at *
    omega
   rw [hl]
   refine ⟨by rw [hpf_nthH]; exact lp0,rfl,?_⟩
   simp -implicitDefEqProofs (disch := omega) [wrap_id,putPs,hpf_nthH,lp1,lq]
   generalize (G ++ [HObj.cells [I r.1,I r.2]]).set (H.length + 2) (HObj.lp LpSt.busy (H.length + 2 + 1)) = G1 at hJ2 ⊢
   have c1' : nthH G1 1 = some (.cells [I n]) := (hJ2.pin (1,.cells [I n]) (by simp [base])).1
   have c4 : nthH G1 G.length = some (.cells [I r.1,I r.2]) := (hJ2.pin (G.length,.cells [I r.1,I r.2]) (by simp)).1
   have c8 := hJ2.cell
   have ne8 : G.length ≠ H.length := (hJ2.pin (G.length,.cells [I r.1,I r.2]) (by simp)).2.1
   have fin : ∀ (fr : List (Nat × AV)) (G2 : List HObj) (x' : AV),PlJ n H.length (H.length + 2) (.lp .busy (H.length + 2 + 1)) base (L ++ [r]) ((G.length,.cells [I r.1,I r.2]) :: p) x' G2 →
    RoundQ (H.length + 2) (fun rr G' => rr = AM.B true ∧ ∃ x,PlJ n H.length (H.length + 2) (.lp .ready (H.length + 2 + 1)) base (L ++ [r]) p x G') .normal ⟨fr,G2⟩ := fun fr G2 x' hg => by
    have b1 : nthH G2 (H.length + 2) = some (.lp .busy (H.length + 2 + 1)) := (hg.pin _ (List.mem_cons_self)).1
    have lb := nthH_lt b1
    refine ⟨by rw [hpf_nthH]; exact b1,rfl,?_⟩
    simp only [setL,lb,if_true]
    exact ⟨x',(hg.repin (lp' := .lp .ready (H.length + 2 + 1))).drop⟩
   simp -implicitDefEqProofs (disch := omega) [wrap_id,c1',c4,ldr_some]
   refine c_split (fun hc => ?_) (fun hc => ?_)
   · have hrn : r.1 = n := by simpa using hc
     have eA : atsK n (L ++ [r]) = atsK n L ++ [r.2] := by rw [atsK_app]; congr 1; simp [atsK,hrn]
     simp -implicitDefEqProofs (disch := omega) [wrap_id,c8,c4,ldr_some,accR_len hJ2.acc]
     refine slc_full hJ2.acc ?_
     simp -implicitDefEqProofs (disch := omega) [wrap_id,c4,ldr_some]
     refine bsl_of (ys := [I r.2]) rfl rfl ?_
     simp -implicitDefEqProofs (disch := omega) [wrap_id,zrep]
     refine app_row hJ2.acc.row (by omega) fun ws w1 w2 w3 => ?_
     rw [x_contD]
     have l8 := nthH_lt c8
     have d8 : nthH (writeL G1 ws) H.length = some (.cells [x]) := (w1 _ l8 hJ2.self).trans c8
     have keep : ∀ y ∈ (H.length + 2,HObj.lp .busy (H.length + 2 + 1)) :: (base ++ (G.length,.cells [I r.1,I r.2]) :: p),nthH (writeL G1 ws) y.1 = some y.2 ∧ y.1 ≠ H.length ∧ y.1 ≠ G1.length := fun y hy => by
      obtain ⟨k1,k2,k3⟩ := hJ2.pin y hy
      have := nthH_lt k1
      exact ⟨(w1 _ this k3).trans k1,k2,by omega⟩
     have l2 : G1.length < (writeL G1 ws).length := w2
     generalize writeL G1 ws = G2 at d8 keep l2 w3 ⊢
     have ld8 := nthH_lt d8
     simp -implicitDefEqProofs (disch := omega) [wrap_id,d8,ld8,str_some,cmp2,nthT,disj]
     have hne : ∀ i,i ≠ H.length → nthH (G2.set H.length (.cells [AV.ms G1.length 0 ((atsK n L).length + 1) 1])) i = nthH G2 i := fun i hi => nthH_set_ne (Ne.symm hi)
     refine fin _ _ (.ms G1.length 0 ((atsK n L).length + 1) 1) ⟨nthH_set_same ld8,?_,fun y hy => ?_,fun e => ?_,hJ2.sep⟩
     · rw [eA]
       exact .inr ⟨G1.length,by simp,by simp,(hne _ (by omega)).trans w3⟩
     · obtain ⟨k1,k2,k3⟩ := keep y hy
       exact ⟨(hne _ k2).trans k1,k2,fun e => k3 (by simp only [rid,Option.some.injEq] at e; exact e.symm)⟩
     · simp only [rid,Option.some.injEq] at e; omega
   · have hrn : ¬ r.1 = n := by simpa using hc
     have eA : atsK n (L ++ [r]) = atsK n L := by rw [atsK_app]; simp [atsK,hrn]
     simp -implicitDefEqProofs (disch := omega) [wrap_id]
     exact fin _ _ x ⟨hJ2.cell,by rw [eA]; exact hJ2.acc,hJ2.pin,hJ2.self,hJ2.sep⟩
 · rintro G (⟨x,h⟩ | h)
   · have lp0 : nthH G (H.length + 2) = some (.lp .ready (H.length + 2 + 1)) := (h.pin _ (List.mem_cons_self)).1
     have h3 := h.repin (lp' := .gone)
     rw [hl]
     refine rfEnd_ready lp0 ?_
     generalize G.set (H.length + 2) .gone = G1 at h3
     have c8 := h3.cell
     simp -implicitDefEqProofs (disch := omega) [wrap_id,c8,ldr_some]
     exact h3.acc.tupE
   · exact h.elim
end Go.AM

namespace Go.AM
open Go.RowKit Go.Proofs
theorem k_CheckRows1_w {f g : Bool} {s : SH} {hp : List HObj} (hn : NoMpp hp) {c rc m : Nat} {E : List GE} {clk : Nat} (hb : Brd f g s hp rc m E clk) (hc : nthH hp c = some (.cells [.ref rc 0])) (r : Int × Int) {K : AV → List HObj → Prop} (hK : K (B (!isK s r.1)) hp) : CallW Tryz.prog n_k_CheckRows_1 [Pr r,.ref c 0] hp K := by
 refine callW_agr hn (walk func_k_CheckRows_1 form_k_CheckRows_1 res_k_CheckRows_1 (by show 2 ≤ _; decide) ?_)
 obtain ⟨o1,o2,o3⟩ := app_newK (H := hp) (o := .cells [I r.1,I r.2])
 have hc2 := (o1 _ (nthH_lt hc)).trans hc
 have hb2 := hb.app (o := .cells [I r.1,I r.2])
 simp -implicitDefEqProofs (disch := omega) [G_k_CheckRows_1,wrap_id]
 generalize hG : hp ++ [HObj.cells [I r.1,I r.2]] = G at *
 simp -implicitDefEqProofs (disch := omega) [wrap_id,hc2,o2,ldr_some]
 refine q_isComb_w hb2 r.1 ?_
 simp -implicitDefEqProofs (disch := omega) [wrap_id]
 exact ⟨by rw [← hG]; exact (Agr.refl hp).app,hK⟩
theorem k_CheckRows2_w {f g : Bool} {s : SH} (hv : ValS s) {hp : List HObj} (hn : NoMpp hp) {c rc m : Nat} {E : List GE} {clk : Nat} (hb : Brd f g s hp rc m E clk) (hc : nthH hp c = some (.cells [.ref rc 0])) (r : Int × Int) (hr : isK s r.1 = true) {K : AV → List HObj → Prop} (hK : K (B (decide (bitO s r = 0))) hp) : CallW Tryz.prog n_k_CheckRows_2 [Pr r,.ref c 0] hp K := by
 refine callW_agr hn (walk func_k_CheckRows_2 form_k_CheckRows_2 res_k_CheckRows_2 (by show 2 ≤ _; decide) ?_)
 obtain ⟨o1,o2,o3⟩ := app_newK (H := hp) (o := .cells [I r.1,I r.2])
 have hc2 := (o1 _ (nthH_lt hc)).trans hc
 have hb2 := hb.app (o := .cells [I r.1,I r.2])
 simp -implicitDefEqProofs (disch := omega) [G_k_CheckRows_2,wrap_id]
 generalize hG : hp ++ [HObj.cells [I r.1,I r.2]] = G at *
 simp -implicitDefEqProofs (disch := omega) [wrap_id,hc2,o2,ldr_some]
 refine q_marks_w hv hb2.bd hr ?_
 simp -implicitDefEqProofs (disch := omega) [wrap_id,-b_eql,uw_eq0]
 exact ⟨by rw [← hG]; exact (Agr.refl hp).app,hK⟩
set_option maxHeartbeats 8000000 in
theorem k_CheckRows_ok (f g h : Bool) (s : SH) (hz : SzS s) (R : List (Int × Int)) (hR : R.length ≤ 1000000) : PureOK Tryz.prog n_k_CheckRows [Sn f g s,Ps h R] (I (rwsE2 s R)) := by
 refine pure_of (walk func_k_CheckRows form_k_CheckRows res_k_CheckRows (by show 2 ≤ _; decide) ?_)
 simp -implicitDefEqProofs (disch := omega) [G_k_CheckRows,wrap_id]
 refine k_open_w hz (mpp_list rfl) (fun h0 H ha hm => ?_) (fun h0 H rc m E clk ha hm hlen hb hof => ?_)
 · have h0' : (shtE s != 0) = true := by simp [h0]
   rw [show rwsE2 s R = shtE s from by unfold rwsE2; rw [if_pos h0]]
   simp -implicitDefEqProofs (disch := omega) [wrap_id,h0']
 have hv := val_of h0
 have w := pw_12 hv
 have hm12 := hv.m12
 have o2 := (app_newK (H := H) (o := .cells [.ref rc 0])).2.1
 have hb2 := hb.app (o := .cells [.ref rc 0])
 have hm2 : NoMpp (H ++ [.cells [.ref rc 0]]) := hm.app
 simp -implicitDefEqProofs (disch := omega) [wrap_id]
 generalize H ++ [HObj.cells [AV.ref rc 0]] = G at *
 by_cases h1 : 20 < R.length
 · have h1' : (20 : Int) < R.length := by omega
   rw [show rwsE2 s R = 6 from by unfold rwsE2; rw [if_neg (by omega),if_pos h1]]
   simp -implicitDefEqProofs (disch := omega) [wrap_id,h1']
 have h1' : ¬ (20 : Int) < R.length := by omega
 have e0 : rwsE2 s R = if R.all (fun r => isK s r.1) = false then 2 else if R.any (fun r => decide (bitO s r = 0)) = true then 19 else if dupK R = true then 15 else if allB s R ≠ pwN s.m.length - 1 then 16 else 0 := by unfold rwsE2; rw [if_neg (by omega),if_neg h1]
 rw [e0]
 simp -implicitDefEqProofs (disch := omega) [wrap_id,h1']
 refine k_containsR_w h R hR (p := fun r => !isK s r.1) (by kernel_rfl) (fun i hi KK hKK => k_CheckRows1_w hm2 hb2 o2 _ hKK) ?_
 cases hany : R.any fun r => !isK s r.1 with
 | true =>
   have ea : R.all (fun r => isK s r.1) = false := by
    rw [List.any_eq_true] at hany
    obtain ⟨r,hr,h2⟩ := hany
    rw [List.all_eq_false]; exact ⟨r,hr,by simpa using h2⟩
   rw [if_pos ea]
   simp -implicitDefEqProofs (disch := omega) [wrap_id]
 | false =>
 have ea : R.all (fun r => isK s r.1) = true := by
  rw [List.any_eq_false] at hany
  rw [List.all_eq_true]
  intro r hr
  have := hany r hr
  simpa using this
 rw [if_neg (by rw [ea]; decide)]
 rw [List.all_eq_true] at ea
 simp -implicitDefEqProofs (disch := omega) [wrap_id]
 refine k_containsR_w h R hR (p := fun r => decide (bitO s r = 0)) (by kernel_rfl) (fun i hi KK hKK => k_CheckRows2_w hv hm2 hb2 o2 _ (ea _ (List.getElem_mem hi)) hKK) ?_
 cases hbt : R.any fun r => decide (bitO s r = 0) with
 | true =>
   rw [if_pos rfl]
   simp -implicitDefEqProofs (disch := omega) [wrap_id]
 | false =>
 rw [if_neg (by decide)]
 simp -implicitDefEqProofs (disch := omega) [wrap_id]
 refine loop_eq (fun q : Nat × List HObj => ⟨[(1,Ps h R),(5,.ref H.length 0),(7,W64 (orT s R q.1)),(33,Ps h R),(34,I R.length),(35,I (q.1 : Int))],q.2⟩) (fun q => q.1 ≤ R.length ∧ Agr G q.2 ∧ ∀ k,k < R.length → k < q.1 → (R.take k).contains (R.getD k (0,0)) = false) (fun q => R.length - q.1) (0,G) ⟨Nat.zero_le _,Agr.refl G,fun k _ hk => by omega⟩ rfl ?_
 rintro ⟨i,G1⟩ ⟨c1,c2,c3⟩
 simp only at c1 c2 c3 ⊢
 refine hideK' fun K0 hK0 => ?_
 simp -implicitDefEqProofs (disch := omega) [wrap_id]
 refine c_split (fun hc => ?_) (fun hc => ?_)
 · have hi : i < R.length := by simpa using hc
   have ix : ((i : Int) + 1) = ((i + 1 : Nat) : Int) := by omega
   have eo : orT s R (i + 1) = orN (orT s R i) (bitO s R[i]) := by show orN _ (bitO s (R.getD i (0,0))) = _; rw [getD_at hi]
   have q1 := orT_60 hv (l := R) (i := i)
   have q2 := bitO_60 hv R[i]
   have c2' := c2.app (o := .cells [I R[i].1,I R[i].2])
   have n2 := (app_newK (H := G1) (o := .cells [I R[i].1,I R[i].2])).2.1
   simp -implicitDefEqProofs (disch := omega) [wrap_id,cells_pair,hi]
   refine ⟨flat2_len _,⟨c1,flat2_len _⟩,?_⟩
   have tl : (R.take i).length = i := by rw [List.length_take]; omega
   have dup : ∀ k (hk : k < (R.take i).length),(R.take i)[k] = R[i] → dupK R = true := fun k hk he => by
    unfold dupK
    rw [List.any_eq_true]
    refine ⟨i,List.mem_range.2 hi,?_⟩
    rw [getD_at hi,List.contains_iff_mem,← he]
    exact List.getElem_mem hk
   have nodup : (∀ k (hk : k < (R.take i).length),(R.take i)[k] ≠ R[i]) → (R.take i).contains (R.getD i (0,0)) = false := fun hne => by
    rw [getD_at hi,Bool.eq_false_iff,Ne,List.contains_iff_mem]
    intro hm
    obtain ⟨k,hk,e⟩ := List.mem_iff_getElem.1 hm
    exact hne k hk e
   rw [flat2_take]
   have c2A := c2'
   generalize hTe : R.take i = T at tl dup nodup ⊢
   generalize hG2 : G1 ++ [HObj.cells [I R[i].1,I R[i].2]] = G2 at c2' n2 ⊢
   refine loop_eq (fun q : Nat × List HObj => ⟨[(1,Ps h R),(5,.ref H.length 0),(7,W64 (orT s R i)),(9,.ref G1.length 0),(33,Ps h R),(34,I R.length),(35,I (i : Int)),(42,.sl (h && decide (i = R.length)) T.length (flat2 T)),(43,I (i : Int)),(44,I (q.1 : Int))],q.2⟩) (fun q => q.1 ≤ i ∧ Agr G2 q.2 ∧ ∀ k (hk : k < T.length),k < q.1 → T[k] ≠ R[i]) (fun q => i - q.1) (0,G2) ⟨Nat.zero_le _,Agr.refl _,fun k _ hk => by omega⟩ (by rw [tl]; rfl) ?_
   rintro ⟨j,G3⟩ ⟨j1,j2,j3⟩
   simp only at j1 j2 j3 ⊢
   have n3 := j2.get n2
   refine hideK' fun K1 hK1 => ?_
   simp -implicitDefEqProofs (disch := omega) [wrap_id]
   refine c_split (fun hc => ?_) (fun hc => ?_)
   · have hj : j < i := by simpa using hc
     have hjT : j < T.length := by omega
     have jx : ((j : Int) + 1) = ((j + 1 : Nat) : Int) := by omega
     have n4 := (app_newK (H := G3) (o := .cells [I T[j].1,I T[j].2])).2.1
     have n5 := j2.app (o := .cells [I T[j].1,I T[j].2])
     have n6 := n5.get n2
     simp -implicitDefEqProofs (disch := omega) [wrap_id,cells_pair,hjT]
     refine ⟨flat2_len _,?_⟩
     generalize G3 ++ [HObj.cells [I T[j].1,I T[j].2]] = G4 at n4 n5 n6 ⊢
     simp -implicitDefEqProofs (disch := omega) [wrap_id,n4,n6,ldr_some]
     rw [bing_pair2]
     by_cases e : R[i] = T[j]
     · have ed := dup j hjT e.symm
       rw [if_pos ed] at hK0
       have e' : decide ((R[i].1,R[i].2) = (T[j].1,T[j].2)) = true := decide_eq_true (by rw [e])
       subst hK1
       simp only [e']
       subst hK0
       simp -implicitDefEqProofs (disch := omega) [wrap_id]
     · have e' : decide ((R[i].1,R[i].2) = (T[j].1,T[j].2)) = false := decide_eq_false (fun h => e (Prod.ext (congrArg Prod.fst h) (congrArg Prod.snd h)))
       simp only [e']
       simp -implicitDefEqProofs (disch := omega) [wrap_id]
       rw [hK1]
       refine next_eq (j + 1,G4) ⟨by simp only; omega,n5,fun k h1 h2 => ?_⟩ (by simp only; omega) (by simp only [jx])
       by_cases e2 : k = j
       · subst e2; exact fun h => e h.symm
       · exact j3 k h1 (by simp only at h2; omega)
   · have hj : j = i := by simp at hc; omega
     subst hj
     subst hK1
     have c5 := (c2'.trans j2).get o2
     have b5 := hb2.agr (c2'.trans j2)
     simp -implicitDefEqProofs (disch := omega) [wrap_id,n3,c5,ldr_some]
     refine q_marks_w hv b5.bd (r := R[j]) (ea _ (List.getElem_mem hi)) ?_
     simp -implicitDefEqProofs (disch := omega) [wrap_id,-b_or,uw_or]
     rw [hK0]
     refine next_eq (j + 1,G3) ⟨by simp only; omega,c2'.trans j2,fun k h1 h2 => ?_⟩ (by simp only; omega) (by simp only [ix,eo])
     by_cases e2 : k = j
     · subst e2; rw [hTe]; exact nodup fun k hk => j3 k hk (by omega)
     · exact c3 k h1 (by simp only at h2; omega)
 · have hi : i = R.length := by simp at hc; omega
   subst hi
   subst hK0
   have ed : dupK R = false := by
    unfold dupK
    rw [List.any_eq_false]
    intro k hk
    rw [c3 k (List.mem_range.1 hk) (List.mem_range.1 hk)]; decide
   rw [if_neg (by rw [ed]; decide)]
   have o3 := c2.get o2
   simp -implicitDefEqProofs (disch := omega) [wrap_id,o3,ldr_some]
   refine q_all_w (hb2.agr c2) hm12 ?_
   have eA : orT s R R.length = allB s R := rfl
   rw [eA]
   by_cases hne : allB s R = pwN s.m.length - 1
   · simp -implicitDefEqProofs (disch := omega) [wrap_id,-b_neq,uw_neq,hne]
   · simp -implicitDefEqProofs (disch := omega) [wrap_id,-b_neq,uw_neq,hne]
end Go.AM

namespace Go.AM
open Go.RowKit Go.Proofs
theorem bitT_mem {n i : Nat} {x : Int} : x ∈ bitT n i ↔ ∃ k : Nat,x = k ∧ k < i ∧ n.testBit k = true := by
 unfold bitT
 simp only [List.mem_map,List.mem_filter,List.mem_range]
 constructor
 · rintro ⟨k,⟨h1,h2⟩,rfl⟩; exact ⟨k,rfl,h1,h2⟩
 · rintro ⟨k,rfl,h1,h2⟩; exact ⟨k,⟨h1,h2⟩,rfl⟩
theorem bit_lt {n k : Nat} (hn : n < 4096) (h : n.testBit k = true) : k < 12 := by
 refine Classical.byContradiction fun hk => ?_
 rw [Nat.testBit_lt_two_pow (Nat.lt_of_lt_of_le (show n < 2 ^ 12 by omega) (Nat.pow_le_pow_right (by decide) (by omega)))] at h
 cases h
theorem bitL_mem {n : Nat} (hn : n < 4096) {k : Nat} : (k : Int) ∈ bitL n ↔ n.testBit k = true := by
 unfold bitL
 rw [bitT_mem]
 constructor
 · rintro ⟨j,h1,h2,h3⟩
   have : k = j := by omega
   subst this; exact h3
 · intro h
   exact ⟨k,rfl,by have := bit_lt hn h; omega,h⟩
theorem bitT_sorted {n : Nat} : ∀ {i : Nat},(bitT n i).Pairwise (· < ·)
 | 0 => by simp [bitT]
 | i + 1 => by
   rw [bitT_succ,List.pairwise_append]
   refine ⟨bitT_sorted,by split <;> simp,fun a ha b hb => ?_⟩
   obtain ⟨k,rfl,h1,_⟩ := bitT_mem.1 ha
   split at hb
   · simp at hb; omega
   · cases hb
theorem bitL_sorted {n : Nat} : (bitL n).Pairwise (· < ·) := bitT_sorted
theorem cnt_two {x : Nat} (hx : x < 4096) : 1 < (bitL x).length ↔ ∃ i k : Nat,i ≠ k ∧ x.testBit i = true ∧ x.testBit k = true := by
 constructor
 · intro h
   match hl : bitL x with
   | [] => rw [hl] at h; simp at h
   | [a] => rw [hl] at h; simp at h
   | a :: b :: t =>
     have hs := bitL_sorted (n := x)
     rw [hl,List.pairwise_cons] at hs
     have h1 := hs.1 b (by simp)
     obtain ⟨i,rfl,_,h2⟩ := bitT_mem.1 (show a ∈ bitT x 60 by rw [show bitT x 60 = bitL x from rfl,hl]; simp)
     obtain ⟨k,rfl,_,h3⟩ := bitT_mem.1 (show b ∈ bitT x 60 by rw [show bitT x 60 = bitL x from rfl,hl]; simp)
     exact ⟨i,k,by omega,h2,h3⟩
 · rintro ⟨i,k,h1,h2,h3⟩
   have a1 := (bitL_mem hx).2 h2
   have a2 := (bitL_mem hx).2 h3
   have nd : ([(i : Int),(k : Int)] : List Int).Nodup := by simp; omega
   have := nd.length_le_of_subset (l₂ := bitL x) (fun y hy => by
    simp at hy
    rcases hy with rfl | rfl
    · exact a1
    · exact a2)
   have e : ([(i : Int),(k : Int)] : List Int).length = 2 := rfl
   omega
theorem difN_bit {a c i : Nat} : (difN a c).testBit i = (a.testBit i && !c.testBit i) := by
 unfold difN
 rw [Nat.testBit_xor,Nat.testBit_and]
 cases a.testBit i <;> cases c.testBit i <;> rfl
theorem andN_bit {a c i : Nat} : (andN a c).testBit i = (a.testBit i && c.testBit i) := Nat.testBit_and _ _ _
theorem orN_bit {a c i : Nat} : (orN a c).testBit i = (a.testBit i || c.testBit i) := Nat.testBit_or _ _ _
theorem pwN_bit {a i : Nat} : (pwN a).testBit i = decide (a = i) := Nat.testBit_two_pow
theorem besN_bit {E : List GE} {n i : Nat} : (besN E n).testBit i = (decide (n ≠ i) && E.any fun e => e.key.testBit n && e.key.testBit i) := by
 unfold besN
 rw [difN_bit,hadN_bit,pwN_bit,List.any_filter]
 cases h : (E.any fun e => e.key.testBit n && e.key.testBit i) <;> by_cases e : n = i <;> simp [e]
theorem ne_zero {x : Nat} : x ≠ 0 ↔ ∃ i,x.testBit i = true := by
 constructor
 · intro h
   refine Classical.byContradiction fun hn => h (Nat.eq_of_testBit_eq fun i => ?_)
   rw [Nat.zero_testBit]
   cases e : x.testBit i with
   | false => rfl
   | true => exact absurd ⟨i,e⟩ hn
 · rintro ⟨i,hi⟩ rfl
   simp at hi
def adjN (E : List GE) (i k : Nat) : Prop := i ≠ k ∧ ∃ e ∈ E,e.key.testBit i = true ∧ e.key.testBit k = true
theorem adjN.symm {E i k} (h : adjN E i k) : adjN E k i := ⟨Ne.symm h.1,by obtain ⟨e,h1,h2,h3⟩ := h.2; exact ⟨e,h1,h3,h2⟩⟩
theorem besN_adj {E : List GE} {n i : Nat} : (besN E n).testBit i = true ↔ adjN E n i := by
 rw [besN_bit]
 simp only [Bool.and_eq_true,decide_eq_true_eq,List.any_eq_true]
 rfl
def indN (E : List GE) (b : Nat) : Prop := ∀ i k,b.testBit i = true → b.testBit k = true → ¬ adjN E i k
theorem apR_iff {s : SH} (hv : ValS s) {hp m E clk} (hg : GrH hp m E clk) (ho : GOf s (allR s) E) {o : Nat} : apR s (allR s) o = true ↔ ¬ indN E o := by
 have sm : ∀ r,bitO s r < 4096 := fun r => by
  have := bitO_small hv r
  have := (pw_12 hv).1
  unfold pwN at this
  omega
 have lt : ∀ r,andN (bitO s r) o < 4096 := fun r => Nat.lt_of_le_of_lt Nat.and_le_left (sm r)
 unfold apR
 simp only [List.any_eq_true,decide_eq_true_eq]
 constructor
 · rintro ⟨r,hr,h⟩ hi
   obtain ⟨i,k,h1,h2,h3⟩ := (cnt_two (lt r)).1 h
   rw [andN_bit,Bool.and_eq_true] at h2 h3
   obtain ⟨e,he,h4⟩ := ho.all r hr
   exact hi i k h2.2 h3.2 ⟨h1,e,he,by rw [h4]; exact h2.1,by rw [h4]; exact h3.1⟩
 · intro h
   simp only [indN,Classical.not_forall] at h
   obtain ⟨i,k,h1,h2,h3⟩ := h
   rw [Classical.not_not] at h3
   obtain ⟨hne,e,he,h4,h5⟩ := h3
   obtain ⟨r,hr,h6⟩ := key_of hg ho he
   refine ⟨r,hr,(cnt_two (lt r)).2 ⟨i,k,hne,?_,?_⟩⟩
   · rw [andN_bit,h6,h4,h1]; rfl
   · rw [andN_bit,h6,h5,h2]; rfl
end Go.AM

namespace Go.AM
open Go.RowKit Go.Proofs
theorem apT_bit {l : List Int} {k : Nat} : ∀ {i : Nat},i ≤ l.length → ((apT l i).testBit k = true ↔ ∃ j,j < i ∧ (l.getD j 0).toNat = k)
 | 0,_ => by simp [apT]
 | i + 1, hi => by
   show (orN (apT l i) (pwN (l.getD i 0).toNat)).testBit k = true ↔ _
   rw [orN_bit,Bool.or_eq_true,apT_bit (by omega),pwN_bit,decide_eq_true_eq]
   constructor
   · rintro (⟨j,h1,h2⟩ | h)
     · exact ⟨j,by omega,h2⟩
     · exact ⟨i,by omega,h⟩
   · rintro ⟨j,h1,h2⟩
     by_cases e : j = i
     · subst e; exact .inr h2
     · exact .inl ⟨j,by omega,h2⟩
def lastA (l : List Int) (i : Nat) : Int := if i = 0 then -1 else l.getD (i - 1) 0
set_option maxHeartbeats 8000000 in
theorem k_CheckApart_ok (f g h : Bool) (s : SH) (hz : SzS s) (l : List Int) (hl : l.length ≤ 1000000) : PureOK Tryz.prog n_k_CheckApart [Sn f g s,Ls h l] (I (aprE s l)) := by
 refine pure_of (walk func_k_CheckApart form_k_CheckApart res_k_CheckApart (by show 2 ≤ _; decide) ?_)
 simp -implicitDefEqProofs (disch := omega) [G_k_CheckApart,wrap_id]
 refine k_open_w hz (mpp_list rfl) (fun h0 H ha hm => ?_) (fun h0 H rc m E clk ha hm hlen hb hof => ?_)
 · have h0' : (shtE s != 0) = true := by simp [h0]
   rw [show aprE s l = shtE s from by unfold aprE; rw [if_pos h0]]
   simp -implicitDefEqProofs (disch := omega) [wrap_id,h0']
 have hv := val_of h0
 have w := pw_12 hv
 have hm12 := hv.m12
 have c0 : nthH H 0 = some (.cells [Ps f s.k,Ps g s.m]) := ha.get rfl
 have e0 : aprE s l = if apA s.m.length l = true then 3 else if apR s (allR s) (apT l l.length) = true then 14 else 0 := by unfold aprE; rw [if_neg (by omega)]
 rw [e0]
 simp -implicitDefEqProofs (disch := omega) [wrap_id]
 refine loop_eq (fun i : Nat => ⟨[(1,Ls h l),(2,.ref 0 0),(5,.ref rc 0),(7,I (lastA l i)),(8,W64 (apT l i)),(21,Ls h l),(22,I l.length),(23,I (i : Int))],H⟩) (fun i => i ≤ l.length ∧ ∀ k,k < i → apB s.m.length l k = false) (fun i => l.length - i) 0 ⟨Nat.zero_le _,fun k hk => by omega⟩ rfl ?_
 rintro i ⟨d1,d2⟩
 refine hideK' fun K0 hK0 => ?_
 simp -implicitDefEqProofs (disch := omega) [wrap_id]
 refine c_split (fun hc => ?_) (fun hc => ?_)
 · have hi : i < l.length := by simpa using hc
   have ix : ((i : Int) + 1) = ((i + 1 : Nat) : Int) := by omega
   have eb : apB s.m.length l i = (decide (l[i] < 0) || decide ((s.m.length : Int) ≤ l[i]) || (decide (0 < i) && decide (l[i] ≤ l.getD (i - 1) 0))) := by unfold apB; rw [getD_atI hi]
   have bad : apB s.m.length l i = true → apA s.m.length l = true := fun hb => List.any_eq_true.2 ⟨i,List.mem_range.2 hi,hb⟩
   obtain ⟨la,hla⟩ : ∃ la : Int,lastA l i = la := ⟨_,rfl⟩
   have ela : apB s.m.length l i = (decide (l[i] ≤ la) || decide ((s.m.length : Int) ≤ l[i])) := by
    rw [eb]
    by_cases hi0 : i = 0
    · subst hi0
      have : la = -1 := hla.symm
      rw [this,Bool.eq_iff_iff]
      simp only [Bool.or_eq_true,Bool.and_eq_true,decide_eq_true_eq]
      omega
    · unfold lastA at hla
      rw [if_neg hi0] at hla
      have hp := d2 (i - 1) (by omega)
      unfold apB at hp
      simp only [Bool.or_eq_false_iff,decide_eq_false_iff_not] at hp
      rw [Bool.eq_iff_iff]
      simp only [Bool.or_eq_true,Bool.and_eq_true,decide_eq_true_eq]
      rw [hla] at hp ⊢
      omega
   rw [hla]
   simp -implicitDefEqProofs (disch := omega) [wrap_id,cells_ls,hi]
   have fin : apB s.m.length l i = false → ∀ k,k < i + 1 → apB s.m.length l k = false := fun hb k hk => by
    by_cases e : k = i
    · subst e; exact hb
    · exact d2 k (by omega)
   have eT : apT l (i + 1) = orN (apT l i) (pwN l[i].toNat) := by show orN _ (pwN (l.getD i 0).toNat) = _; rw [getD_atI hi]
   have o1 : apT l i < 2 ^ 60 := Nat.lt_of_lt_of_le (apT_small hm12 d2) (Nat.pow_le_pow_right (by decide) (by omega))
   by_cases q1 : l[i] ≤ la
   · rw [if_pos (bad (by rw [ela,decide_eq_true q1]; simp))] at hK0
     subst hK0
     simp -implicitDefEqProofs (disch := omega) [wrap_id,q1]
   by_cases q2 : (s.m.length : Int) ≤ l[i]
   · rw [if_pos (bad (by rw [ela,decide_eq_true q2]; simp))] at hK0
     subst hK0
     simp -implicitDefEqProofs (disch := omega) [wrap_id,q1,q2,c0,ldr_some]
   have nb : apB s.m.length l i = false := by rw [ela]; simp [q1,q2]
   have ge0 : 0 ≤ l[i] := by
    rw [eb] at nb
    simp only [Bool.or_eq_false_iff,decide_eq_false_iff_not] at nb
    omega
   obtain ⟨v,hv2⟩ : ∃ v : Nat,l[i] = v := ⟨l[i].toNat,by omega⟩
   have o2 := pwN_small (i := v) (by omega)
   have elast : lastA l (i + 1) = l[i] := by unfold lastA; rw [if_neg (by omega),Nat.add_sub_cancel,getD_atI hi]
   simp -implicitDefEqProofs (disch := omega) [wrap_id,q1,q2,c0,ldr_some,-b_shl,-b_or]
   rw [hv2] at eT elast ⊢
   rw [Int.toNat_natCast] at eT
   rw [uw_shl (by omega)]
   simp -implicitDefEqProofs (disch := omega) [wrap_id,-b_or,uw_or,o1,o2]
   rw [hK0]
   exact next_eq (i + 1) ⟨by omega,fin nb⟩ (by omega) (by simp only [ix,eT,elast])
 have hi : i = l.length := by simp at hc; omega
 subst hi
 subst hK0
 have ea : apA s.m.length l = false := by
  unfold apA
  rw [List.any_eq_false]
  exact fun k hk => by rw [d2 k (List.mem_range.1 hk)]; decide
 rw [if_neg (by rw [ea]; decide)]
 have o0 := apT_small hm12 d2
 have o1 : apT l l.length < 2 ^ 60 := Nat.lt_of_lt_of_le o0 (Nat.pow_le_pow_right (by decide) (by omega))
 have obit := fun k => apT_bit (l := l) (k := k) (Nat.le_refl _)
 have iff := apR_iff hv hb.gr hof (o := apT l l.length)
 generalize apT l l.length = o at *
 have nn : ∀ k (hk : k < l.length),∃ v : Nat,l[k] = v ∧ v < s.m.length := fun k hk => by
  have hp := d2 k hk
  unfold apB at hp
  rw [getD_atI hk] at hp
  simp only [Bool.or_eq_false_iff,decide_eq_false_iff_not] at hp
  exact ⟨l[k].toNat,by omega,by omega⟩
 simp -implicitDefEqProofs (disch := omega) [wrap_id]
 refine loop_eq (fun i : Nat => ⟨[(5,.ref rc 0),(8,W64 o),(43,Ls h l),(44,I l.length),(45,I (i : Int))],H⟩) (fun i => i ≤ l.length ∧ ∀ k (hk : k < l.length),k < i → andN (besN E l[k].toNat) o = 0) (fun i => l.length - i) 0 ⟨Nat.zero_le _,fun k _ hk => by omega⟩ rfl ?_
 rintro i ⟨c1,c2⟩
 refine hideK' fun K0 hK0 => ?_
 simp -implicitDefEqProofs (disch := omega) [wrap_id]
 refine c_split (fun hc => ?_) (fun hc => ?_)
 · have hi : i < l.length := by simpa using hc
   have ix : ((i : Int) + 1) = ((i + 1 : Nat) : Int) := by omega
   obtain ⟨v,hv2,hv3⟩ := nn i hi
   have ovi : o.testBit v = true := (obit v).2 ⟨i,hi,by rw [getD_atI hi,hv2]; rfl⟩
   have b1 := besN_lt (E := E) (n := v) fun e he => (hb.gr.sm e he).2
   simp -implicitDefEqProofs (disch := omega) [wrap_id,cells_ls,hi,hv2]
   refine q_beside_w hm hb (by omega) ?_
   simp -implicitDefEqProofs (disch := omega) [wrap_id,-b_and,uw_and,-b_neq,uw_ne0]
   by_cases hz : andN (besN E v) o = 0
   · simp -implicitDefEqProofs (disch := omega) [wrap_id,hz]
     rw [hK0]
     refine next_eq (i + 1) ⟨by omega,fun k h1 h2 => ?_⟩ (by omega) (by simp only [ix])
     by_cases e : k = i
     · subst e; rw [hv2]; exact hz
     · exact c2 k h1 (by omega)
   · have : apR s (allR s) o = true := by
      rw [iff]
      intro hin
      obtain ⟨k,hk⟩ := ne_zero.1 hz
      rw [andN_bit,Bool.and_eq_true] at hk
      exact hin v k ovi hk.2 (besN_adj.1 hk.1)
     rw [if_pos this] at hK0
     subst hK0
     simp -implicitDefEqProofs (disch := omega) [wrap_id,hz]
 · have hi : i = l.length := by simp at hc; omega
   subst hi
   subst hK0
   have : ¬ apR s (allR s) o = true := by
    rw [iff,Classical.not_not]
    intro a b ha hb2 hadj
    obtain ⟨j,hj,e⟩ := (obit a).1 ha
    obtain ⟨v,hv2,hv3⟩ := nn j hj
    rw [getD_atI hj] at e
    have := c2 j hj hj
    rw [e] at this
    exact ne_zero.2 ⟨b,by rw [andN_bit,besN_adj.2 hadj,hb2]; rfl⟩ this
   rw [if_neg this]
   simp -implicitDefEqProofs (disch := omega) [wrap_id]
end Go.AM

namespace Go.AM
open Go.RowKit Go.Proofs
def Rk (E : List GE) (had n t : Nat) : Prop := ∃ ks : List Nat,ks.length = n ∧ (∀ k ∈ ks,∃ e ∈ E,e.key = k) ∧ ks.foldl orN had = t
abbrev manyN : Nat := 1048576
theorem Rk.zero {E had t} : Rk E had 0 t ↔ t = had := by
 constructor
 · rintro ⟨ks,h1,_,h3⟩
   rw [List.length_eq_zero_iff] at h1
   subst h1; exact h3.symm
 · rintro rfl; exact ⟨[],rfl,fun k h => (by cases h),rfl⟩
theorem Rk.add {E had n t} (h : Rk E had n t) {e : GE} (he : e ∈ E) : Rk E had (n + 1) (orN t e.key) := by
 obtain ⟨ks,h1,h2,h3⟩ := h
 refine ⟨ks ++ [e.key],by simp [h1],fun k hk => ?_,by rw [List.foldl_append,h3]; rfl⟩
 rcases List.mem_append.1 hk with hk | hk
 · exact h2 k hk
 · rw [List.mem_singleton] at hk; exact ⟨e,he,hk.symm⟩
theorem Rk.last {E had n t} (h : Rk E had (n + 1) t) : ∃ s,Rk E had n s ∧ ∃ e ∈ E,orN s e.key = t := by
 obtain ⟨ks,h1,h2,h3⟩ := h
 have hne : ks ≠ [] := fun e => by subst e; simp at h1
 obtain ⟨l,k,rfl⟩ : ∃ l k,ks = l ++ [k] := ⟨ks.dropLast,ks.getLast hne,(List.dropLast_concat_getLast hne).symm⟩
 obtain ⟨e,he,hk⟩ := h2 k (by simp)
 refine ⟨l.foldl orN had,⟨l,by simpa using h1,fun x hx => h2 x (by simp [hx]),rfl⟩,e,he,?_⟩
 rw [List.foldl_append] at h3
 rw [hk]; exact h3
theorem or_ge {a b : Nat} : a ≤ orN a b := Nat.left_le_or
structure FewI (E : List GE) (had : Nat) (f : Nat → Nat) (s : Nat) : Prop where
 i1 : ∀ t,f t = manyN ∨ Rk E had (f t) t
 i2 : ∀ s',s' < s → ∀ n,Rk E had n s' → ∀ e ∈ E,f (orN s' e.key) ≤ n + 1
 i3 : f had = 0
 i4 : ∀ t,f t ≤ manyN
theorem FewI.exact {E had f s} (h : FewI E had f s) : ∀ {n t},t ≤ s → Rk E had n t → f t ≤ n
 | 0,t,_,hr => by rw [Rk.zero] at hr; subst hr; rw [h.i3]; exact Nat.le_refl _
 | n + 1, t, ht, hr => by
   obtain ⟨s',h1,e,he,h2⟩ := hr.last
   have hle : s' ≤ t := by rw [← h2]; exact or_ge
   by_cases hs : s' < s
   · have := h.i2 s' hs n h1 e he
     rw [h2] at this; exact this
   · have e1 : s' = t := by omega
     have := h.exact (n := n) (t := s') (by omega) h1
     rw [e1] at this; omega
theorem FewI.start {E had} : FewI E had (fun t => if t = had then 0 else manyN) had := by
 refine ⟨fun t => ?_,fun s' hs n hr => ?_,by simp,fun t => by split <;> simp⟩
 · by_cases e : t = had
   · subst e; right; rw [if_pos rfl]; exact Rk.zero.2 rfl
   · left; rw [if_neg e]
 · exfalso
   have : ∀ {n t},Rk E had n t → had ≤ t := by
    intro n
    induction n with
    | zero => intro t h; rw [Rk.zero] at h; omega
    | succ n ih =>
      intro t h
      obtain ⟨s,h1,e,he,h2⟩ := h.last
      have := ih h1
      have : s ≤ t := by rw [← h2]; exact or_ge
      omega
   have := this hr
   omega
theorem FewI.skip {E had f s} (h : FewI E had f s) (hs : f s = manyN) : FewI E had f (s + 1) :=
 ⟨h.i1,fun s' hs' n hr e he => by
  by_cases e1 : s' = s
  · subst e1
    have := h.exact (Nat.le_refl _) hr
    have := h.i4 (orN s' e.key)
    omega
  · exact h.i2 s' (by omega) n hr e he,h.i3,h.i4⟩
structure FewM (E : List GE) (had : Nat) (f0 : Nat → Nat) (s : Nat) (S : List Nat) (f : Nat → Nat) : Prop where
 i1 : ∀ t,f t = manyN ∨ Rk E had (f t) t
 le : ∀ t,f t ≤ f0 t
 at' : f s = f0 s
 i3 : f had = 0
 seen : ∀ e ∈ E,e.born ∈ S → f (orN s e.key) ≤ f0 s + 1
theorem FewI.mid {E had f s} (h : FewI E had f s) : FewM E had f s [] f := ⟨h.i1,fun _ => Nat.le_refl _,rfl,h.i3,fun e _ h => by cases h⟩
def updN (f : Nat → Nat) (i v : Nat) : Nat → Nat := fun t => if t = i then v else f t
theorem FewM.step {E had f0 s S f} (h : FewM E had f0 s S f) (hs : f0 s ≠ manyN) (hb : E.Pairwise fun a b => a.born ≠ b.born) {q : GE} (hq : q ∈ E) : FewM E had f0 s (S ++ [q.born]) (updN f (orN s q.key) (min (f (orN s q.key)) (f s + 1))) := by
 have hR : Rk E had (f s) s := (h.i1 s).resolve_left (by rw [h.at']; exact hs)
 refine ⟨fun t => ?_,fun t => ?_,?_,?_,fun e he hS => ?_⟩
 · unfold updN
   by_cases e : t = orN s q.key
   · rw [if_pos e]
     by_cases h1 : f (orN s q.key) ≤ f s + 1
     · rw [Nat.min_eq_left h1,e]; exact h.i1 _
     · rw [Nat.min_eq_right (by omega),e]; exact .inr (hR.add hq)
   · rw [if_neg e]; exact h.i1 t
 · unfold updN
   split
   · rename_i e
     have := h.le t
     rw [e] at this ⊢
     omega
   · exact h.le t
 · unfold updN
   split
   · rename_i e
     rw [← e,h.at']; omega
   · exact h.at'
 · unfold updN
   split
   · rename_i e
     rw [← e,h.i3]; omega
   · exact h.i3
 · unfold updN
   rw [List.mem_append,List.mem_singleton] at hS
   split
   · rw [h.at']; omega
   · rename_i hne
     rcases hS with hS | hS
     · exact h.seen e he hS
     · have := born_inj hb he hq hS
       subst this
       exact absurd rfl hne
theorem FewM.end {E had f0 s S f} (h : FewM E had f0 s S f) (h0 : FewI E had f0 s) (hS : ∀ e ∈ E,e.born ∈ S) : FewI E had f (s + 1) :=
 ⟨h.i1,fun s' hs' n hr e he => by
  by_cases e1 : s' = s
  · subst e1
    have := h.seen e he (hS e he)
    have := h0.exact (Nat.le_refl _) hr
    omega
  · exact Nat.le_trans (h.le _) (h0.i2 s' (by omega) n hr e he),h.i3,fun t => Nat.le_trans (h.le t) (h0.i4 t)⟩
def FewOK (E : List GE) (had : Nat) (f : Nat → Nat) : Prop := ∀ t,t < 4096 → (f t = manyN ∧ ∀ n,¬ Rk E had n t) ∨ (f t < manyN ∧ Rk E had (f t) t ∧ ∀ n,Rk E had n t → f t ≤ n)
theorem FewOK.uniq {E had f g} (h : FewOK E had f) (k : FewOK E had g) {t : Nat} (ht : t < 4096) : f t = g t := by
 rcases h t ht with ⟨h1,h2⟩ | ⟨h1,h2,h3⟩ <;> rcases k t ht with ⟨k1,k2⟩ | ⟨k1,k2,k3⟩
 · omega
 · exact absurd k2 (h2 _)
 · exact absurd h2 (k2 _)
 · exact Nat.le_antisymm (h3 _ k2) (k3 _ h2)
theorem Rk.short {E had} : ∀ {n t},t < 2 ^ 60 → Rk E had n t → ∃ m,m ≤ n ∧ m ≤ cntN t ∧ Rk E had m t := by
 have sub : ∀ {a b i : Nat},a.testBit i = true → (orN a b).testBit i = true := fun h => by rw [orN_bit,h]; rfl
 have cnt : ∀ {a b : Nat},orN a b ≠ a → cntN a + 1 ≤ cntN (orN a b) ∨ ¬ orN a b < 2 ^ 60 := fun {a b} hne => by
  by_cases hlt : orN a b < 2 ^ 60
  · left
    have : ∃ i,(orN a b).testBit i = true ∧ a.testBit i = false := by
     refine Classical.byContradiction fun hn => hne (Nat.eq_of_testBit_eq fun i => ?_)
     cases h1 : (orN a b).testBit i with
     | false =>
       cases h2 : a.testBit i with
       | false => rfl
       | true => rw [sub h2] at h1; cases h1
     | true =>
       cases h2 : a.testBit i with
       | false => exact absurd ⟨i,h1,h2⟩ hn
       | true => rfl
    obtain ⟨i,h1,h2⟩ := this
    have hi : i < 60 := by
     refine Classical.byContradiction fun hk => ?_
     rw [Nat.testBit_lt_two_pow (Nat.lt_of_lt_of_le hlt (Nat.pow_le_pow_right (by decide) (by omega)))] at h1
     cases h1
    have nd : ((i : Int) :: bitL a).Nodup := by
     rw [List.nodup_cons]
     refine ⟨fun hm => ?_,bitL_sorted.imp fun h => by omega⟩
     obtain ⟨k,e,_,h3⟩ := bitT_mem.1 hm
     have : i = k := by omega
     subst this
     rw [h2] at h3; cases h3
    have := nd.length_le_of_subset (l₂ := bitL (orN a b)) fun y hy => by
     rcases List.mem_cons.1 hy with rfl | hy
     · exact bitT_mem.2 ⟨i,rfl,hi,h1⟩
     · obtain ⟨k,rfl,h3,h4⟩ := bitT_mem.1 hy
       exact bitT_mem.2 ⟨k,rfl,h3,sub h4⟩
    simpa [cntN] using this
  · exact .inr hlt
 intro n
 induction n with
 | zero => exact fun {t} _ h => ⟨0,Nat.le_refl _,Nat.zero_le _,h⟩
 | succ n ih =>
   intro t ht h
   obtain ⟨s,h1,e,he,h2⟩ := h.last
   have hle : s ≤ t := by rw [← h2]; exact or_ge
   obtain ⟨m,k1,k2,k3⟩ := ih (by omega) h1
   by_cases hs : orN s e.key = s
   · rw [← h2,hs]; exact ⟨m,by omega,k2,k3⟩
   · rcases cnt hs with h3 | h3
     · exact ⟨m + 1,by omega,by rw [← h2]; omega,by rw [← h2]; exact k3.add he⟩
     · rw [h2] at h3; exact absurd ht h3
theorem FewI.end {E had f s} (h : FewI E had f s) {N : Nat} (hN : N < s) (hb : ∀ n t,Rk E had n t → t ≤ N) (hs : N < 4096) : FewOK E had f := fun t ht => by
 by_cases hr : ∃ n,Rk E had n t
 · obtain ⟨n,hn⟩ := hr
   obtain ⟨m,h1,h2,h3⟩ := hn.short (by omega)
   have hle := h.exact (t := t) (by have := hb n t hn; omega) h3
   have hc : cntN t ≤ 60 := bitT_len
   right
   have h5 : f t < manyN := by unfold manyN; omega
   refine ⟨h5,(h.i1 t).resolve_left (by omega),fun n' hn' => ?_⟩
   exact h.exact (by have := hb n t hn; omega) hn'
 · left
   refine ⟨(h.i1 t).resolve_right fun h1 => hr ⟨_,h1⟩,fun n hn => hr ⟨n,hn⟩⟩
theorem Rk.le {E had N n t} (hE : ∀ e ∈ E,e.key < 2 ^ N) (hh : had < 2 ^ N) (h : Rk E had n t) : t < 2 ^ N := by
 induction n generalizing t with
 | zero => rw [Rk.zero] at h; subst h; exact hh
 | succ n ih =>
   obtain ⟨s,h1,e,he,h2⟩ := h.last
   rw [← h2]
   exact Nat.or_lt_two_pow (ih h1) (hE e he)
theorem leastR {P : Nat → Prop} (h : ∃ n,P n) : ∃ n,P n ∧ ∀ k,P k → n ≤ k := by
 obtain ⟨n,hn⟩ := h
 obtain ⟨j,_,h1,h2⟩ := leastN hn
 exact ⟨j,h1,fun k hk => by
  refine Classical.byContradiction fun hlt => ?_
  exact h2 k (by omega) hk⟩
theorem fewOK_ex (E : List GE) (had : Nat) : ∃ f,FewOK E had f := by
 have : ∀ t, ∃ v, t < 4096 → (v = manyN ∧ ∀ n, ¬ Rk E had n t) ∨ (v < manyN ∧ Rk E had v t ∧ ∀ n, Rk E had n t → v ≤ n) := fun t => by
  by_cases ht : t < 4096
  · by_cases hr : ∃ n,Rk E had n t
    · obtain ⟨v,h1,h2⟩ := leastR hr
      refine ⟨v,fun _ => .inr ⟨?_,h1,h2⟩⟩
      obtain ⟨m,k1,k2,k3⟩ := h1.short (by omega)
      have := h2 m k3
      have hc : cntN t ≤ 60 := bitT_len
      unfold manyN; omega
    · exact ⟨manyN,fun _ => .inl ⟨rfl,fun n hn => hr ⟨n,hn⟩⟩⟩
  · exact ⟨0,fun h => absurd h ht⟩
 exact ⟨fun t => Classical.choose (this t),fun t ht => Classical.choose_spec (this t) ht⟩
end Go.AM

namespace Go.AM
open Go.RowKit Go.Proofs
def fnA (f : Nat → Nat) : List AV := (List.range 4096).map fun i => I (f i : Int)
theorem fnA_len {f} : (fnA f).length = 4096 := by simp [fnA]
theorem fnA_get {f : Nat → Nat} {i : Nat} (h : i < 4096) : nthA (fnA f) i = some (I (f i : Int)) := by
 rw [nthA_eq]; simp [fnA,h]
theorem fnA_ext {f g : Nat → Nat} (h : ∀ t,t < 4096 → f t = g t) : fnA f = fnA g := List.map_congr_left fun t ht => by rw [h t (List.mem_range.1 ht)]
theorem fnA_set {f : Nat → Nat} {i v : Nat} (h : i < 4096) : (fnA f).set i (I (v : Int)) = fnA (updN f i v) := by
 refine List.ext_getElem (by simp [fnA]) fun k h1 h2 => ?_
 rw [List.getElem_set]
 simp only [fnA,List.getElem_map,List.getElem_range,updN]
 by_cases e : i = k
 · subst e; simp
 · rw [if_neg e,if_neg (Ne.symm e)]
theorem fnA_at {f : Nat → Nat} {k : Nat} (h : k < (fnA f).length) : (fnA f)[k] = I (f k : Int) := by simp only [fnA,List.getElem_map,List.getElem_range]
theorem rep_fnA : List.replicate 4096 (I 0) = fnA (fun _ => 0) :=
 List.ext_getElem (by rw [List.length_replicate,fnA_len]) fun k h1 h2 => by rw [List.getElem_replicate,fnA_at]; rfl
theorem fnA_put {f : Nat → Nat} {i v : Nat} (h : i < 4096) : (fnA f).take i ++ I (v : Int) :: (fnA f).drop (i + 1) = fnA (updN f i v) := by
 rw [← fnA_set h,List.set_eq_take_append_cons_drop,if_pos (by rw [fnA_len]; exact h)]
def OutRef (hp : List HObj) (K : AV → List HObj → Prop) (x : AV) (H : List HObj) : Prop := ∃ id cs,x = .ref id 0 ∧ hp.length ≤ id ∧ nthH H id = some (.cells cs) ∧ (cs.all AV.isPure) = true ∧ Agr hp H ∧ K (.ptr cs 0) hp
theorem callW_ref {P : Program} {f : FuncId} {xs : List AV} {hp : List HObj} {K : AV → List HObj → Prop} (hn : NoMpp hp) (h : CallW P f xs hp (OutRef hp K)) : CallW P f xs hp K := by
 refine callW_agr hn (callW_frz (callW_mon h ?_))
 rintro x H ⟨id,cs,rfl,h1,h2,h3,h4,h5⟩
 have hlt := nthH_lt h2
 refine ⟨.ptr cs 0,[id],?_,⟨?_,fun j hj => ?_⟩,.inl rfl,h5⟩
 · simp only [purify,purify1,purify0,hpf_nthH,h2]
   rw [if_pos h3]
 · exact Nat.le_trans h4.1 (writeL_len _ _)
 · rw [nthH_gone (fun i hi => by rw [List.mem_singleton] at hi; subst hi; exact hlt) (fun hj2 => by rw [List.mem_singleton] at hj2; omega)]
   exact h4.2 j hj
theorem fnA_pure {f} : ((fnA f).all AV.isPure) = true := by
 rw [List.all_eq_true]
 intro x hx
 simp only [fnA,List.mem_map] at hx
 obtain ⟨i,_,rfl⟩ := hx
 rfl
set_option maxHeartbeats 4000000 in
theorem q_few_w {f g : Bool} {s : SH} (hv : ValS s) {hp : List HObj} (hn : NoMpp hp) {rc m : Nat} {E : List GE} {clk : Nat} (hb : Brd f g s hp rc m E clk) (hE : ∀ e ∈ E,e.key < pwN s.m.length) {had : Nat} (hh : had < pwN s.m.length) {F : Nat → Nat} (hF : FewOK E had F) {K : AV → List HObj → Prop} (hK : K (.ptr (fnA F) 0) hp) :
 CallW Tryz.prog n_q_few [.ref rc 0,W64 had] hp K := by
 have w := pw_12 hv
 have hm12 := hv.m12
 refine callW_ref hn ?_
 refine walk func_q_few form_q_few res_q_few (by show 2 ≤ _; decide) ?_
 simp -implicitDefEqProofs (disch := omega) [G_q_few,wrap_id,rep_fnA]
 refine loop_eq (fun i : Nat => ⟨[(0,.ref rc 0),(1,W64 had),(5,.ref hp.length 0),(9,I (i : Int))],hp ++ [.cells (fnA (fun t => if t < i then manyN else 0))]⟩) (fun i => i ≤ 4096) (fun i => 4096 - i) 0 (Nat.zero_le _) (by simp) ?_
 intro i hi
 refine hideK' fun K0 hK0 => ?_
 simp -implicitDefEqProofs (disch := omega) [wrap_id]
 refine c_split (fun hc => ?_) (fun hc => ?_)
 · have hi2 : i < 4096 := by simp at hc; omega
   have ix : ((i : Int) + 1) = ((i + 1 : Nat) : Int) := by omega
   simp -implicitDefEqProofs (disch := omega) [wrap_id,fnA_len]
   refine ⟨by omega,by omega,?_⟩
   have e1 : List.take i (fnA fun t => if t < i then manyN else 0) ++ I 1048576 :: List.drop (i + 1) (fnA fun t => if t < i then manyN else 0) = fnA (fun t => if t < i + 1 then manyN else 0) := by
    have := fnA_put (f := fun t => if t < i then manyN else 0) (v := manyN) hi2
    rw [show (I 1048576 : AV) = I ((manyN : Nat) : Int) from rfl,this]
    refine fnA_ext fun t _ => ?_
    show (if t = i then manyN else if t < i then manyN else 0) = if t < i + 1 then manyN else 0
    by_cases e : t = i
    · subst e; simp
    · rw [if_neg e]
      by_cases h2 : t < i
      · rw [if_pos h2,if_pos (by omega)]
      · rw [if_neg h2,if_neg (by omega)]
   rw [e1,hK0]
   exact next_eq (i + 1) (by omega) (by omega) (by simp only [ix])
 · have hi2 : i = 4096 := by simp at hc; omega
   subst hi2
   subst hK0
   have e1 : (fnA fun t => if t < 4096 then manyN else 0) = fnA fun _ => manyN := fnA_ext fun t ht => if_pos ht
   rw [e1]
   simp -implicitDefEqProofs (disch := omega) [wrap_id,fnA_len]
   refine ⟨by omega,by omega,?_⟩
   have e2 : List.take had (fnA fun _ => manyN) ++ I 0 :: List.drop (had + 1) (fnA fun _ => manyN) = fnA (fun t => if t = had then 0 else manyN) := fnA_put (f := fun _ => manyN) (v := 0) (by omega)
   rw [e2]
   refine loop_eq (fun q : Nat × (Nat → Nat) × List HObj => ⟨[(0,.ref rc 0),(5,.ref hp.length 0),(7,W64 q.1)],q.2.2⟩) (fun q => q.1 ≤ pwN s.m.length ∧ FewI E had q.2.1 q.1 ∧ nthH q.2.2 hp.length = some (.cells (fnA q.2.1)) ∧ Agr hp q.2.2) (fun q => pwN s.m.length - q.1) (had,(fun t => if t = had then 0 else manyN),hp ++ [.cells (fnA (fun t => if t = had then 0 else manyN))]) ⟨by simp only; omega,FewI.start,(app_newK).2.1,(Agr.refl hp).app⟩ rfl ?_
   rintro ⟨x,F0,G⟩ ⟨d1,d2,d3,d4⟩
   simp only at d1 d2 d3 d4 ⊢
   have lA := nthH_lt d3
   have hbG := hb.agr d4
   refine hideK' fun K1 hK1 => ?_
   simp -implicitDefEqProofs (disch := omega) [wrap_id]
   refine q_all_w hbG hm12 ?_
   simp -implicitDefEqProofs (disch := omega) [wrap_id,-b_leq,uw_leq]
   refine c_split (fun hc => ?_) (fun hc => ?_)
   · have hx : x < pwN s.m.length := by simp at hc; omega
     have gx := fnA_get (f := F0) (i := x) (by omega)
     have lF := fnA_len (f := F0)
     simp -implicitDefEqProofs (disch := omega) [wrap_id,d3,ldr_some,gx,lF]
     refine ⟨by omega,?_⟩
     by_cases hm1 : F0 x = manyN
     · have q : ((F0 x : Int) == 1048576) = true := by rw [beq_iff_eq,hm1]; rfl
       simp -implicitDefEqProofs (disch := omega) [wrap_id,q,-b_add,uw_inc]
       rw [hK1]
       exact next_sub (x + 1,F0,G) ⟨by simp only; omega,d2.skip hm1,d3,d4⟩ (by simp only; omega) rfl (by simp)
     · have q : ((F0 x : Int) == 1048576) = false := by rw [beq_eq_false_iff_ne]; unfold manyN at hm1; omega
       simp -implicitDefEqProofs (disch := omega) [wrap_id,q,hbG.bd,ldr_some,xx_rng]
       refine rngU hbG.gr.mp ?_
       simp -implicitDefEqProofs (disch := omega) [wrap_id]
       have ag1 : Agr hp (G ++ [.it m clk [] clk]) := d4.app
       have n1 := (app_newK (H := G) (o := .it m clk [] clk))
       have lG := d4.1
       refine loop_eq (fun q : (Nat → Nat) × List Nat × List HObj => ⟨[(0,.ref rc 0),(5,.ref hp.length 0),(7,W64 x),(32,.ref G.length 0)],q.2.2⟩) (fun q => FewM E had F0 x q.2.1 q.1 ∧ nthH q.2.2 hp.length = some (.cells (fnA q.1)) ∧ nthH q.2.2 G.length = some (.it m clk q.2.1 clk) ∧ Agr hp q.2.2) (fun q => muE E q.2.1) (F0,[],G ++ [.it m clk [] clk]) ⟨d2.mid,(n1.1 _ lA).trans d3,n1.2.1,ag1⟩ rfl ?_
       rintro ⟨F1,S,G1⟩ ⟨e1,e2,e3,e4⟩
       simp only at e1 e2 e3 e4 ⊢
       have lA1 := nthH_lt e2
       have lI1 := nthH_lt e3
       have hb1 := hb.agr e4
       refine hideK' fun K2 hK2 => ?_
       simp -implicitDefEqProofs (disch := omega) [wrap_id,xx_nxt]
       refine nxtU e3 hb1.gr (fun h => ?_) (fun q hq hS => ?_)
       · subst hK2
         have d5 := e1.end d2 h
         simp -implicitDefEqProofs (disch := omega) [wrap_id,-b_add,uw_inc]
         rw [hK1]
         exact next_sub (x + 1,F1,G1) ⟨by simp only; omega,d5,e2,e4⟩ (by simp only; omega) rfl (by simp)
       · have hk := hE q hq
         have e2' : nthH (G1.set G.length (.it m clk (S ++ [q.born]) clk)) hp.length = some (.cells (fnA F1)) := (nthH_set_ne (by omega)).trans e2
         have e3' : nthH (G1.set G.length (.it m clk (S ++ [q.born]) clk)) G.length = some (.it m clk (S ++ [q.born]) clk) := nthH_set_same lI1
         have e4' : Agr hp (G1.set G.length (.it m clk (S ++ [q.born]) clk)) := ⟨by rw [List.length_set]; exact e4.1,fun j hj => (nthH_set_ne (by omega)).trans (e4.2 j hj)⟩
         simp -implicitDefEqProofs (disch := omega) [wrap_id,lI1,xx_ent]
         generalize G1.set G.length (.it m clk (S ++ [q.born]) clk) = G2 at e2' e3' e4' ⊢
         have hb2 := hb.agr e4'
         have lA2 := nthH_lt e2'
         refine entU_of e3' hb2.gr hq ?_
         have hor : orN x q.key < pwN s.m.length := Nat.or_lt_two_pow hx hk
         have g1 := fnA_get (f := F1) (i := orN x q.key) (by omega)
         have g2 := fnA_get (f := F1) (i := x) (by omega)
         have lF1 := fnA_len (f := F1)
         have bx : F1 x ≤ manyN := by rw [e1.at']; exact d2.i4 x
         have bx2 : F1 (orN x q.key) ≤ manyN := Nat.le_trans (e1.le _) (d2.i4 _)
         unfold manyN at bx bx2
         simp -implicitDefEqProofs (disch := omega) [wrap_id,-b_or,uw_or,e2',ldr_some,g1,g2,lF1,lA2,str_some,cmp2,nthT,disj]
         refine ⟨by omega,by omega,by omega,by omega,?_⟩
         have em : min ((F1 (orN x q.key) : Nat) : Int) ((F1 x : Nat) + 1 : Int) = ((min (F1 (orN x q.key)) (F1 x + 1) : Nat) : Int) := by omega
         rw [em,fnA_put (by omega),hK2]
         exact next_eq (updN F1 (orN x q.key) (min (F1 (orN x q.key)) (F1 x + 1)),S ++ [q.born],G2.set hp.length (.cells (fnA (updN F1 (orN x q.key) (min (F1 (orN x q.key)) (F1 x + 1)))))) ⟨e1.step hm1 hb.gr.brs hq,nthH_set_same lA2,(nthH_set_ne (by omega)).trans e3',⟨by rw [List.length_set]; exact e4'.1,fun j hj => (nthH_set_ne (by omega)).trans (e4'.2 j hj)⟩⟩ (muE_lt hq hS) rfl
   · have hx : x = pwN s.m.length := by simp at hc; omega
     subst hx
     subst hK1
     simp -implicitDefEqProofs (disch := omega) [wrap_id]
     have ok := d2.end (N := pwN s.m.length - 1) (by omega) (fun n t h => by have := h.le (N := s.m.length) hE hh; unfold pwN at *; omega) (by omega)
     rw [fnA_ext fun t ht => hF.uniq ok ht] at hK
     exact ⟨_,_,rfl,Nat.le_refl _,d3,fnA_pure,d4,hK⟩
end Go.AM

namespace Go.AM
open Go.RowKit Go.Proofs
def apN (E : List GE) : Nat → Nat → Nat
 | 0,_ => 0
 | F + 1, left => if left = 0 then 0 else
     if cntN (apN E F (difN left (pwN (ctz left)))) ≤ cntN (orN (pwN (ctz left)) (apN E F (difN (difN left (pwN (ctz left))) (besN E (ctz left))))) then
      orN (pwN (ctz left)) (apN E F (difN (difN left (pwN (ctz left))) (besN E (ctz left)))) else apN E F (difN left (pwN (ctz left)))
def SubN (a b : Nat) : Prop := ∀ i,a.testBit i = true → b.testBit i = true
theorem SubN.le {a b : Nat} (h : SubN a b) : a ≤ b := by
 have : a &&& b = a := Nat.eq_of_testBit_eq fun i => by
  rw [Nat.testBit_and]
  cases e : a.testBit i with
  | false => rfl
  | true => rw [h i e]; rfl
 rw [← this]; exact Nat.and_le_right
theorem SubN.refl (a : Nat) : SubN a a := fun _ h => h
theorem SubN.trans {a b c : Nat} (h : SubN a b) (k : SubN b c) : SubN a c := fun i hi => k i (h i hi)
theorem subN_dif {a c : Nat} : SubN (difN a c) a := fun i h => by rw [difN_bit,Bool.and_eq_true] at h; exact h.1
theorem ctz_bit {x : Nat} (hx : x < 4096) (h0 : x ≠ 0) : x.testBit (ctz x) = true ∧ ctz x < 12 ∧ ∀ i,x.testBit i = true → ctz x ≤ i := by
 obtain ⟨h1,_⟩ := bitL_step x hx h0
 have hm : ((ctz x : Nat) : Int) ∈ bitL x := by rw [h1]; simp
 have hb := (bitL_mem hx).1 hm
 refine ⟨hb,bit_lt hx hb,fun i hi => ?_⟩
 have hs := bitL_sorted (n := x)
 have hi' := (bitL_mem hx).2 hi
 rw [h1] at hs hi'
 rw [List.pairwise_cons] at hs
 rcases List.mem_cons.1 hi' with e | e
 · omega
 · have := hs.1 _ e; omega
theorem dif_lt {x n : Nat} (h : x.testBit n = true) : difN x (pwN n) < x := by
 have h1 := difN_le (a := x) (c := pwN n)
 rcases Nat.lt_or_ge (difN x (pwN n)) x with h2 | h2
 · exact h2
 · exfalso
   have e : difN x (pwN n) = x := Nat.le_antisymm h1 h2
   have := congrArg (fun y => y.testBit n) e
   simp only [difN_bit,pwN_bit,h] at this
   simp at this
theorem apN_sub {E : List GE} : ∀ {F left : Nat},left < 4096 → SubN (apN E F left) left
 | 0,_,_ => fun i h => by simp [apN] at h
 | F + 1, left, hl => by
   intro i h
   unfold apN at h
   split at h
   · simp at h
   · rename_i h0
     obtain ⟨c1,c2,c3⟩ := ctz_bit hl h0
     have d1 : difN left (pwN (ctz left)) < 4096 := Nat.lt_of_le_of_lt difN_le hl
     split at h
     · rw [orN_bit,Bool.or_eq_true,pwN_bit,decide_eq_true_eq] at h
       rcases h with h | h
       · rw [← h]; exact c1
       · exact subN_dif i (subN_dif i (apN_sub (Nat.lt_of_le_of_lt difN_le d1) i h))
     · exact subN_dif i (apN_sub d1 i h)
theorem apN_lt {E : List GE} {F left : Nat} (hl : left < 4096) : apN E F left < 4096 := Nat.lt_of_le_of_lt (apN_sub hl).le hl
def Bt (l l' : List Int) : Prop := l'.length < l.length ∨ (l.length = l'.length ∧ (l = l' ∨ frsK l l' = true))
theorem frsK_asym : ∀ {a b : List Int},frsK a b = true → frsK b a = true → False
 | [],_,h,_ => by simp [frsK] at h
 | _ :: _,[],h,_ => by simp [frsK] at h
 | x :: a, y :: b, h, k => by
   unfold frsK at h k
   by_cases e : x = y
   · rw [if_pos e] at h
     rw [if_pos e.symm] at k
     exact frsK_asym h k
   · rw [if_neg e] at h
     rw [if_neg (Ne.symm e)] at k
     simp only [decide_eq_true_eq] at h k
     omega
theorem frsK_trans : ∀ {a b c : List Int},frsK a b = true → frsK b c = true → frsK a c = true
 | [],_,_,h,_ => by simp [frsK] at h
 | _ :: _,[],_,h,_ => by simp [frsK] at h
 | _ :: _,_ :: _,[],_,h => by simp [frsK] at h
 | x :: a, y :: b, z :: c, h, k => by
   unfold frsK at h k ⊢
   by_cases e : x = y
   · rw [if_pos e] at h
     subst e
     by_cases e2 : x = z
     · rw [if_pos e2] at k ⊢
       exact frsK_trans h k
     · rw [if_neg e2] at k ⊢; exact k
   · rw [if_neg e] at h
     simp only [decide_eq_true_eq] at h
     by_cases e2 : y = z
     · subst e2; rw [if_neg e]; simpa using h
     · rw [if_neg e2] at k
       simp only [decide_eq_true_eq] at k
       rw [if_neg (by omega)]; simp; omega
theorem frsK_tot : ∀ {a b : List Int},a.length = b.length → a = b ∨ frsK a b = true ∨ frsK b a = true
 | [],[],_ => .inl rfl
 | [],_ :: _,h => by simp at h
 | _ :: _,[],h => by simp at h
 | x :: a, y :: b, h => by
   unfold frsK
   by_cases e : x = y
   · rw [if_pos e,if_pos e.symm]
     subst e
     rcases frsK_tot (a := a) (b := b) (by simpa using h) with h1 | h1 | h1
     · exact .inl (by rw [h1])
     · exact .inr (.inl h1)
     · exact .inr (.inr h1)
   · rw [if_neg e,if_neg (Ne.symm e)]
     simp only [decide_eq_true_eq]
     omega
theorem Bt.refl (l : List Int) : Bt l l := .inr ⟨rfl,.inl rfl⟩
theorem Bt.trans {a b c : List Int} (h : Bt a b) (k : Bt b c) : Bt a c := by
 rcases h with h | ⟨h,h2⟩
 · rcases k with k | ⟨k,_⟩
   · exact .inl (by omega)
   · exact .inl (by omega)
 · rcases k with k | ⟨k,k2⟩
   · exact .inl (by omega)
   · refine .inr ⟨by omega,?_⟩
     rcases h2 with rfl | h2
     · exact k2
     · rcases k2 with rfl | k2
       · exact .inr h2
       · exact .inr (frsK_trans h2 k2)
theorem Bt.anti {a b : List Int} (h : Bt a b) (k : Bt b a) : a = b := by
 rcases h with h | ⟨h,h2⟩
 · rcases k with k | ⟨k,_⟩ <;> omega
 · rcases k with k | ⟨k,k2⟩
   · omega
   · rcases h2 with h2 | h2
     · exact h2
     · rcases k2 with k2 | k2
       · exact k2.symm
       · exact (frsK_asym h2 k2).elim
theorem Bt.cons {x : Int} {a b : List Int} (h : Bt a b) : Bt (x :: a) (x :: b) := by
 rcases h with h | ⟨h,h2⟩
 · exact .inl (by simpa using h)
 · refine .inr ⟨by simpa using h,?_⟩
   rcases h2 with rfl | h2
   · exact .inl rfl
   · right; unfold frsK; rw [if_pos rfl]; exact h2
def MaxL (Q : Nat → Prop) (l : List Int) : Prop := (∃ b,Q b ∧ bitL b = l) ∧ ∀ b,Q b → Bt l (bitL b)
theorem MaxL.uniq {Q l l'} (h : MaxL Q l) (k : MaxL Q l') : l = l' := by
 obtain ⟨⟨b,h1,h2⟩,h3⟩ := h
 obtain ⟨⟨c,k1,k2⟩,k3⟩ := k
 have a := h3 c k1
 have b' := k3 b h1
 rw [k2] at a
 rw [h2] at b'
 exact a.anti b'
theorem bst_max {s : SH} : ∀ {i : Nat},(∃ b,apK s (allR s) b (allR s).length = true ∧ (b < i ∨ b = 0) ∧ bitL b = bstT s i) ∧ ∀ b,b < i → apK s (allR s) b (allR s).length = true → Bt (bstT s i) (bitL b)
 | 0 => by
   refine ⟨⟨0,?_,.inr rfl,bitL_zero⟩,fun b h => by omega⟩
   unfold apK
   rw [List.all_eq_true]
   intro k _
   have : andN (bitO s ((allR s).getD k (0,0))) 0 = 0 := Nat.and_zero _
   rw [this,bitL_zero]; rfl
 | i + 1 => by
   obtain ⟨⟨b,h1,h2,h3⟩,h4⟩ := bst_max (s := s) (i := i)
   unfold bstT
   by_cases hc : (apK s (allR s) i (allR s).length && (decide ((bstT s i).length < (bitL i).length) || (decide ((bitL i).length = (bstT s i).length) && frsK (bitL i) (bstT s i)))) = true
   · rw [if_pos hc]
     simp only [Bool.and_eq_true,Bool.or_eq_true,decide_eq_true_eq] at hc
     obtain ⟨c1,c2⟩ := hc
     have hb : Bt (bitL i) (bstT s i) := by
      rcases c2 with c2 | ⟨c2,c3⟩
      · exact .inl c2
      · exact .inr ⟨c2,.inr c3⟩
     refine ⟨⟨i,c1,.inl (by omega),rfl⟩,fun x hx hq => ?_⟩
     by_cases e : x = i
     · subst e; exact Bt.refl _
     · exact hb.trans (h4 x (by omega) hq)
   · rw [if_neg hc]
     refine ⟨⟨b,h1,by omega,h3⟩,fun x hx hq => ?_⟩
     by_cases e : x = i
     · subst e
       simp only [Bool.and_eq_true,Bool.or_eq_true,decide_eq_true_eq,hq,true_and] at hc
       rw [not_or,not_and] at hc
       obtain ⟨c1,c2⟩ := hc
       rcases Nat.lt_or_ge (bitL x).length (bstT s x).length with hlt | hge
       · exact .inl hlt
       · have he : (bitL x).length = (bstT s x).length := by omega
         have := c2 he
         refine .inr ⟨he.symm,?_⟩
         rcases frsK_tot he with h5 | h5 | h5
         · exact .inl h5.symm
         · exact absurd h5 this
         · exact .inr h5
     · exact h4 x (by omega) hq
theorem bitL_add {n x : Nat} (hn : n < 12) (hx : x < 4096) (h : ∀ i,x.testBit i = true → n < i) : bitL (orN (pwN n) x) = (n : Int) :: bitL x := by
 have h1 : x ||| 2 ^ n = orN (pwN n) x := Nat.or_comm _ _
 have h2 : x &&& 2 ^ n = 0 := by
  refine Nat.eq_of_testBit_eq fun i => ?_
  rw [Nat.testBit_and,Nat.testBit_two_pow,Nat.zero_testBit]
  by_cases e : n = i
  · subst e
    cases hb : x.testBit n with
    | false => rfl
    | true => have := h n hb; omega
  · simp [e]
 have h3 : orN (pwN n) x % 2 ^ n = 0 := by
  refine Nat.eq_of_testBit_eq fun i => ?_
  rw [Nat.testBit_mod_two_pow,Nat.zero_testBit,orN_bit,pwN_bit]
  by_cases hi : i < n
  · cases hb : x.testBit i with
    | false => simp; omega
    | true => have := h i hb; omega
  · simp [hi]
 have := bitT_cut h1 h2 h3 (60 - (n + 1))
 rw [show n + 1 + (60 - (n + 1)) = 60 by omega] at this
 exact this
theorem apN_max {E : List GE} : ∀ {F left : Nat}, left < F → left < 4096 → MaxL (fun b => SubN b left ∧ indN E b) (bitL (apN E F left))
 | 0,_,h,_ => by omega
 | F + 1, left, hF, hl => by
   by_cases h0 : left = 0
   · have e : apN E (F + 1) left = 0 := by unfold apN; rw [if_pos h0]
     rw [e]
     refine ⟨⟨0,⟨fun i h => by simp at h,fun i k h => by simp at h⟩,rfl⟩,fun b ⟨hb,_⟩ => ?_⟩
     have : b = 0 := by have := hb.le; omega
     rw [this]; exact Bt.refl _
   · obtain ⟨c1, c2, c3⟩ := ctz_bit hl h0
     have d1 := dif_lt c1
     have d2 := difN_le (a := difN left (pwN (ctz left))) (c := besN E (ctz left))
     obtain ⟨⟨x0,⟨p1,p2⟩,p3⟩,p4⟩ := apN_max (E := E) (F := F) (left := difN left (pwN (ctz left))) (by omega) (by omega)
     obtain ⟨⟨x1,⟨q1,q2⟩,q3⟩,q4⟩ := apN_max (E := E) (F := F) (left := difN (difN left (pwN (ctz left))) (besN E (ctz left))) (by omega) (by omega)
     have e : apN E (F + 1) left = if cntN (apN E F (difN left (pwN (ctz left)))) ≤ cntN (orN (pwN (ctz left)) (apN E F (difN (difN left (pwN (ctz left))) (besN E (ctz left))))) then
      orN (pwN (ctz left)) (apN E F (difN (difN left (pwN (ctz left))) (besN E (ctz left)))) else apN E F (difN left (pwN (ctz left))) := by
      rw [apN,if_neg h0]
     have s1 := apN_sub (E := E) (F := F) (left := difN (difN left (pwN (ctz left))) (besN E (ctz left))) (by omega)
     have s0 := apN_sub (E := E) (F := F) (left := difN left (pwN (ctz left))) (by omega)
     have l1 := apN_lt (E := E) (F := F) (left := difN (difN left (pwN (ctz left))) (besN E (ctz left))) (by omega)
     rw [e]
     generalize apN E F (difN (difN left (pwN (ctz left))) (besN E (ctz left))) = y1 at *
     generalize apN E F (difN left (pwN (ctz left))) = y0 at *
     generalize hn : ctz left = n at *
     have up : ∀ {b : Nat},SubN b (difN left (pwN n)) → ∀ i,b.testBit i = true → n < i := fun {b} hb i hi => by
      have := hb i hi
      rw [difN_bit,pwN_bit,Bool.and_eq_true,Bool.not_eq_true',decide_eq_false_iff_not] at this
      have := c3 i this.1
      omega
     have inj : ∀ {a b : Nat},a < 4096 → b < 4096 → bitL a = bitL b → a = b := fun {a b} ha hb h => by
      refine Nat.eq_of_testBit_eq fun i => ?_
      rw [Bool.eq_iff_iff,← bitL_mem ha,← bitL_mem hb,h]
     have y1eq : x1 = y1 := inj (Nat.lt_of_le_of_lt q1.le (by omega)) l1 q3
     have y0eq : x0 = y0 := inj (Nat.lt_of_le_of_lt p1.le (by omega)) (Nat.lt_of_le_of_lt s0.le (by omega)) p3
     subst y1eq y0eq
     have bw : bitL (orN (pwN n) x1) = (n : Int) :: bitL x1 := bitL_add c2 l1 (up (q1.trans subN_dif))
     have indw : indN E (orN (pwN n) x1) := by
      have no : ∀ k,x1.testBit k = true → ¬ adjN E n k := fun k hk hadj => by
       have := q1 k hk
       rw [difN_bit,Bool.and_eq_true,Bool.not_eq_true'] at this
       rw [besN_adj.2 hadj] at this
       cases this.2
      intro i k hi hk hadj
      rw [orN_bit,Bool.or_eq_true,pwN_bit,decide_eq_true_eq] at hi hk
      rcases hi with hi | hi <;> rcases hk with hk | hk
      · exact hadj.1 (by omega)
      · subst hi; exact no k hk hadj
      · subst hk; exact no i hi hadj.symm
      · exact q2 i k hi hk hadj
     have subw : SubN (orN (pwN n) x1) left := fun i hi => by
      rw [orN_bit,Bool.or_eq_true,pwN_bit,decide_eq_true_eq] at hi
      rcases hi with hi | hi
      · rw [← hi]; exact c1
      · exact subN_dif i (subN_dif i (q1 i hi))
     have each : ∀ b, SubN b left → indN E b → Bt (bitL (orN (pwN n) x1)) (bitL b) ∧ b.testBit n = true ∨ SubN b (difN left (pwN n)) := fun b hb hi => by
      cases ht : b.testBit n with
      | false =>
        right
        intro i h
        rw [difN_bit,pwN_bit,hb i h]
        have : n ≠ i := fun e => by subst e; rw [ht] at h; cases h
        simp [this]
      | true =>
        left
        refine ⟨?_,rfl⟩
        have sb : SubN (difN b (pwN n)) (difN (difN left (pwN n)) (besN E n)) := fun i h => by
         rw [difN_bit,pwN_bit,Bool.and_eq_true,Bool.not_eq_true',decide_eq_false_iff_not] at h
         have nb : (besN E n).testBit i = false := by
          cases hbb : (besN E n).testBit i with
          | false => rfl
          | true => exact absurd (besN_adj.1 hbb) (hi n i ht h.1)
         rw [difN_bit,difN_bit,pwN_bit,hb i h.1,nb]
         simp [h.2]
        have hlt : difN b (pwN n) < 4096 := by have := sb.le; omega
        have eb : b = orN (pwN n) (difN b (pwN n)) := Nat.eq_of_testBit_eq fun i => by
         rw [orN_bit,difN_bit,pwN_bit]
         by_cases e : n = i
         · subst e; simp [ht]
         · simp [e]
        have := q4 (difN b (pwN n)) ⟨sb,fun i k h1 h2 => hi i k (subN_dif i h1) (subN_dif k h2)⟩
        rw [bw,eb,bitL_add c2 hlt (up (sb.trans subN_dif))]
        exact this.cons
     by_cases hc : cntN x0 ≤ cntN (orN (pwN n) x1)
     · rw [if_pos hc]
       refine ⟨⟨_,⟨subw,indw⟩,rfl⟩,fun b ⟨hb,hi⟩ => ?_⟩
       rcases each b hb hi with h | h
       · exact h.1
       · have k1 := p4 b ⟨h, hi⟩
         unfold cntN at hc
         rcases k1 with k1 | ⟨k1,_⟩
         · exact .inl (by omega)
         · rcases Nat.lt_or_ge (bitL b).length (bitL (orN (pwN n) x1)).length with k2 | k2
           · exact .inl k2
           · refine .inr ⟨by omega,.inr ?_⟩
             rw [bw] at k2 hc ⊢
             have hbm : ∀ y ∈ bitL b,(n : Int) < y := fun y hy => by
              obtain ⟨k,rfl,_,h5⟩ := bitT_mem.1 hy
              have := up h k h5
              omega
             cases hl2 : bitL b with
             | nil => rw [hl2] at k2; simp at k2
             | cons y t =>
               have := hbm y (by rw [hl2]; simp)
               unfold frsK
               rw [if_neg (by omega)]; simpa using this
     · rw [if_neg hc]
       unfold cntN at hc
       refine ⟨⟨_,⟨p1.trans subN_dif,p2⟩,rfl⟩,fun b ⟨hb,hi⟩ => ?_⟩
       rcases each b hb hi with h | h
       · left
         rcases h.1 with h1 | ⟨h1,_⟩ <;> omega
       · exact p4 b ⟨h,hi⟩
theorem ap_iff {s : SH} {R : List (Int × Int)} {b : Nat} : apK s R b R.length = true ↔ ¬ apR s R b = true := by
 unfold apK apR
 rw [List.all_eq_true,List.any_eq_true]
 constructor
 · rintro h ⟨r,hr,h2⟩
   obtain ⟨k,hk,rfl⟩ := List.mem_iff_getElem.1 hr
   have := h k (List.mem_range.2 hk)
   rw [getD_at hk] at this
   simp only [decide_eq_true_eq] at this h2
   omega
 · intro h k hk
   have hk := List.mem_range.1 hk
   simp only [decide_eq_true_eq]
   refine Classical.byContradiction fun hn => h ⟨R[k],List.getElem_mem hk,?_⟩
   rw [getD_at hk] at hn
   simp only [decide_eq_true_eq]
   omega
theorem apN_spec {s : SH} (hv : ValS s) {hp m E clk} (hg : GrH hp m E clk) (ho : GOf s (allR s) E) : bitL (apN E 4096 (allN s)) = bstT s (pwN s.m.length) := by
 have w := pw_12 hv
 have hl : allN s < 4096 := by unfold allN; omega
 have h1 := apN_max (E := E) (F := 4096) (left := allN s) hl hl
 obtain ⟨⟨b,b1,b2,b3⟩,b4⟩ := bst_max (s := s) (i := pwN s.m.length)
 have sub : ∀ x,SubN x (allN s) ↔ x < pwN s.m.length := fun x => by
  constructor
  · intro h; have := h.le; unfold allN at this; omega
  · intro h i hi
    unfold allN pwN at *
    rw [Nat.testBit_two_pow_sub_one,decide_eq_true_eq]
    refine Classical.byContradiction fun hn => ?_
    rw [Nat.testBit_lt_two_pow (Nat.lt_of_lt_of_le h (Nat.pow_le_pow_right (by decide) (by omega)))] at hi
    cases hi
 have ind : ∀ x,indN E x ↔ apK s (allR s) x (allR s).length = true := fun x => by
  rw [ap_iff,apR_iff hv hg ho,Classical.not_not]
 refine h1.uniq ⟨⟨b,⟨(sub b).2 (by omega),(ind b).2 b1⟩,b3⟩,fun x ⟨hx,hi⟩ => b4 x ((sub x).1 hx) ((ind x).1 hi)⟩
end Go.AM

namespace Go.AM
open Go.RowKit Go.Proofs
set_option maxHeartbeats 2000000 in
theorem q_apart_w {f g : Bool} {s : SH} {hp : List HObj} (hn : NoMpp hp) {rc m : Nat} {E : List GE} {clk : Nat} (hb : Brd f g s hp rc m E clk) : ∀ (F left : Nat),left < F → left < 4096 → ∀ {K : AV → List HObj → Prop},K (W64 (apN E F left)) hp → CallW Tryz.prog n_q_apart [.ref rc 0,W64 left] hp K
 | 0,_,h,_,_,_ => by omega
 | F + 1, left, hF, hl, K, hK => by
   refine callW_aws func_q_apart form_q_apart res_q_apart (by show 2 ≤ _; decide) ?_
   simp only [G_q_apart]
   refine aws_step ?_
   simp -implicitDefEqProofs (disch := omega) [wrap_id]
   unfold apN at hK
   by_cases h0 : left = 0
   · rw [if_pos h0] at hK
     refine aws_step ?_
     simp -implicitDefEqProofs (disch := omega) [wrap_id,-b_eql,uw_eq0,h0]
     exact hK
   rw [if_neg h0] at hK
   obtain ⟨c1,c2,c3⟩ := ctz_bit hl h0
   have b1 := besN_lt (E := E) (n := ctz left) fun e he => (hb.gr.sm e he).2
   have pw := pwN_small (i := ctz left) (by omega)
   have d1 := dif_lt c1
   have d2 := difN_le (a := difN left (pwN (ctz left))) (c := besN E (ctz left))
   have a1 := apN_lt (E := E) (F := F) (left := difN (difN left (pwN (ctz left))) (besN E (ctz left))) (by omega)
   have a2 := apN_lt (E := E) (F := F) (left := difN left (pwN (ctz left))) (by omega)
   have pw2 : pwN (ctz left) < 4096 := Nat.pow_lt_pow_right (n := 12) (by decide) c2
   have a3 : orN (pwN (ctz left)) (apN E F (difN (difN left (pwN (ctz left))) (besN E (ctz left)))) < 4096 := Nat.or_lt_two_pow (n := 12) pw2 a1
   refine aws_step ?_
   simp -implicitDefEqProofs (disch := omega) [wrap_id,-b_eql,uw_eq0,h0]
   refine aws_step ?_
   simp -implicitDefEqProofs (disch := omega) [wrap_id]
   refine callW_pure (ys := [W64 left]) (ids := []) rfl (b_tz_ok left (by omega)) ?_
   simp -implicitDefEqProofs (disch := omega) [wrap_id]
   generalize hn0 : ctz left = n0 at *
   refine aws_seq (aws_read ?_)
   simp -implicitDefEqProofs (disch := omega) [wrap_id,-b_shl,uw_shl,-b_andNot,uw_dif]
   refine r_call (W64 (besN E n0)) (fun KK hKK => q_beside_w hn hb c2 hKK) ?_
   simp -implicitDefEqProofs (disch := omega) [wrap_id,-b_andNot,uw_dif]
   refine r_call (W64 (apN E F (difN (difN left (pwN n0)) (besN E n0)))) (fun KK hKK => q_apart_w hn hb F _ (by omega) (by omega) hKK) ?_
   simp -implicitDefEqProofs (disch := omega) [wrap_id,-b_or,uw_or]
   refine aws_step ?_
   simp -implicitDefEqProofs (disch := omega) [wrap_id,-b_shl,uw_shl,-b_andNot,uw_dif]
   refine q_apart_w hn hb F _ (by omega) (by omega) ?_
   generalize orN (pwN n0) (apN E F (difN (difN left (pwN n0)) (besN E n0))) = x1 at *
   generalize apN E F (difN left (pwN n0)) = x2 at *
   simp -implicitDefEqProofs (disch := omega) [wrap_id]
   refine aws_of ?_
   simp -implicitDefEqProofs (disch := omega) [wrap_id]
   refine callW_pure (ys := [W64 x1]) (ids := []) rfl (b_ones_ok x1 a3) ?_
   simp -implicitDefEqProofs (disch := omega) [wrap_id]
   refine callW_pure (ys := [W64 x2]) (ids := []) rfl (b_ones_ok x2 a2) ?_
   simp -implicitDefEqProofs (disch := omega) [wrap_id]
   refine c_split (fun hc => ?_) (fun hc => ?_)
   · have hc : cntN x2 ≤ cntN x1 := by simp at hc; omega
     rw [if_pos hc] at hK
     simp -implicitDefEqProofs (disch := omega) [wrap_id]
     exact hK
   · have hc : ¬ cntN x2 ≤ cntN x1 := by simp at hc; omega
     rw [if_neg hc] at hK
     simp -implicitDefEqProofs (disch := omega) [wrap_id]
     exact hK
set_option maxHeartbeats 2000000 in
theorem k_Apart_ok (f g : Bool) (s : SH) (hz : SzS s) : PureOK Tryz.prog n_k_Apart [Sn f g s] (.tup [Ls (apaL s).isEmpty (apaL s),I (shtE s)]) := by
 refine pure_of (walk func_k_Apart form_k_Apart res_k_Apart (by show 1 ≤ _; decide) ?_)
 simp -implicitDefEqProofs (disch := omega) [G_k_Apart,wrap_id]
 refine k_open_w hz (mpp_list rfl) (fun h0 H ha hm => ?_) (fun h0 H rc m E clk ha hm hlen hb hof => ?_)
 · have e2 : apaL s = [] := by unfold apaL; rw [if_neg h0]
   have h0' : (shtE s != 0) = true := by simp [h0]
   rw [e2]
   simp -implicitDefEqProofs (disch := omega) [wrap_id,h0']
   exact out_of (is := []) rfl
 · have hv := val_of h0
   have w := pw_12 hv
   have hl : allN s < 4096 := by unfold allN; omega
   have e2 : apaL s = bitL (apN E 4096 (allN s)) := by unfold apaL; rw [if_pos h0,apN_spec hv hb.gr hof]
   have lt := apN_lt (E := E) (F := 4096) hl
   rw [e2,h0]
   simp -implicitDefEqProofs (disch := omega) [wrap_id]
   refine q_all_w hb hv.m12 ?_
   rw [show pwN s.m.length - 1 = allN s from rfl]
   simp -implicitDefEqProofs (disch := omega) [wrap_id]
   refine q_apart_w hm hb 4096 (allN s) hl hl ?_
   simp -implicitDefEqProofs (disch := omega) [wrap_id]
   refine callW_pure (ys := [W64 (apN E 4096 (allN s))]) (ids := []) rfl (t_list_ok _ lt) ?_
   simp -implicitDefEqProofs (disch := omega) [wrap_id]
   exact out_of (is := []) rfl
end Go.AM

namespace Go.AM
open Go.RowKit Go.Proofs
def gwR (M : Nat) : List GE → Nat → Nat → Nat
 | [],n,b => if n = 0 ∧ b = 0 then 1 else 0
 | _ :: L,0,b => gwR M L 0 b
 | e :: L,n + 1,b => gwR M L (n + 1) b + e.rows.length * sK (fun c => if orN c e.key = b then gwR M L n c else 0) M
def gwM (M : Nat) (e : GE) (L : List GE) (n s b : Nat) : Nat := gwR M L (n + 1) b + e.rows.length * sK (fun c => if orN c e.key = b then gwR M L n c else 0) s
theorem gwM_zero {M e L n b} : gwM M e L n 0 b = gwR M L (n + 1) b := by simp [gwM,sK]
theorem gwM_end {M e L n b} : gwM M e L n M b = gwR M (e :: L) (n + 1) b := rfl
theorem gwM_succ {M e L n s b} : gwM M e L n (s + 1) b = gwM M e L n s b + if orN s e.key = b then e.rows.length * gwR M L n s else 0 := by
 unfold gwM
 rw [show ∀ f : Nat → Nat,sK f (s + 1) = sK f s + f s from fun _ => rfl]
 split
 · rw [Nat.mul_add,Nat.add_assoc]
 · simp
def gwL (M : Nat) (e : GE) (L : List GE) (j s : Nat) (k b : Nat) : Nat := if j < k then gwR M (e :: L) k b else if k = j ∧ 0 < j then gwM M e L (j - 1) s b else gwR M L k b
theorem gwL_start {M e L N k b} (hk : k ≤ N) : gwL M e L N 0 k b = gwR M L k b := by
 unfold gwL
 rw [if_neg (by omega)]
 split
 · rename_i h
   obtain ⟨rfl,h⟩ := h
   rw [gwM_zero,show k - 1 + 1 = k by omega]
 · rfl
theorem gwL_down {M e L j k b} (hj : 0 < j) : gwL M e L j M k b = gwL M e L (j - 1) 0 k b := by
 unfold gwL
 by_cases h1 : j < k
 · rw [if_pos h1,if_pos (by omega)]
 · rw [if_neg h1]
   by_cases h2 : k = j
   · subst h2
     rw [if_pos ⟨rfl,hj⟩,if_pos (by omega),gwM_end,show k - 1 + 1 = k by omega]
   · rw [if_neg (fun h => h2 h.1),if_neg (by omega)]
     split
     · rename_i h
       obtain ⟨rfl,h⟩ := h
       rw [gwM_zero,show j - 1 - 1 + 1 = j - 1 by omega]
     · rfl
theorem gwL_end {M e L k b} : gwL M e L 0 0 k b = gwR M (e :: L) k b := by
 unfold gwL
 by_cases h : 0 < k
 · rw [if_pos h]
 · rw [if_neg h,if_neg (by omega)]
   have : k = 0 := by omega
   subst this; rfl
theorem capM_mul {x y l : Nat} (hl : 0 < l) : min 1099511627777 (capM x + capM y * l) = capM (x + l * y) := by
 unfold capM
 by_cases h : 1099511627777 ≤ y
 · have e : min 1099511627777 y = 1099511627777 := by omega
   have h1 : 1099511627777 ≤ 1099511627777 * l := Nat.le_mul_of_pos_right _ hl
   have h2 : y ≤ l * y := Nat.le_mul_of_pos_left _ hl
   rw [e]
   generalize 1099511627777 * l = p at *
   generalize l * y = q at *
   omega
 · have e : min 1099511627777 y = y := by omega
   rw [e,Nat.mul_comm]
   generalize l * y = q at *
   omega
theorem gwL_step {M : Nat} {e : GE} {L : List GE} {j x k b : Nat} (hj : 0 < j) : gwL M e L j (x + 1) k b = gwL M e L j x k b + if k = j ∧ b = orN x e.key then e.rows.length * gwR M L (j - 1) x else 0 := by
 unfold gwL
 by_cases h1 : j < k
 · rw [if_pos h1,if_pos h1,if_neg (by omega)]; rfl
 · rw [if_neg h1,if_neg h1]
   by_cases h2 : k = j
   · subst h2
     rw [if_pos ⟨rfl,hj⟩,if_pos ⟨rfl,hj⟩,gwM_succ]
     by_cases h3 : b = orN x e.key
     · rw [if_pos h3.symm,if_pos ⟨rfl,h3⟩]
     · rw [if_neg (fun h => h3 h.symm),if_neg (fun h => h3 h.2)]
   · rw [if_neg (fun h => h2 h.1),if_neg (fun h => h2 h.1),if_neg (fun h => h2 h.1)]; rfl
theorem gwL_low {M : Nat} {e : GE} {L : List GE} {j x b : Nat} (hj : 0 < j) : gwL M e L j x (j - 1) b = gwR M L (j - 1) b := by
 unfold gwL
 rw [if_neg (by omega),if_neg (by omega)]
theorem capM_zero {x : Nat} : capM x = 0 ↔ x = 0 := by unfold capM; omega
theorem perm_of {α : Type} : ∀ {l l' : List α}, l.Nodup → l'.Nodup → (∀ a, a ∈ l ↔ a ∈ l') → l.Perm l'
 | [],l',_,_,h => by
   have : l' = [] := List.eq_nil_iff_forall_not_mem.2 fun a ha => by have := (h a).2 ha; cases this
   rw [this]
 | x :: l, l', h1, h2, h => by
   obtain ⟨A,B,rfl⟩ := List.append_of_mem ((h x).1 (by simp))
   rw [List.nodup_cons] at h1
   have h2' : (x :: (A ++ B)).Nodup := (List.perm_middle).nodup_iff.1 h2
   rw [List.nodup_cons] at h2'
   have : l.Perm (A ++ B) := perm_of h1.2 h2'.2 fun a => by
    have := h a
    simp only [List.mem_cons,List.mem_append] at this ⊢
    constructor
    · intro ha
      rcases this.1 (.inr ha) with h3 | h3 | h3
      · exact .inl h3
      · subst h3; exact absurd ha h1.1
      · exact .inr h3
    · intro ha
      rcases this.2 (by rcases ha with h3 | h3 <;> simp [h3]) with h3 | h3
      · subst h3
        exact absurd (by rcases ha with h3 | h3 <;> simp [h3]) h2'.1
      · exact h3
   exact (this.cons x).trans List.perm_middle.symm
end Go.AM

namespace Go.AM
open Go.RowKit Go.Proofs
def fnM (N : Nat) (f : Nat → Nat → Nat) : List AV := (List.range (N * 4096)).map fun i => I (f (i / 4096) (i % 4096) : Int)
theorem fnM_len {N f} : (fnM N f).length = N * 4096 := by simp [fnM]
theorem fnM_at {N f k} (h : k < (fnM N f).length) : (fnM N f)[k] = I (f (k / 4096) (k % 4096) : Int) := by simp only [fnM,List.getElem_map,List.getElem_range]
theorem fnM_get {N : Nat} {f : Nat → Nat → Nat} {n i : Nat} (hn : n < N) (h : i < 4096) : nthA (fnM N f) (n * 4096 + i) = some (I (f n i : Int)) := by
 have hk : n * 4096 + i < (fnM N f).length := by rw [fnM_len]; have := Nat.mul_le_mul_right 4096 (show n + 1 ≤ N from hn); omega
 rw [nthA_eq,List.getElem?_eq_getElem hk,fnM_at]
 rw [show (n * 4096 + i) / 4096 = n by omega,show (n * 4096 + i) % 4096 = i by omega]
theorem fnM_ext {N : Nat} {f g : Nat → Nat → Nat} (h : ∀ n t,n < N → t < 4096 → f n t = g n t) : fnM N f = fnM N g := List.map_congr_left fun t ht => by
 have ht := List.mem_range.1 ht
 rw [h _ _ (by omega) (by omega)]
def updM (f : Nat → Nat → Nat) (n i v : Nat) : Nat → Nat → Nat := fun k t => if k = n ∧ t = i then v else f k t
theorem fnM_put {N : Nat} {f : Nat → Nat → Nat} {n i v : Nat} (hn : n < N) (h : i < 4096) : (fnM N f).take (n * 4096 + i) ++ I (v : Int) :: (fnM N f).drop (n * 4096 + i + 1) = fnM N (updM f n i v) := by
 have hk : n * 4096 + i < (fnM N f).length := by rw [fnM_len]; have := Nat.mul_le_mul_right 4096 (show n + 1 ≤ N from hn); omega
 have e : (fnM N f).set (n * 4096 + i) (I (v : Int)) = fnM N (updM f n i v) := by
  refine List.ext_getElem (by simp [fnM]) fun k h1 h2 => ?_
  rw [List.getElem_set,fnM_at h2]
  by_cases e : n * 4096 + i = k
  · rw [if_pos e]
    unfold updM
    rw [if_pos ⟨by omega,by omega⟩]
  · rw [if_neg e,fnM_at]
    unfold updM
    rw [if_neg (by omega)]
 rw [← e,List.set_eq_take_append_cons_drop,if_pos hk]
theorem zrep_all {z : List AV} {x : AV} (h : ∀ y ∈ z,y = x) : ∀ {n},∀ y ∈ zrep n z,y = x
 | 0,y,hy => by cases hy
 | n + 1,y,hy => by
   rw [zrep,List.mem_append] at hy
   rcases hy with hy | hy
   · exact h y hy
   · exact zrep_all h y hy
theorem all_zero {N : Nat} {l : List AV} (hl : l.length = N * 4096) (h : ∀ y ∈ l,y = I 0) : l = fnM N (fun _ _ => 0) := by
 refine List.ext_getElem (by rw [hl,fnM_len]) fun k h1 h2 => ?_
 rw [fnM_at h2]
 exact h _ (List.getElem_mem h1)
theorem zrep_fnM {N : Nat} : zrep N (fnA (fun _ => 0)) = fnM N (fun _ _ => 0) :=
 all_zero (by rw [zrep_len,fnA_len]) fun y hy => zrep_all (z := fnA fun _ => 0) (fun y hy => by
  simp only [fnA,List.mem_map] at hy
  obtain ⟨i,_,rfl⟩ := hy; rfl) y hy
theorem splice_fnM {N n : Nat} (h : n < N) : splice (fnM N fun _ _ => 0) (n * 4096) (zrep 4096 [I 0]) = fnM N (fun _ _ => 0) := by
 have hm : ∀ y ∈ fnM N (fun _ _ => 0),y = I 0 := fun y hy => by
  simp only [fnM,List.mem_map] at hy
  obtain ⟨i,_,rfl⟩ := hy; rfl
 have hk := Nat.mul_le_mul_right 4096 (show n + 1 ≤ N from h)
 refine all_zero ?_ fun y hy => ?_
 · simp only [splice,List.length_append,List.length_take,List.length_drop,fnM_len,zrep_len,List.length_singleton]
   omega
 · simp only [splice,List.mem_append] at hy
   rcases hy with (hy | hy) | hy
   · exact hm y (List.mem_of_mem_take hy)
   · exact zrep_all (z := [I 0]) (fun y hy => by simpa using hy) y hy
   · exact hm y (List.mem_of_mem_drop hy)
set_option maxHeartbeats 4000000 in
theorem q_count_w {f g : Bool} {s : SH} (hv : ValS s) {hp : List HObj} (hn : NoMpp hp) {rc m : Nat} {E : List GE} {clk : Nat} (hb : Brd f g s hp rc m E clk) (hE : ∀ e ∈ E,e.key < pwN s.m.length) {N : Nat} (hN : N ≤ 1000) {K : AV → List HObj → Prop} (hK : ∀ L,L.Perm E → K (I (capM (gwR (pwN s.m.length) L N (allN s)) : Nat)) hp) :
 CallW Tryz.prog n_q_count [.ref rc 0,I (N : Int)] hp K := by
 have w := pw_12 hv
 have hm12 := hv.m12
 have nx : ((N : Int) + 1) = ((N + 1 : Nat) : Int) := by omega
 refine callW_agr hn ?_
 refine callW_aws func_q_count form_q_count res_q_count (by show 2 ≤ _; decide) ?_
 simp only [G_q_count,rep_fnA]
 refine aws_step ?_
 simp -implicitDefEqProofs (disch := omega) [wrap_id]
 refine aws_step ?_
 simp -implicitDefEqProofs (disch := omega) [wrap_id]
 rw [show (AV.v (Value.int IntKind.i64 ((N : Int) + 1))) = I ((N + 1 : Nat) : Int) from by rw [← nx]]
 refine ⟨N + 1,rfl,rfl,by omega,by omega,fnA_len,?_⟩
 rw [zrep_fnM]
 simp -implicitDefEqProofs (disch := omega) [wrap_id]
 refine aws_step ?_
 simp -implicitDefEqProofs (disch := omega) [wrap_id]
 refine loop_eq (fun i : Nat => ⟨[(0,.ref rc 0),(1,I (N : Int)),(5,.ms hp.length 0 (N + 1) 4096),(16,I ((N : Int) + 1)),(17,I (i : Int))],hp ++ [.cells (fnM (N + 1) fun _ _ => 0)]⟩) (fun i => i ≤ N + 1) (fun i => N + 1 - i) 0 (Nat.zero_le _) (by simp) ?_
 intro i hi
 refine hideK' fun K0 hK0 => ?_
 simp -implicitDefEqProofs (disch := omega) [wrap_id]
 refine c_split (fun hc => ?_) (fun hc => ?_)
 · have hi2 : i < N + 1 := by simp at hc; omega
   have ix : ((i : Int) + 1) = ((i + 1 : Nat) : Int) := by omega
   simp -implicitDefEqProofs (disch := omega) [wrap_id]
   have lM := fnM_len (N := N + 1) (f := fun _ _ => 0)
   have hA : nthH (hp ++ [HObj.cells (fnM (N + 1) fun _ _ => 0)]) hp.length = some (.cells (fnM (N + 1) fun _ _ => 0)) := (app_newK).2.1
   have hk := Nat.mul_le_mul_right 4096 (show i + 1 ≤ N + 1 from hi2)
   refine ⟨by omega,slp_of rfl hA (by rw [lM]; omega) ?_⟩
   simp -implicitDefEqProofs (disch := omega) [wrap_id]
   refine clr_of rfl hA (by rw [lM]; omega) ?_
   rw [splice_fnM hi2]
   simp -implicitDefEqProofs (disch := omega) [wrap_id]
   rw [hK0]
   exact next_eq (i + 1) (by omega) (by omega) (by simp only [ix])
 · have hi2 : i = N + 1 := by simp at hc; omega
   subst hi2
   subst hK0
   simp -implicitDefEqProofs (disch := omega) [wrap_id]
   refine aws_step ?_
   simp -implicitDefEqProofs (disch := omega) [wrap_id,fnM_len]
   have e1 : I 1 :: (fnM (N + 1) fun _ _ => 0).tail = fnM (N + 1) fun k t => capM (gwR (pwN s.m.length) [] k t) := by
    have := fnM_put (N := N + 1) (f := fun _ _ => 0) (n := 0) (i := 0) (v := 1) (by omega) (by omega)
    simp only [Nat.zero_mul,Nat.add_zero,List.take_zero,List.nil_append,Nat.zero_add,List.drop_one] at this
    rw [show (I 1 : AV) = I ((1 : Nat) : Int) from rfl,this]
    refine fnM_ext fun k t _ _ => ?_
    show (if k = 0 ∧ t = 0 then 1 else 0) = capM (if k = 0 ∧ t = 0 then 1 else 0)
    split <;> rfl
   rw [e1]
   have hbA := hb.app (o := .cells (fnM (N + 1) fun k t => capM (gwR (pwN s.m.length) [] k t)))
   refine ⟨by omega,aws_step ?_⟩
   simp -implicitDefEqProofs (disch := omega) [wrap_id,hbA.bd,ldr_some,xx_rng]
   refine rngU hbA.gr.mp ?_
   simp -implicitDefEqProofs (disch := omega) [wrap_id]
   refine loop_eq (fun q : List GE × List HObj => ⟨[(0,.ref rc 0),(1,I (N : Int)),(5,.ms hp.length 0 (N + 1) 4096),(32,.ref (hp.length + 1) 0)],q.2⟩) (fun q => (∀ e ∈ q.1,e ∈ E) ∧ q.1.Nodup ∧ nthH q.2 hp.length = some (.cells (fnM (N + 1) fun k t => capM (gwR (pwN s.m.length) q.1 k t))) ∧ nthH q.2 (hp.length + 1) = some (.it m clk ((q.1.map (·.born)).reverse) clk) ∧ Agr hp q.2) (fun q => muE E ((q.1.map (·.born)).reverse)) ([],hp ++ [.cells (fnM (N + 1) fun k t => capM (gwR (pwN s.m.length) [] k t)),.it m clk [] clk]) ⟨fun e h => (by cases h),.nil,nthH_at (i := 0),nthH_at (i := 1),⟨by simp,fun j hj => nthH_front hj⟩⟩ rfl ?_
   rintro ⟨L,G⟩ ⟨d1,d2,d3,d4,d5⟩
   simp only at d1 d2 d3 d4 d5 ⊢
   have lA := nthH_lt d3
   have lI := nthH_lt d4
   have hbG := hb.agr d5
   refine hideK' fun K0 hK0 => ?_
   simp -implicitDefEqProofs (disch := omega) [wrap_id,xx_nxt]
   refine nxtU d4 hbG.gr (fun h => ?_) (fun q hq hS => ?_)
   · subst hK0
     have hperm : L.Perm E := perm_of d2 (hb.gr.brs.imp fun h e => h (by rw [e])) fun a => ⟨d1 a,fun ha => by
      have := h a ha
      rw [List.mem_reverse,List.mem_map] at this
      obtain ⟨x,hx,e⟩ := this
      rw [← born_inj hb.gr.brs (d1 x hx) ha e]; exact hx⟩
     have gt := fnM_get (N := N + 1) (f := fun k t => capM (gwR (pwN s.m.length) L k t)) (n := N) (i := allN s) (by omega) (by unfold allN; omega)
     have lM := fnM_len (N := N + 1) (f := fun k t => capM (gwR (pwN s.m.length) L k t))
     have bA : allN s < 4096 := by unfold allN; omega
     simp -implicitDefEqProofs (disch := omega) [wrap_id]
     refine aws_seq (aws_read ?_)
     simp -implicitDefEqProofs (disch := omega) [wrap_id]
     refine r_call (W64 (allN s)) (fun KK hKK => q_all_w hbG hm12 hKK) ?_
     simp -implicitDefEqProofs (disch := omega) [wrap_id,d3,ldr_some,gt,lM]
     refine ⟨by omega,by omega,aws_of ?_⟩
     exact ⟨d5,.inr rfl,hK L hperm⟩
   · have hk := hE q hq
     have nl : q ∉ L := fun h => hS (by rw [List.mem_reverse,List.mem_map]; exact ⟨q,h,rfl⟩)
     have l0 : 0 < q.rows.length := List.length_pos_iff.2 (hb.gr.ne q hq)
     have l1 := hb.gr.ln q hq
     have eS : (L.map (·.born)).reverse ++ [q.born] = ((q :: L).map (·.born)).reverse := by simp
     have mu := muE_lt hq hS
     rw [eS] at mu
     have lI2 : hp.length + 1 < G.length := lI
     have d3' : nthH (G.set (hp.length + 1) (.it m clk ((L.map (·.born)).reverse ++ [q.born]) clk)) hp.length = some (.cells (fnM (N + 1) fun k t => capM (gwR (pwN s.m.length) L k t))) := (nthH_set_ne (by omega)).trans d3
     have d4' : nthH (G.set (hp.length + 1) (.it m clk ((L.map (·.born)).reverse ++ [q.born]) clk)) (hp.length + 1) = some (.it m clk ((L.map (·.born)).reverse ++ [q.born]) clk) := nthH_set_same lI
     have d5' : Agr hp (G.set (hp.length + 1) (.it m clk ((L.map (·.born)).reverse ++ [q.born]) clk)) := ⟨by rw [List.length_set]; exact d5.1,fun j hj => (nthH_set_ne (by omega)).trans (d5.2 j hj)⟩
     simp -implicitDefEqProofs (disch := omega) [wrap_id,lI2,xx_ent]
     generalize G.set (hp.length + 1) (HObj.it m clk ((L.map fun x => x.born).reverse ++ [q.born]) clk) = G1 at d3' d4' d5' ⊢
     refine entU_of d4' (hb.agr d5').gr hq ?_
     rw [eS] at d4'
     simp -implicitDefEqProofs (disch := omega) [wrap_id]
     have e0 : (fnM (N + 1) fun k t => capM (gwR (pwN s.m.length) L k t)) = fnM (N + 1) fun k t => capM (gwL (pwN s.m.length) q L N 0 k t) := fnM_ext fun k t hk _ => by rw [gwL_start (by omega)]
     rw [e0] at d3'
     refine loop_eq (fun p : Nat × List HObj => ⟨[(0,.ref rc 0),(1,I (N : Int)),(5,.ms hp.length 0 (N + 1) 4096),(7,W64 q.key),(8,.ms q.id 0 q.rows.length 2),(9,I ((p.1 : Int) - 1)),(32,.ref (hp.length + 1) 0)],p.2⟩) (fun p => p.1 ≤ N ∧ nthH p.2 hp.length = some (.cells (fnM (N + 1) fun k t => capM (gwL (pwN s.m.length) q L p.1 0 k t))) ∧ nthH p.2 (hp.length + 1) = some (.it m clk (((q :: L).map (·.born)).reverse) clk) ∧ Agr hp p.2) (fun p => p.1) (N,G1) ⟨Nat.le_refl _,d3',d4',d5'⟩ rfl ?_
     rintro ⟨j,G2⟩ ⟨j1,j2,j3,j4⟩
     simp only at j1 j2 j3 j4 ⊢
     refine hideK' fun K1 hK1 => ?_
     simp -implicitDefEqProofs (disch := omega) [wrap_id]
     refine c_split (fun hc => ?_) (fun hc => ?_)
     · have j0 : 0 < j := by simp at hc; omega
       have jx : (j : Int) - 1 - 1 = ((j - 1 : Nat) : Int) - 1 := by omega
       have jy : (j : Int) - 1 = ((j - 1 : Nat) : Int) := by omega
       simp -implicitDefEqProofs (disch := omega) [wrap_id]
       refine loop_eq (fun p : Nat × List HObj => ⟨[(0,.ref rc 0),(1,I (N : Int)),(5,.ms hp.length 0 (N + 1) 4096),(7,W64 q.key),(8,.ms q.id 0 q.rows.length 2),(9,I ((j : Int) - 1)),(10,W64 p.1),(32,.ref (hp.length + 1) 0)],p.2⟩) (fun p => p.1 ≤ pwN s.m.length ∧ nthH p.2 hp.length = some (.cells (fnM (N + 1) fun k t => capM (gwL (pwN s.m.length) q L j p.1 k t))) ∧ nthH p.2 (hp.length + 1) = some (.it m clk (((q :: L).map (·.born)).reverse) clk) ∧ Agr hp p.2) (fun p => pwN s.m.length - p.1) (0,G2) ⟨Nat.zero_le _,j2,j3,j4⟩ rfl ?_
       rintro ⟨x,G3⟩ ⟨x1,x2,x3,x4⟩
       simp only at x1 x2 x3 x4 ⊢
       have lA3 := nthH_lt x2
       have hb3 := hb.agr x4
       refine hideK' fun K2 hK2 => ?_
       simp -implicitDefEqProofs (disch := omega) [wrap_id]
       refine q_all_w hb3 hm12 ?_
       simp -implicitDefEqProofs (disch := omega) [wrap_id,-b_leq,uw_leq]
       refine c_split (fun hc => ?_) (fun hc => ?_)
       · have hx : x < pwN s.m.length := by simp at hc; omega
         have gx := fnM_get (N := N + 1) (f := fun k t => capM (gwL (pwN s.m.length) q L j x k t)) (n := j - 1) (i := x) (by omega) (by omega)
         have lM := fnM_len (N := N + 1) (f := fun k t => capM (gwL (pwN s.m.length) q L j x k t))
         simp only [gwL_low j0] at gx
         have hor : orN x q.key < pwN s.m.length := Nat.or_lt_two_pow hx hk
         have gy := fnM_get (N := N + 1) (f := fun k t => capM (gwL (pwN s.m.length) q L j x k t)) (n := j) (i := orN x q.key) (by omega) (by omega)
         rw [jy]
         simp -implicitDefEqProofs (disch := omega) [wrap_id,x2,ldr_some,gx,lM]
         refine ⟨by omega,by omega,?_⟩
         have jz : ((j - 1 : Nat) : Int) + 1 = (j : Int) := by omega
         have kl := capM_le (x := gwR (pwN s.m.length) L (j - 1) x)
         have kl2 := capM_le (x := gwL (pwN s.m.length) q L j x j (orN x q.key))
         have kz := capM_zero (x := gwR (pwN s.m.length) L (j - 1) x)
         have kc := capM_mul (x := gwL (pwN s.m.length) q L j x j (orN x q.key)) (y := gwR (pwN s.m.length) L (j - 1) x) l0
         have st := gwL_step (M := pwN s.m.length) (e := q) (L := L) (j := j) (x := x) (k := j) (b := orN x q.key) j0
         rw [if_pos ⟨rfl,rfl⟩] at st
         rw [← st] at kc
         have oth : ∀ k t,¬ (k = j ∧ t = orN x q.key) → gwL (pwN s.m.length) q L j (x + 1) k t = gwL (pwN s.m.length) q L j x k t := fun k t h => by rw [gwL_step j0,if_neg h]; rfl
         generalize capM (gwR (pwN s.m.length) L (j - 1) x) = kk at *
         refine c_split (fun hc => ?_) (fun hc => ?_)
         · have k0 : 0 < kk := by simpa using hc
           have pl : kk * q.rows.length ≤ 1099511627777 * 10000 := Nat.mul_le_mul kl l1
           have pl2 : ((kk : Int) * (q.rows.length : Int)) = ((kk * q.rows.length : Nat) : Int) := by simp
           have cw := fun v => fnM_put (N := N + 1) (f := fun k t => capM (gwL (pwN s.m.length) q L j x k t)) (n := j) (i := orN x q.key) (v := v) (by omega) (by omega)
           generalize hgl : capM (gwL (pwN s.m.length) q L j x j (orN x q.key)) = vv at *
           simp -implicitDefEqProofs (disch := omega) [wrap_id,jz,-b_or,uw_or,x2,ldr_some,gy,lM,str_some,lA3]
           have em : min (1099511627777 : Int) ((vv : Int) + (kk : Int) * (q.rows.length : Int)) = ((capM (gwL (pwN s.m.length) q L j (x + 1) j (orN x q.key)) : Nat) : Int) := by
            rw [← kc,pl2]; omega
           have hj4 := Nat.mul_le_mul_right 4096 (show j + 1 ≤ N + 1 by omega)
           have wx : IntKind.u64.wrap ((x : Int) + 1) = ((x + 1 : Nat) : Int) := by rw [show ((x : Int) + 1) = ((x + 1 : Nat) : Int) by omega,wrap_u (by omega)]
           refine ⟨by omega,by omega,by omega,by omega,by omega,?_⟩
           rw [em,cw,wx,hK2]
           have gset : nthH (G3.set hp.length (.cells (fnM (N + 1) (updM (fun k t => capM (gwL (pwN s.m.length) q L j x k t)) j (orN x q.key) (capM (gwL (pwN s.m.length) q L j (x + 1) j (orN x q.key))))))) hp.length = some (.cells (fnM (N + 1) fun k t => capM (gwL (pwN s.m.length) q L j (x + 1) k t))) := by
            rw [nthH_set_same lA3]
            congr 2
            refine fnM_ext fun k t _ _ => ?_
            unfold updM
            by_cases e : k = j ∧ t = orN x q.key
            · rw [if_pos e,e.1,e.2]
            · rw [if_neg e,oth k t e]
           exact next_sub (x + 1,G3.set hp.length (.cells (fnM (N + 1) (updM (fun k t => capM (gwL (pwN s.m.length) q L j x k t)) j (orN x q.key) (capM (gwL (pwN s.m.length) q L j (x + 1) j (orN x q.key))))))) ⟨by simp only; omega,gset,(nthH_set_ne (by omega)).trans x3,⟨by rw [List.length_set]; exact x4.1,fun i hi => (nthH_set_ne (by omega)).trans (x4.2 i hi)⟩⟩ (by simp only; omega) rfl (by simp [jy])
         · have k0 : kk = 0 := by simp at hc; omega
           have g0 := kz.1 k0
           simp -implicitDefEqProofs (disch := omega) [wrap_id,-b_add,uw_inc]
           rw [hK2]
           refine next_sub (x + 1,G3) ⟨by simp only; omega,?_,x3,x4⟩ (by simp only; omega) rfl (by simp [jy])
           simp only
           rw [x2]
           congr 2
           refine fnM_ext fun k t _ _ => ?_
           rw [gwL_step j0,g0]
           simp
       · have hx : x = pwN s.m.length := by simp at hc; omega
         subst hx
         subst hK2
         simp -implicitDefEqProofs (disch := omega) [wrap_id]
         rw [hK1]
         refine next_eq (j - 1,G3) ⟨by simp only; omega,?_,x3,x4⟩ (by simp only; omega) (by simp only [jx])
         simp only
         rw [x2]
         congr 2
         exact fnM_ext fun k t _ _ => by rw [gwL_down j0]
     · have j0 : j = 0 := by simp at hc; omega
       subst j0
       subst hK1
       simp -implicitDefEqProofs (disch := omega) [wrap_id]
       rw [hK0]
       refine next_sub (q :: L,G2) ⟨fun e he => ?_,List.nodup_cons.2 ⟨nl,d2⟩,?_,j3,j4⟩ mu rfl (by simp)
       · rcases List.mem_cons.1 he with rfl | he
         · exact hq
         · exact d1 e he
       · simp only
         rw [j2]
         congr 2
         exact fnM_ext fun k t _ _ => by rw [gwL_end]
end Go.AM

namespace Go.AM
open Go.RowKit Go.Proofs
def RkR (s : SH) (R : List (Int × Int)) (had n t : Nat) : Prop := ∃ ks : List Nat,ks.length = n ∧ (∀ k ∈ ks,∃ r ∈ R,bitO s r = k) ∧ ks.foldl orN had = t
theorem rk_iff {s : SH} {hp m E clk} (hg : GrH hp m E clk) (ho : GOf s (allR s) E) {had n t : Nat} : Rk E had n t ↔ RkR s (allR s) had n t := by
 constructor
 · rintro ⟨ks,h1,h2,h3⟩
   exact ⟨ks,h1,fun k hk => by
    obtain ⟨e,he,rfl⟩ := h2 k hk
    exact key_of hg ho he,h3⟩
 · rintro ⟨ks,h1,h2,h3⟩
   exact ⟨ks,h1,fun k hk => by
    obtain ⟨r,hr,rfl⟩ := h2 k hk
    exact ho.all r hr,h3⟩
theorem foldl_bit {k : Nat} : ∀ {ks : List Nat} {had : Nat},(ks.foldl orN had).testBit k = (had.testBit k || ks.any fun x => x.testBit k)
 | [],had => by simp
 | x :: ks,had => by
   rw [List.foldl_cons,foldl_bit,orN_bit,List.any_cons,Bool.or_assoc]
theorem RkR_of_cw {s : SH} (hv : ValS s) {R : List (Int × Int)} {had n b : Nat} (hh : had < pwN s.m.length) (h : 0 < cw s R had R.length n b) : RkR s R had n b := by
 obtain ⟨J,⟨h0,h1⟩,h2,h3⟩ := (cw_pos hv hh).1 h
 refine ⟨J.map fun j => bitO s (R.getD j (0,0)),by simpa using h2,fun k hk => ?_,?_⟩
 · rw [List.mem_map] at hk
   obtain ⟨j,hj,rfl⟩ := hk
   exact ⟨R.getD j (0,0),by rw [getD_at (h1 j hj)]; exact List.getElem_mem _,rfl⟩
 · rw [List.foldl_map]; exact h3
theorem RkR.drop {s R had t} {A B : List Nat} {k : Nat} (h2 : ∀ x ∈ A ++ k :: B,∃ r ∈ R,bitO s r = x) (h3 : (A ++ k :: B).foldl orN had = t) (hk : k ∈ A ++ B) : RkR s R had (A ++ B).length t := by
 refine ⟨A ++ B,rfl,fun x hx => h2 x (by simp at hx ⊢; rcases hx with h | h <;> simp [h]),?_⟩
 rw [← h3]
 refine Nat.eq_of_testBit_eq fun i => ?_
 rw [foldl_bit,foldl_bit,Bool.eq_iff_iff]
 simp only [Bool.or_eq_true,List.any_eq_true,List.mem_append,List.mem_cons]
 constructor
 · rintro (h | ⟨x,h | h,h4⟩)
   · exact .inl h
   · exact .inr ⟨x,.inl h,h4⟩
   · exact .inr ⟨x,.inr (.inr h),h4⟩
 · rintro (h | ⟨x,h | h | h,h4⟩)
   · exact .inl h
   · exact .inr ⟨x,.inl h,h4⟩
   · subst h
     rw [List.mem_append] at hk
     exact .inr ⟨x,hk,h4⟩
   · exact .inr ⟨x,.inr h,h4⟩
theorem nodup_of_min {s R had n t} {ks : List Nat} (h1 : ks.length = n) (h2 : ∀ k ∈ ks,∃ r ∈ R,bitO s r = k) (h3 : ks.foldl orN had = t) (hm : ∀ k,k < n → ¬ RkR s R had k t) : ks.Nodup := by
 refine Classical.byContradiction fun hn => ?_
 have : ∃ A k B, ks = A ++ k :: B ∧ k ∈ A ++ B := by
  clear h1 h2 h3 hm
  induction ks with
  | nil => exact absurd List.nodup_nil hn
  | cons x ks ih =>
    by_cases hx : x ∈ ks
    · exact ⟨[],x,ks,rfl,by simpa using hx⟩
    · have : ¬ ks.Nodup := fun h => hn (List.nodup_cons.2 ⟨hx,h⟩)
      obtain ⟨A,k,B,rfl,hk⟩ := ih this
      exact ⟨x :: A,k,B,rfl,by simp at hk ⊢; exact .inr hk⟩
 obtain ⟨A,k,B,rfl,hk⟩ := this
 exact hm _ (by simp at h1 ⊢; omega) (RkR.drop h2 h3 hk)
theorem cw_of_RkR {s : SH} (hv : ValS s) {R : List (Int × Int)} {had n b : Nat} (hh : had < pwN s.m.length) (h : RkR s R had n b) (hm : ∀ k,k < n → ¬ RkR s R had k b) : 0 < cw s R had R.length n b := by
 obtain ⟨ks,h1,h2,h3⟩ := h
 have nd := nodup_of_min h1 h2 h3 hm
 have sel : ∀ k,∃ j,k ∈ ks → j < R.length ∧ bitO s (R.getD j (0,0)) = k := fun k => by
  by_cases hk : k ∈ ks
  · obtain ⟨r,hr,e⟩ := h2 k hk
    obtain ⟨j,hj,rfl⟩ := List.mem_iff_getElem.1 hr
    exact ⟨j,fun _ => ⟨hj,by rw [getD_at hj]; exact e⟩⟩
  · exact ⟨0,fun h => absurd h hk⟩
 have : ∃ f : Nat → Nat,∀ k ∈ ks,f k < R.length ∧ bitO s (R.getD (f k) (0,0)) = k := ⟨fun k => Classical.choose (sel k),fun k hk => Classical.choose_spec (sel k) hk⟩
 obtain ⟨f,hf⟩ := this
 let J := (List.range R.length).filter fun j => (ks.map f).contains j
 have hJ : ∀ j,j ∈ J ↔ j < R.length ∧ j ∈ ks.map f := fun j => by
  show j ∈ (List.range R.length).filter _ ↔ _
  rw [List.mem_filter,List.mem_range,List.contains_iff_mem]
 have pw : J.Pairwise (· < ·) := List.pairwise_lt_range.filter _
 have ndf : (ks.map f).Nodup := by
  have key : ∀ l : List Nat,(∀ k ∈ l,k ∈ ks) → l.Nodup → (l.map f).Nodup := by
   intro l
   induction l with
   | nil => intro _ _; exact List.nodup_nil
   | cons x l ih =>
     intro hs hn
     rw [List.nodup_cons] at hn
     rw [List.map_cons,List.nodup_cons]
     refine ⟨fun hx => ?_,ih (fun k hk => hs k (by simp [hk])) hn.2⟩
     rw [List.mem_map] at hx
     obtain ⟨y,hy,e⟩ := hx
     have a := (hf x (hs x (by simp))).2
     have b := (hf y (hs y (by simp [hy]))).2
     rw [e] at b
     have : x = y := by rw [← a,← b]
     subst this; exact hn.1 hy
  exact key ks (fun k h => h) nd
 have ndJ : J.Nodup := pw.imp fun h => by omega
 have perm : J.Perm (ks.map f) := perm_of ndJ ndf fun j => by
  rw [hJ]
  constructor
  · exact fun h => h.2
  · intro h
    have h' := h
    rw [List.mem_map] at h'
    obtain ⟨k,hk,rfl⟩ := h'
    exact ⟨(hf k hk).1,h⟩
 refine (cw_pos hv hh).2 ⟨J,⟨pw,fun j hj => ((hJ j).1 hj).1⟩,by rw [perm.length_eq,List.length_map]; exact h1,?_⟩
 rw [← h3]
 refine Nat.eq_of_testBit_eq fun i => ?_
 rw [orJ_bit,foldl_bit,Bool.eq_iff_iff]
 simp only [Bool.or_eq_true,List.any_eq_true]
 constructor
 · rintro (h | ⟨j,hj,h⟩)
   · exact .inl h
   · have := ((hJ j).1 hj).2
     rw [List.mem_map] at this
     obtain ⟨k,hk,rfl⟩ := this
     rw [(hf k hk).2] at h
     exact .inr ⟨k,hk,h⟩
 · rintro (h | ⟨k,hk,h⟩)
   · exact .inl h
   · exact .inr ⟨f k,(hJ _).2 ⟨(hf k hk).1,List.mem_map.2 ⟨k,hk,rfl⟩⟩,by rw [(hf k hk).2]; exact h⟩
theorem ansW_iff {s : SH} (hv : ValS s) {R : List (Int × Int)} {n : Nat} (h1 : RkR s R 0 n (allN s)) (hm : ∀ k,k < n → ¬ RkR s R 0 k (allN s)) (hn : n ≤ s.m.length) {n' c : Nat} (hW : AnsW s R n' c) : n' = n := by
 have w := pw_12 hv
 have hh : 0 < pwN s.m.length := by omega
 have n1 : 1 ≤ n := by
  refine Classical.byContradiction fun h => ?_
  have : n = 0 := by omega
  subst this
  obtain ⟨ks,a1,_,a3⟩ := h1
  rw [List.length_eq_zero_iff] at a1
  subst a1
  have : (0 : Nat) = allN s := a3
  unfold allN at this
  omega
 have p := cw_of_RkR hv hh h1 hm
 rcases hW with ⟨h3,_,_⟩ | ⟨h3,h4,h5,h6,_⟩
 · have := h3 n n1 hn
   unfold cwA allN at *
   omega
 · rcases Nat.lt_trichotomy n' n with h | h | h
   · exact absurd (RkR_of_cw hv hh h5) (hm n' h)
   · exact h
   · have := h6 n n1 h
     unfold cwA allN at *
     omega
theorem RkR.short {s R had t} (ht : t < 2 ^ 60) {n : Nat} (h : RkR s R had n t) : ∃ m,m ≤ n ∧ m ≤ cntN t ∧ RkR s R had m t := by
 let E : List GE := R.map fun r => ⟨bitO s r,0,0,[r]⟩
 have iff : ∀ {n},Rk E had n t ↔ RkR s R had n t := fun {n} => by
  constructor
  · rintro ⟨ks,a1,a2,a3⟩
    exact ⟨ks,a1,fun k hk => by
     obtain ⟨e,he,rfl⟩ := a2 k hk
     rw [List.mem_map] at he
     obtain ⟨r,hr,rfl⟩ := he
     exact ⟨r,hr,rfl⟩,a3⟩
  · rintro ⟨ks,a1,a2,a3⟩
    exact ⟨ks,a1,fun k hk => by
     obtain ⟨r,hr,rfl⟩ := a2 k hk
     exact ⟨_,List.mem_map.2 ⟨r,hr,rfl⟩,rfl⟩,a3⟩
 obtain ⟨m,h1,h2,h3⟩ := (iff.2 h).short ht
 exact ⟨m,h1,h2,iff.1 h3⟩
theorem cnt_all {s : SH} (hv : ValS s) : cntN (allN s) = s.m.length := by
 have hm := hv.m12
 unfold cntN bitL bitT allN pwN
 rw [List.length_map]
 have : (List.range 60).filter (fun k => (2 ^ s.m.length - 1).testBit k) = List.range s.m.length := by
  have e : (fun k => (2 ^ s.m.length - 1).testBit k) = fun k => decide (k < s.m.length) := by funext k; rw [Nat.testBit_two_pow_sub_one]
  rw [e]
  have : ∀ a b,a ≤ b → (List.range b).filter (fun k => decide (k < a)) = List.range a := fun a b h => by
   obtain ⟨d,rfl⟩ : ∃ d,b = a + d := ⟨b - a,by omega⟩
   induction d with
   | zero => rw [Nat.add_zero,List.filter_eq_self.2]; intro k hk; simpa using List.mem_range.1 hk
   | succ d ih => rw [show a + (d + 1) = a + d + 1 from rfl,List.range_succ,List.filter_append,ih (by omega)]; simp
  exact this _ _ (by omega)
 rw [this,List.length_range]
end Go.AM

namespace Go.AM
open Go.RowKit Go.Proofs
def wK : List Nat → Nat → (Nat → Nat) → Nat
 | [],n,φ => if n = 0 then φ 0 else 0
 | _ :: K,0,φ => wK K 0 φ
 | k :: K,n + 1,φ => wK K (n + 1) φ + wK K n (fun c => φ (orN c k))
def wG : List GE → Nat → (Nat → Nat) → Nat
 | [],n,φ => if n = 0 then φ 0 else 0
 | _ :: L,0,φ => wG L 0 φ
 | e :: L,n + 1,φ => wG L (n + 1) φ + e.rows.length * wG L n (fun c => φ (orN c e.key))
def is1 (b : Nat) : Nat → Nat := fun c => if c = b then 1 else 0
theorem wK_zero : ∀ {K : List Nat} {φ : Nat → Nat},wK K 0 φ = φ 0
 | [],φ => rfl
 | _ :: K,φ => wK_zero (K := K)
theorem wG_zero : ∀ {L : List GE} {φ : Nat → Nat},wG L 0 φ = φ 0
 | [],φ => rfl
 | _ :: L,φ => wG_zero (L := L)
theorem sK_congr {f g : Nat → Nat} : ∀ {k : Nat},(∀ c,c < k → f c = g c) → sK f k = sK g k
 | 0,_ => rfl
 | k + 1,h => by simp only [sK]; rw [sK_congr fun c hc => h c (by omega),h k (by omega)]
theorem sK_zero : ∀ {k : Nat},sK (fun _ => 0) k = 0
 | 0 => rfl
 | k + 1 => by simp only [sK]; rw [sK_zero]
theorem sK_one {φ : Nat → Nat} {x : Nat} : ∀ {k : Nat},x < k → sK (fun c => φ c * is1 c x) k = φ x
 | 0,h => by omega
 | k + 1, h => by
   simp only [sK]
   by_cases e : x = k
   · subst e
     rw [sK_congr (g := fun _ => 0) fun c hc => by unfold is1; rw [if_neg (by omega),Nat.mul_zero],sK_zero]
     unfold is1; rw [if_pos rfl]; omega
   · rw [sK_one (k := k) (by omega)]
     unfold is1; rw [if_neg e]; omega
theorem sK_add {f g : Nat → Nat} : ∀ {k : Nat},sK (fun c => f c + g c) k = sK f k + sK g k
 | 0 => rfl
 | k + 1 => by simp only [sK]; rw [sK_add]; omega
theorem sK_mul {f : Nat → Nat} {a : Nat} : ∀ {k : Nat},sK (fun c => a * f c) k = a * sK f k
 | 0 => rfl
 | k + 1 => by simp only [sK]; rw [sK_mul,Nat.mul_add]
theorem sK_lin {φ : Nat → Nat} {M : Nat} : ∀ {K : List Nat} {n : Nat},(∀ x y,x < M → y ∈ K → orN x y < M) → 0 < M → wK K n φ = sK (fun c => φ c * wK K n (is1 c)) M
 | [],n,_,h0 => by
   unfold wK
   by_cases hn : n = 0
   · simp only [if_pos hn]; exact (sK_one h0).symm
   · simp only [if_neg hn,Nat.mul_zero]; rw [sK_zero]
 | k :: K,0,h,h0 => by
   show wK K 0 φ = _
   rw [wK_zero]
   rw [sK_congr (g := fun c => φ c * is1 c 0) fun c _ => by rw [wK_zero]]
   exact (sK_one h0).symm
 | k :: K,n + 1,h,h0 => by
   have hK : ∀ x y,x < M → y ∈ K → orN x y < M := fun x y h1 h2 => h x y h1 (by simp [h2])
   show wK K (n + 1) φ + wK K n (fun c => φ (orN c k)) = sK (fun c => φ c * (wK K (n + 1) (is1 c) + wK K n (fun d => is1 c (orN d k)))) M
   rw [sK_lin (K := K) (n := n + 1) hK h0,sK_lin (K := K) (n := n) hK h0]
   rw [sK_congr (f := fun c => φ c * (wK K (n + 1) (is1 c) + wK K n (fun d => is1 c (orN d k)))) (g := fun c => φ c * wK K (n + 1) (is1 c) + φ c * wK K n (fun d => is1 c (orN d k))) fun c _ => Nat.mul_add _ _ _,sK_add]
   congr 1
   rw [sK_congr (f := fun c => φ c * wK K n (fun d => is1 c (orN d k))) (g := fun c => sK (fun d => (φ c * is1 c (orN d k)) * wK K n (is1 d)) M) fun c _ => by
    rw [sK_lin (K := K) (n := n) (φ := fun d => is1 c (orN d k)) hK h0,← sK_mul]
    exact sK_congr fun d _ => by rw [Nat.mul_assoc]]
   rw [sK_swap]
   exact sK_congr fun d hd => by
    have : orN d k < M := h d k hd (by simp)
    rw [sK_congr (g := fun c => wK K n (is1 d) * (φ c * is1 c (orN d k))) fun c _ => Nat.mul_comm _ _,sK_mul,sK_one this,Nat.mul_comm]
where sK_swap {f : Nat → Nat → Nat} {M : Nat} : ∀ {N : Nat},sK (fun c => sK (fun d => f c d) M) N = sK (fun d => sK (fun c => f c d) N) M
 | 0 => by simp only [sK]; exact sK_zero.symm
 | N + 1 => by
   simp only [sK]
   rw [sK_swap (N := N),← sK_add]
theorem wG_lin {φ : Nat → Nat} {M : Nat} : ∀ {L : List GE} {n : Nat},(∀ x e,x < M → e ∈ L → orN x e.key < M) → 0 < M → wG L n φ = sK (fun c => φ c * wG L n (is1 c)) M
 | [],n,_,h0 => by
   unfold wG
   by_cases hn : n = 0
   · simp only [if_pos hn]; exact (sK_one h0).symm
   · simp only [if_neg hn,Nat.mul_zero]; rw [sK_zero]
 | k :: K,0,h,h0 => by
   show wG K 0 φ = _
   rw [wG_zero]
   rw [sK_congr (g := fun c => φ c * is1 c 0) fun c _ => by rw [wG_zero]]
   exact (sK_one h0).symm
 | k :: K,n + 1,h,h0 => by
   have hK : ∀ x y,x < M → y ∈ K → orN x y.key < M := fun x y h1 h2 => h x y h1 (by simp [h2])
   show wG K (n + 1) φ + k.rows.length * wG K n (fun c => φ (orN c k.key)) = sK (fun c => φ c * (wG K (n + 1) (is1 c) + k.rows.length * wG K n (fun d => is1 c (orN d k.key)))) M
   rw [wG_lin (L := K) (n := n + 1) hK h0,wG_lin (L := K) (n := n) hK h0]
   rw [sK_congr (f := fun c => φ c * (wG K (n + 1) (is1 c) + k.rows.length * wG K n (fun d => is1 c (orN d k.key)))) (g := fun c => φ c * wG K (n + 1) (is1 c) + k.rows.length * (φ c * wG K n (fun d => is1 c (orN d k.key)))) fun c _ => by rw [Nat.mul_add,Nat.mul_left_comm],sK_add,sK_mul]
   congr 2
   rw [sK_congr (f := fun c => φ c * wG K n (fun d => is1 c (orN d k.key))) (g := fun c => sK (fun d => (φ c * is1 c (orN d k.key)) * wG K n (is1 d)) M) fun c _ => by
    rw [wG_lin (L := K) (n := n) (φ := fun d => is1 c (orN d k.key)) hK h0,← sK_mul]
    exact sK_congr fun d _ => by rw [Nat.mul_assoc]]
   rw [sK_lin.sK_swap]
   exact sK_congr fun d hd => by
    have : orN d k.key < M := h d k hd (by simp)
    rw [sK_congr (g := fun c => wG K n (is1 d) * (φ c * is1 c (orN d k.key))) fun c _ => Nat.mul_comm _ _,sK_mul,sK_one this,Nat.mul_comm]
theorem gwR_wG {M : Nat} : ∀ {L : List GE} {n b : Nat},(∀ x e,x < M → e ∈ L → orN x e.key < M) → 0 < M → gwR M L n b = wG L n (is1 b)
 | [],n,b,_,_ => by
   unfold gwR wG is1
   by_cases hn : n = 0
   · by_cases hb : b = 0
     · rw [if_pos ⟨hn,hb⟩,if_pos hn,if_pos hb.symm]
     · rw [if_neg (fun h => hb h.2),if_pos hn,if_neg (fun h => hb h.symm)]
   · rw [if_neg (fun h => hn h.1),if_neg hn]
 | e :: L,0,b,h,h0 => by
   show gwR M L 0 b = wG L 0 _
   exact gwR_wG (fun x e h1 h2 => h x e h1 (by simp [h2])) h0
 | e :: L,n + 1,b,h,h0 => by
   have hL : ∀ x y,x < M → y ∈ L → orN x y.key < M := fun x y h1 h2 => h x y h1 (by simp [h2])
   show gwR M L (n + 1) b + e.rows.length * sK _ M = wG L (n + 1) _ + e.rows.length * wG L n _
   rw [gwR_wG hL h0,wG_lin (φ := fun c => is1 b (orN c e.key)) hL h0]
   congr 2
   exact sK_congr fun c _ => by
    unfold is1
    by_cases h1 : orN c e.key = b
    · rw [if_pos h1,if_pos h1,Nat.one_mul,gwR_wG hL h0]; rfl
    · rw [if_neg h1,if_neg h1,Nat.zero_mul]
theorem cw_wK {s : SH} {R : List (Int × Int)} (hM : ∀ r,bitO s r < pwN s.m.length) (h0 : 0 < pwN s.m.length) : ∀ {i n b : Nat},cw s R 0 i n b = wK (((List.range i).map fun j => bitO s (R.getD j (0,0))).reverse) n (is1 b)
 | 0,n,b => by
   unfold cw
   simp only [List.range_zero,List.map_nil,List.reverse_nil,wK,is1]
   by_cases hn : n = 0
   · by_cases hb : b = 0
     · rw [if_pos ⟨hn,hb⟩,if_pos hn,if_pos hb.symm]
     · rw [if_neg (fun h => hb h.2),if_pos hn,if_neg (fun h => hb h.symm)]
   · rw [if_neg (fun h => hn h.1),if_neg hn]
 | i + 1,0,b => by
   rw [List.range_succ,List.map_append,List.reverse_append]
   show cw s R 0 i 0 b = wK (((List.range i).map _).reverse) 0 _
   exact cw_wK hM h0
 | i + 1,n + 1,b => by
   rw [List.range_succ,List.map_append,List.reverse_append]
   have hK : ∀ x y,x < pwN s.m.length → y ∈ ((List.range i).map fun j => bitO s (R.getD j (0,0))).reverse → orN x y < pwN s.m.length := fun x y h1 h2 => by
    rw [List.mem_reverse,List.mem_map] at h2
    obtain ⟨j,_,rfl⟩ := h2
    exact Nat.or_lt_two_pow h1 (hM _)
   show cw s R 0 i (n + 1) b + sK _ _ = wK (((List.range i).map _).reverse) (n + 1) _ + wK (((List.range i).map _).reverse) n _
   rw [cw_wK hM h0,sK_lin (φ := fun c => is1 b (orN c (bitO s (R.getD i (0,0))))) hK h0]
   congr 1
   exact sK_congr fun c _ => by
    unfold is1
    by_cases h1 : orN c (bitO s (R.getD i (0,0))) = b
    · rw [if_pos h1,if_pos h1,Nat.one_mul,cw_wK hM h0]; rfl
    · rw [if_neg h1,if_neg h1,Nat.zero_mul]
theorem wK_perm {K K' : List Nat} (h : K.Perm K') : ∀ {n : Nat} {φ : Nat → Nat},wK K n φ = wK K' n φ := by
 induction h with
 | nil => intros; rfl
 | cons x _ ih =>
   intro n φ
   cases n with
   | zero => exact ih
   | succ n => show wK _ _ _ + wK _ _ _ = wK _ _ _ + wK _ _ _; rw [ih,ih]
 | swap x y l =>
   intro n φ
   match n with
   | 0 => rfl
   | 1 =>
     show wK l 1 _ + wK l 0 _ + wK l 0 _ = wK l 1 _ + wK l 0 _ + wK l 0 _
     omega
   | n + 2 =>
     show wK l (n + 2) φ + wK l (n + 1) (fun c => φ (orN c x)) + (wK l (n + 1) (fun c => φ (orN c y)) + wK l n (fun c => φ (orN (orN c x) y))) = wK l (n + 2) φ + wK l (n + 1) (fun c => φ (orN c y)) + (wK l (n + 1) (fun c => φ (orN c x)) + wK l n (fun c => φ (orN (orN c y) x)))
     have : (fun c => φ (orN (orN c x) y)) = fun c => φ (orN (orN c y) x) := by
      funext c
      congr 1
      refine Nat.eq_of_testBit_eq fun i => ?_
      simp only [orN_bit]
      cases c.testBit i <;> cases x.testBit i <;> cases y.testBit i <;> rfl
     rw [this]; omega
 | trans _ _ ih1 ih2 => intro n φ; rw [ih1,ih2]
theorem orN_twice {c k : Nat} : orN (orN c k) k = orN c k := by
 refine Nat.eq_of_testBit_eq fun i => ?_
 simp only [orN_bit]
 cases c.testBit i <;> cases k.testBit i <;> rfl
theorem wK_rep0 {k : Nat} {K : List Nat} {ψ : Nat → Nat} (hψ : ∀ c,ψ (orN c k) = ψ c) : ∀ {r n : Nat},(∀ n',n' < n → wK K n' ψ = 0) → wK (List.replicate r k ++ K) n ψ = wK K n ψ
 | 0,n,_ => rfl
 | r + 1,0,_ => by rw [wK_zero,wK_zero]
 | r + 1,n + 1,h => by
   show wK (List.replicate r k ++ K) (n + 1) ψ + wK (List.replicate r k ++ K) n (fun c => ψ (orN c k)) = _
   rw [show (fun c => ψ (orN c k)) = ψ from funext hψ,wK_rep0 hψ h,wK_rep0 hψ fun n' hn => h n' (by omega),h n (by omega),Nat.add_zero]
theorem wK_rep {k : Nat} {K : List Nat} {φ : Nat → Nat} {n : Nat} : ∀ {r : Nat},(0 < r → ∀ n',n' < n → wK K n' (fun c => φ (orN c k)) = 0) → wK (List.replicate r k ++ K) (n + 1) φ = wK K (n + 1) φ + r * wK K n (fun c => φ (orN c k))
 | 0,_ => by simp
 | r + 1,h => by
   show wK (List.replicate r k ++ K) (n + 1) φ + wK (List.replicate r k ++ K) n (fun c => φ (orN c k)) = _
   rw [wK_rep (fun h0 => h (by omega)),wK_rep0 (fun c => by rw [orN_twice]) (h (by omega)),Nat.add_mul]
   omega
theorem wK_more {K : List Nat} : ∀ {A : List Nat} {n : Nat} {φ : Nat → Nat},wK K n φ ≤ wK (A ++ K) n φ
 | [],n,φ => Nat.le_refl _
 | a :: A,0,φ => by rw [wK_zero,wK_zero]; exact Nat.le_refl _
 | a :: A,n + 1,φ => by
   have := wK_more (K := K) (A := A) (n := n + 1) (φ := φ)
   show _ ≤ wK (A ++ K) (n + 1) φ + wK (A ++ K) n _
   omega
def flatK (L : List GE) : List Nat := L.flatMap fun e => List.replicate e.rows.length e.key
theorem wG_flat : ∀ {L : List GE} {n : Nat} {φ : Nat → Nat},(∀ n',n' < n → wK (flatK L) n' φ = 0) → wG L n φ = wK (flatK L) n φ
 | [],n,φ,_ => rfl
 | e :: L,0,φ,_ => by rw [wG_zero,wK_zero]
 | e :: L, n + 1, φ, h => by
   have ef : flatK (e :: L) = List.replicate e.rows.length e.key ++ flatK L := rfl
   rw [ef] at h ⊢
   have h1 : ∀ n',n' < n + 1 → wK (flatK L) n' φ = 0 := fun n' hn => by
    have := h n' hn
    have := wK_more (K := flatK L) (A := List.replicate e.rows.length e.key) (n := n') (φ := φ)
    omega
   have h2 : 0 < e.rows.length → ∀ n',n' < n → wK (flatK L) n' (fun c => φ (orN c e.key)) = 0 := fun hr n' hn => by
    obtain ⟨r,hr2⟩ : ∃ r,e.rows.length = r + 1 := ⟨e.rows.length - 1,by omega⟩
    have a := h (n' + 1) (by omega)
    rw [hr2] at a
    have a : wK (List.replicate r e.key ++ flatK L) (n' + 1) φ + wK (List.replicate r e.key ++ flatK L) n' (fun c => φ (orN c e.key)) = 0 := a
    have b := wK_more (K := flatK L) (A := List.replicate r e.key) (n := n') (φ := fun c => φ (orN c e.key))
    omega
   show wG L (n + 1) φ + e.rows.length * wG L n (fun c => φ (orN c e.key)) = _
   rw [wG_flat h1,wK_rep h2]
   by_cases hr : 0 < e.rows.length
   · rw [wG_flat (h2 hr)]
   · have : e.rows.length = 0 := by omega
     rw [this,Nat.zero_mul,Nat.zero_mul]
theorem parts_perm {α : Type} (h : α → Nat) : ∀ {ks : List Nat} {L : List α},ks.Nodup → (∀ r ∈ L,h r ∈ ks) → (ks.flatMap fun k => L.filter fun r => decide (h r = k)).Perm L
 | [],L,_,hL => by
   have : L = [] := List.eq_nil_iff_forall_not_mem.2 fun a ha => by have := hL a ha; cases this
   subst this; exact .refl _
 | k :: ks, L, hn, hL => by
   rw [List.nodup_cons] at hn
   rw [List.flatMap_cons]
   have e : (ks.flatMap fun k' => L.filter fun r => decide (h r = k')) = ks.flatMap fun k' => (L.filter fun r => !decide (h r = k)).filter fun r => decide (h r = k') := by
    have : ∀ l : List Nat, (∀ x ∈ l, x ≠ k) → (l.flatMap fun k' => L.filter fun r => decide (h r = k')) = l.flatMap fun k' => (L.filter fun r => !decide (h r = k)).filter fun r => decide (h r = k') := fun l => by
     induction l with
     | nil => intro _; rfl
     | cons a l ih =>
       intro ha
       rw [List.flatMap_cons,List.flatMap_cons,ih fun x hx => ha x (by simp [hx]),List.filter_filter]
       congr 1
       refine List.filter_congr fun r _ => ?_
       by_cases h1 : h r = a
       · have := ha a (by simp)
         simp [h1,this]
       · simp [h1]
    exact this ks fun x hx e1 => hn.1 (e1 ▸ hx)
   rw [e]
   have := parts_perm h (ks := ks) (L := L.filter fun r => !decide (h r = k)) hn.2 fun r hr => by
    rw [List.mem_filter] at hr
    have := hL r hr.1
    rcases List.mem_cons.1 this with h1 | h1
    · simp [h1] at hr
    · exact h1
   exact (this.append_left _).trans (List.filter_append_perm _ _)
theorem gw_cw {s : SH} (hv : ValS s) {hp m E clk} (hg : GrH hp m E clk) (ho : GOf s (allR s) E) {L : List GE} (hp : L.Perm E) {n b : Nat} (hm : ∀ k,k < n → ¬ RkR s (allR s) 0 k b) :
 gwR (pwN s.m.length) L n b = cw s (allR s) 0 (allR s).length n b := by
 have w := pw_12 hv
 have h0 : 0 < pwN s.m.length := by omega
 have bs : ∀ r,bitO s r < pwN s.m.length := fun r => bitO_small hv r
 have kL : ∀ x e,x < pwN s.m.length → e ∈ L → orN x e.key < pwN s.m.length := fun x e h1 h2 => by
  obtain ⟨r,_,h3⟩ := key_of hg ho (hp.mem_iff.1 h2)
  exact Nat.or_lt_two_pow h1 (by rw [← h3]; exact bs r)
 have pm : (flatK L).Perm (((List.range (allR s).length).map fun j => bitO s ((allR s).getD j (0,0))).reverse) := by
  have e1 : ((List.range (allR s).length).map fun j => bitO s ((allR s).getD j (0,0))) = (allR s).map fun r => bitO s r := by
   refine List.ext_getElem (by simp) fun i h1 h2 => ?_
   rw [List.length_map] at h2
   simp only [List.getElem_map,List.getElem_range]
   rw [getD_at h2]
  rw [e1]
  refine List.Perm.trans ?_ (List.reverse_perm _).symm
  have nd : (E.map fun e => e.key).Nodup := List.pairwise_map.2 hg.key
  have p1 := (parts_perm (fun r => bitO s r) (L := allR s) nd fun r hr => by
   obtain ⟨e,he,h1⟩ := ho.all r hr
   exact List.mem_map.2 ⟨e,he,h1⟩).map fun r => bitO s r
  refine List.Perm.trans ?_ p1
  rw [List.map_flatMap,List.flatMap_map]
  refine (List.Perm.flatMap_right _ hp).trans ?_
  have : ∀ l : List GE,(∀ e ∈ l,e ∈ E) → (l.flatMap fun e => List.replicate e.rows.length e.key) = l.flatMap fun e => ((allR s).filter fun r => decide (bitO s r = e.key)).map fun r => bitO s r := fun l => by
   induction l with
   | nil => intro _; rfl
   | cons a l ih =>
     intro h
     rw [List.flatMap_cons,List.flatMap_cons,ih fun e he => h e (by simp [he]),← ho.rows a (h a (by simp))]
     congr 1
     symm
     rw [List.eq_replicate_iff]
     refine ⟨by simp,fun x hx => ?_⟩
     rw [List.mem_map] at hx
     obtain ⟨r,hr,rfl⟩ := hx
     rw [ho.rows a (h a (by simp)),List.mem_filter] at hr
     exact of_decide_eq_true hr.2
  rw [this E fun e h => h]
 rw [gwR_wG kL h0,cw_wK bs h0,← wK_perm pm]
 refine wG_flat fun n' hn => ?_
 rw [wK_perm pm,← cw_wK bs h0]
 refine Classical.byContradiction fun hne => hm n' hn (RkR_of_cw hv h0 (by omega))
end Go.AM

namespace Go.AM
open Go.RowKit Go.Proofs
def rstK (s : SH) (r : Int × Int) : List (Int × Int) := (allR s).filter fun x => !decide (x = r)
def AnsKd (s : SH) (r : Int × Int) (k e : Int) : Prop :=
 (shtE s ≠ 0 ∧ k = 0 ∧ e = shtE s) ∨ (shtE s = 0 ∧ ((isK s r.1 = false ∧ k = 0 ∧ e = 2) ∨ (isK s r.1 = true ∧ ((lostL s ≠ [] ∧ k = 0 ∧ e = 19) ∨ (lostL s = [] ∧ ((bitO s r = 0 ∧ k = 0 ∧ e = 0) ∨ (bitO s r ≠ 0 ∧ e = 0 ∧ ∃ n c m d,AnsW s (allR s) n c ∧ AnsW s (rstK s r) m d ∧ ((m ≠ n ∧ k = 2) ∨ (m = n ∧ 0 < cwA s (rstK s r) (bitO s r) (n - 1) ∧ k = 1) ∨ (m = n ∧ cwA s (rstK s r) (bitO s r) (n - 1) = 0 ∧ k = 0)))))))))
end Go.AM

namespace Go.AM
open Go.RowKit Go.Proofs
theorem foldl_or_le {s : SH} {R : List (Int × Int)} : (R.map fun r => bitO s r).foldl orN 0 = allB s R := by
 refine Nat.eq_of_testBit_eq fun i => ?_
 rw [foldl_bit,orT_bit,Nat.zero_testBit,Bool.false_or,List.any_map]; rfl
theorem few_fit {s : SH} (hv : ValS s) (hL : lostL s = []) {hp m E clk} (hg : GrH hp m E clk) (ho : GOf s (allR s) E) {F : Nat → Nat} (hF : FewOK E 0 F) :
 RkR s (allR s) 0 (F (allN s)) (allN s) ∧ (∀ k,k < F (allN s) → ¬ RkR s (allR s) 0 k (allN s)) ∧ F (allN s) ≤ s.m.length := by
 have w := pw_12 hv
 have lt : allN s < 4096 := by unfold allN; omega
 have hx : RkR s (allR s) 0 (allR s).length (allN s) := ⟨(allR s).map fun r => bitO s r,by simp,fun k hk => by
  rw [List.mem_map] at hk
  obtain ⟨r,hr,rfl⟩ := hk
  exact ⟨r,hr,rfl⟩,by rw [foldl_or_le,(lost_nil hv).1 hL]⟩
 obtain ⟨n,h1,h2,h3⟩ := hx.short (by omega)
 rw [cnt_all hv] at h2
 rcases hF _ lt with ⟨_,h4⟩ | ⟨_,h5,h6⟩
 · exact absurd ((rk_iff hg ho).2 h3) (h4 n)
 · refine ⟨(rk_iff hg ho).1 h5,fun k hk hr => ?_,?_⟩
   · have := h6 k ((rk_iff hg ho).2 hr); omega
   · have := h6 n ((rk_iff hg ho).2 h3); omega
theorem key_lt {s : SH} (hv : ValS s) {hp m E clk} (hg : GrH hp m E clk) (ho : GOf s (allR s) E) : ∀ e ∈ E,e.key < pwN s.m.length := fun e he => by
 obtain ⟨r,_,h⟩ := key_of hg ho he
 rw [← h]; exact bitO_small hv r
set_option maxHeartbeats 2000000 in
theorem k_Count_ok (f g : Bool) (s : SH) (hz : SzS s) {v e : Int} (hA : AnsCt s v e) : PureOK Tryz.prog n_k_Count [Sn f g s] (.tup [I v,I e]) := by
 refine pure_of (callW_aws func_k_Count form_k_Count res_k_Count (by show 1 ≤ _; decide) ?_)
 simp only [G_k_Count]
 refine aws_step ?_
 simp -implicitDefEqProofs (disch := omega) [wrap_id]
 refine aws_step ?_
 simp -implicitDefEqProofs (disch := omega) [wrap_id]
 refine k_whole_w (h := true) (cs := []) hz (by simp) (mpp_list rfl) (fun h0 H ha hm => ?_) (fun hw h0 hL H rc m E clk ha hm hlen hb hof => ?_)
 · have h0' : (whE s [] != 0) = true := by simp [h0]
   obtain ⟨rfl,rfl⟩ : v = 0 ∧ e = whE s [] := by
    unfold whE at h0 ⊢
    rcases hA with ⟨h1,h2,h3⟩ | ⟨h1,⟨h2,h3,h4⟩ | ⟨h2,_⟩⟩
    · rw [if_pos h1]; exact ⟨h2,h3⟩
    · rw [if_neg (by omega),if_neg (by simp),if_pos h2]; exact ⟨h3,h4⟩
    · rw [if_neg (by omega),if_neg (by simp),if_neg (by simp [h2])] at h0; exact absurd rfl h0
   simp -implicitDefEqProofs (disch := omega) [wrap_id]
   refine aws_step ?_
   simp -implicitDefEqProofs (disch := omega) [wrap_id,h0']
   exact out_of (is := []) rfl
 · have hv := val_of h0
   have w := pw_12 hv
   obtain ⟨F,hF⟩ := fewOK_ex E 0
   obtain ⟨q1,q2,q3⟩ := few_fit hv hL hb.gr hof hF
   have hm12 := hv.m12
   have hE := key_lt hv hb.gr hof
   have lt : allN s < 4096 := by unfold allN; omega
   have gt := fnA_get (f := F) lt
   have lF := fnA_len (f := F)
   have hcap := capM_le (x := cwA s (allR s) 0 (F (allN s)))
   simp -implicitDefEqProofs (disch := omega) [wrap_id]
   refine aws_step ?_
   simp -implicitDefEqProofs (disch := omega) [wrap_id]
   refine aws_seq (aws_read ?_)
   simp -implicitDefEqProofs (disch := omega) [wrap_id]
   refine r_call (.ptr (fnA F) 0) (fun KK hKK => q_few_w (had := 0) hv hm hb hE (by omega) hF hKK) ?_
   simp -implicitDefEqProofs (disch := omega) [wrap_id]
   refine r_call (W64 (allN s)) (fun KK hKK => q_all_w hb hm12 hKK) ?_
   simp -implicitDefEqProofs (disch := omega) [wrap_id]
   refine ⟨by omega,?_⟩
   rw [gt]
   simp -implicitDefEqProofs (disch := omega) [wrap_id]
   refine r_call (I (capM (cwA s (allR s) 0 (F (allN s))) : Nat)) (fun KK hKK => q_count_w hv hm hb hE (N := F (allN s)) (by omega) fun L hp => ?_) ?_
   · rw [gw_cw hv hb.gr hof hp q2]; exact hKK
   simp -implicitDefEqProofs (disch := omega) [wrap_id]
   refine aws_step ?_
   simp -implicitDefEqProofs (disch := omega) [wrap_id]
   rcases hA with ⟨h1,_⟩ | ⟨_,⟨h2,_⟩ | ⟨_,n,c,hW,hA⟩⟩
   · exact absurd h0 h1
   · exact absurd hL h2
   have en := ansW_iff hv q1 q2 q3 hW
   have ec : c = capM (cwA s (allR s) 0 (F (allN s))) := by
    rw [← en]
    rcases hW with ⟨h3,h4,h5⟩ | ⟨h3,h4,h5,h6,h7⟩
    · have := (ansW_pos h0 hL (.inl ⟨h3,h4,h5⟩)).1; omega
    · exact h7
   subst ec
   refine c_split (fun hc => ?_) (fun hc => ?_)
   · have hc : (1099511627776 : Int) < ((capM (cwA s (allR s) 0 (F (allN s))) : Nat) : Int) := by simpa using hc
     rcases hA with ⟨h1,rfl,rfl⟩ | ⟨h1,_⟩
     · simp -implicitDefEqProofs (disch := omega) [wrap_id]
       exact out_of (is := []) rfl
     · omega
   · have hc : ¬ (1099511627776 : Int) < ((capM (cwA s (allR s) 0 (F (allN s))) : Nat) : Int) := by simpa using hc
     rcases hA with ⟨h1,_⟩ | ⟨h1,rfl,rfl⟩
     · omega
     · simp -implicitDefEqProofs (disch := omega) [wrap_id]
       refine aws_step ?_
       simp -implicitDefEqProofs (disch := omega) [wrap_id]
       refine aws_of ?_
       simp -implicitDefEqProofs (disch := omega) [wrap_id]
       exact out_of (is := []) rfl
end Go.AM

namespace Go.AM
open Go.RowKit Go.Proofs
theorem mem_allR {s : SH} {r : Int × Int} (hk : isK s r.1 = true) (hb : bitO s r ≠ 0) : r ∈ allR s := by
 obtain ⟨c,a⟩ := r
 unfold isK at hk
 simp only [Bool.and_eq_true,decide_eq_true_eq] at hk
 obtain ⟨c',rfl⟩ : ∃ c' : Nat,c = (c' : Int) := ⟨c.toNat,by omega⟩
 have ha : 0 ≤ a ∧ a ≤ 500 := by
  refine Classical.byContradiction fun h => hb ?_
  unfold bitO
  rw [if_pos (by simp only; omega)]
 obtain ⟨a',rfl⟩ : ∃ a' : Nat,a = (a' : Int) := ⟨a.toNat,by omega⟩
 unfold allR rwsK
 rw [List.mem_flatMap]
 refine ⟨c',List.mem_range.2 (by omega),?_⟩
 unfold rowOf plcT
 rw [List.mem_map]
 refine ⟨_,List.mem_map.2 ⟨a',List.mem_filter.2 ⟨List.mem_range.2 (by omega),by simpa using hb⟩,rfl⟩,rfl⟩
theorem nodup_rowOf {s : SH} {c : Nat} : (rowOf s c).Nodup := by
 unfold rowOf plcT
 rw [List.map_map]
 have : ((List.range 501).filter fun k : Nat => decide (bitO s ((c : Int),(k : Int)) ≠ 0)).Nodup := List.nodup_range.filter _
 refine List.pairwise_map.2 (this.imp fun h e => h ?_)
 simp only [Function.comp,Prod.mk.injEq] at e
 omega
theorem nodup_rws {s : SH} : ∀ {n : Nat},(rwsK s n).Nodup ∧ ∀ r ∈ rwsK s n,r.1 < (n : Int)
 | 0 => ⟨List.nodup_nil,fun r h => by cases h⟩
 | n + 1 => by
   obtain ⟨h1,h2⟩ := nodup_rws (s := s) (n := n)
   have h3 : ∀ r ∈ rowOf s n,r.1 = (n : Int) := fun r hr => by
    unfold rowOf at hr
    obtain ⟨a,_,rfl⟩ := List.mem_map.1 hr
    rfl
   rw [rwsK_succ]
   refine ⟨List.nodup_append.2 ⟨h1,nodup_rowOf,fun a ha b hb e => ?_⟩,fun r hr => ?_⟩
   · subst e
     have := h2 a ha
     have := h3 a hb
     omega
   · rcases List.mem_append.1 hr with h | h
     · have := h2 r h; omega
     · have := h3 r h; omega
theorem nodup_allR {s : SH} : (allR s).Nodup := nodup_rws.1
theorem RkR.sub {s R R' had n t} (h : RkR s R had n t) (hs : ∀ r ∈ R,∃ r' ∈ R',bitO s r' = bitO s r) : RkR s R' had n t := by
 obtain ⟨ks,h1,h2,h3⟩ := h
 exact ⟨ks,h1,fun k hk => by
  obtain ⟨r,hr,rfl⟩ := h2 k hk
  exact hs r hr,h3⟩
theorem rst_sub {s : SH} {r : Int × Int} : ∀ x ∈ rstK s r,∃ r' ∈ allR s,bitO s r' = bitO s x := fun x hx => ⟨x,(List.mem_filter.1 hx).1,rfl⟩
theorem mem_rst {s : SH} {r x : Int × Int} : x ∈ rstK s r ↔ x ∈ allR s ∧ x ≠ r := by
 unfold rstK
 rw [List.mem_filter]
 simp
theorem kd_same {s : SH} (hv : ValS s) {N : Nat} (q1 : RkR s (allR s) 0 N (allN s)) (q2 : ∀ k,k < N → ¬ RkR s (allR s) 0 k (allN s)) (q3 : N ≤ s.m.length) {r : Int × Int} {m d : Nat} (hW : AnsW s (rstK s r) m d) :
 m = N ↔ RkR s (rstK s r) 0 N (allN s) := by
 have w := pw_12 hv
 have n1 : 1 ≤ N := by
  refine Classical.byContradiction fun h => ?_
  have : N = 0 := by omega
  subst this
  obtain ⟨ks,a1,_,a3⟩ := q1
  rw [List.length_eq_zero_iff] at a1
  subst a1
  have : (0 : Nat) = allN s := a3
  unfold allN at this
  omega
 have p2 : ∀ k,k < N → ¬ RkR s (rstK s r) 0 k (allN s) := fun k hk h => q2 k hk (h.sub rst_sub)
 constructor
 · rintro rfl
   rcases hW with ⟨_,h,_⟩ | ⟨h3,h4,h5,h6,_⟩
   · omega
   · exact RkR_of_cw hv (by omega) h5
 · exact fun h => ansW_iff hv h p2 q3 hW
theorem kd_behind {s : SH} (hv : ValS s) {hp m E clk} (hg : GrH hp m E clk) (ho : GOf s (allR s) E) {N : Nat} (q1 : RkR s (allR s) 0 N (allN s)) (q2 : ∀ k,k < N → ¬ RkR s (allR s) 0 k (allN s)) {r : Int × Int} (hr : r ∈ allR s) {F : Nat → Nat} (hF : FewOK E (bitO s r) F) :
 F (allN s) + 1 = N ↔ 0 < cwA s (rstK s r) (bitO s r) (N - 1) := by
 have w := pw_12 hv
 have lt : allN s < 4096 := by unfold allN; omega
 have bs := bitO_small hv r
 have ge : ∀ n,RkR s (allR s) (bitO s r) n (allN s) → N ≤ n + 1 := fun n h => by
  obtain ⟨ks,h1,h2,h3⟩ := h
  refine Classical.byContradiction fun hlt => q2 (n + 1) (by omega) ⟨bitO s r :: ks,by simp [h1],fun k hk => ?_,?_⟩
  · rcases List.mem_cons.1 hk with rfl | hk
    · exact ⟨r,hr,rfl⟩
    · exact h2 k hk
  · rw [List.foldl_cons,show orN 0 (bitO s r) = bitO s r from Nat.zero_or _]; exact h3
 have n1 : 1 ≤ N := by
  refine Classical.byContradiction fun h => ?_
  have : N = 0 := by omega
  subst this
  obtain ⟨ks,a1,_,a3⟩ := q1
  rw [List.length_eq_zero_iff] at a1
  subst a1
  have : (0 : Nat) = allN s := a3
  unfold allN at this
  omega
 constructor
 · intro hN
   rcases hF _ lt with ⟨h4,_⟩ | ⟨_,h5,h6⟩
   · rw [h4] at hN
     exfalso
     have hx : ∀ n,¬ Rk E (bitO s r) n (allN s) := by
      rcases hF _ lt with ⟨_,h⟩ | ⟨h,_⟩
      · exact h
      · rw [h4] at h; exact absurd h (Nat.lt_irrefl _)
     obtain ⟨ks,a1,a2,a3⟩ := q1
     refine hx ks.length ((rk_iff hg ho).2 ⟨ks,rfl,a2,?_⟩)
     refine Nat.eq_of_testBit_eq fun i => ?_
     rw [foldl_bit,← a3,foldl_bit,Nat.zero_testBit,Bool.false_or,Bool.eq_iff_iff,Bool.or_eq_true]
     constructor
     · rintro (h | h)
       · have e : (ks.foldl orN 0).testBit i = true := by
          rw [a3]
          unfold allN
          rw [show pwN s.m.length = 2 ^ s.m.length from rfl,Nat.testBit_two_pow_sub_one,decide_eq_true_eq]
          refine Classical.byContradiction fun hi => ?_
          rw [Nat.testBit_lt_two_pow (Nat.lt_of_lt_of_le bs (Nat.pow_le_pow_right (by decide) (by omega)))] at h
          cases h
         rw [foldl_bit,Nat.zero_testBit,Bool.false_or] at e
         exact e
       · exact h
     · exact .inr
   · have h7 := (rk_iff hg ho).1 h5
     obtain ⟨ks,a1,a2,a3⟩ := h7
     have h8 : RkR s (rstK s r) (bitO s r) (F (allN s)) (allN s) := ⟨ks,a1,fun k hk => by
      obtain ⟨x,hx,rfl⟩ := a2 k hk
      refine ⟨x,mem_rst.2 ⟨hx,fun e => ?_⟩,rfl⟩
      subst e
      obtain ⟨A,B,rfl⟩ := List.append_of_mem hk
      have : RkR s (allR s) (bitO s x) (A ++ B).length (allN s) := ⟨A ++ B,rfl,fun y hy => a2 y (by simp at hy ⊢; rcases hy with h | h <;> simp [h]),by
       rw [← a3]
       refine Nat.eq_of_testBit_eq fun i => ?_
       rw [foldl_bit,foldl_bit,List.any_append,List.any_append,List.any_cons]
       cases (bitO s x).testBit i <;> simp⟩
      have := h6 _ ((rk_iff hg ho).2 this)
      simp at a1 this
      omega,a3⟩
     have := cw_of_RkR hv bs h8 fun k hk h => by
      have := h6 k ((rk_iff hg ho).2 (h.sub rst_sub))
      omega
     rw [show N - 1 = F (allN s) by omega]
     exact this
 · intro h
   have h1 := (RkR_of_cw hv bs h).sub (R' := allR s) rst_sub
   rcases hF _ lt with ⟨h4,h5⟩ | ⟨h4,h5,h6⟩
   · exact absurd ((rk_iff hg ho).2 h1) (h5 _)
   · have a := h6 _ ((rk_iff hg ho).2 h1)
     have b := ge _ ((rk_iff hg ho).1 h5)
     omega
theorem kd_one {s : SH} (hv : ValS s) {hp m A e B clk} (hg : GrH hp m (A ++ e :: B) clk) (ho : GOf s (allR s) (A ++ e :: B)) {r : Int × Int} (hr : r ∈ allR s) (he : e.key = bitO s r) (h1 : e.rows.length = 1) {had n t : Nat} : Rk (A ++ B) had n t ↔ RkR s (rstK s r) had n t := by
 have hrows := ho.rows e (by simp)
 have hrm : r ∈ e.rows := by rw [hrows,List.mem_filter]; exact ⟨hr,by simp [he]⟩
 have hk : ∀ x ∈ A ++ B,x.key ≠ bitO s r := fun x hx e1 => by
  have p := hg.key
  rw [List.pairwise_append,List.pairwise_cons] at p
  rcases List.mem_append.1 hx with h | h
  · exact p.2.2 x h e (by simp) (by rw [e1,he])
  · exact p.2.1.1 x h (by rw [e1,he])
 have only : ∀ x ∈ allR s,bitO s x = bitO s r → x = r := fun x hx e1 => by
  have hxm : x ∈ e.rows := by rw [hrows,List.mem_filter]; exact ⟨hx,by simp [he,e1]⟩
  obtain ⟨y,hy⟩ := List.length_eq_one_iff.1 h1
  rw [hy,List.mem_singleton] at hrm hxm
  rw [hrm,hxm]
 constructor
 · rintro ⟨ks,a1,a2,a3⟩
   exact ⟨ks,a1,fun k hk' => by
    obtain ⟨x,hx,rfl⟩ := a2 k hk'
    obtain ⟨y,hy,e1⟩ := key_of hg ho (e := x) (by simp at hx ⊢; rcases hx with h | h <;> simp [h])
    exact ⟨y,mem_rst.2 ⟨hy,fun e2 => hk x hx (by rw [← e1,e2])⟩,e1⟩,a3⟩
 · rintro ⟨ks,a1,a2,a3⟩
   exact ⟨ks,a1,fun k hk' => by
    obtain ⟨y,hy,rfl⟩ := a2 k hk'
    obtain ⟨hy1,hy2⟩ := mem_rst.1 hy
    obtain ⟨x,hx,e1⟩ := ho.all y hy1
    refine ⟨x,?_,e1⟩
    rw [List.mem_append,List.mem_cons] at hx
    rw [List.mem_append]
    rcases hx with h | h | h
    · exact .inl h
    · subst h
      exact absurd (only y hy1 (by rw [← e1,he])) hy2
    · exact .inr h,a3⟩
theorem kd_two {s : SH} {hp m E clk} (hg : GrH hp m E clk) (ho : GOf s (allR s) E) {r : Int × Int} (hr : r ∈ allR s) {e : GE} (hem : e ∈ E) (he : e.key = bitO s r) (h1 : e.rows.length ≠ 1) {had n t : Nat} (h : RkR s (allR s) had n t) : RkR s (rstK s r) had n t := by
 have hrows := ho.rows e hem
 have hrm : r ∈ e.rows := by rw [hrows,List.mem_filter]; exact ⟨hr,by simp [he]⟩
 have nd : e.rows.Nodup := by rw [hrows]; exact nodup_allR.filter _
 have : ∃ x ∈ e.rows,x ≠ r := by
  refine Classical.byContradiction fun hn => h1 ?_
  have hall : ∀ x ∈ e.rows,x = r := fun x hx => Classical.byContradiction fun h => hn ⟨x,hx,h⟩
  match hl : e.rows with
  | [] => rw [hl] at hrm; cases hrm
  | [a] => rfl
  | a :: b :: l =>
    rw [hl] at nd hall
    have e1 := hall a (by simp)
    have e2 := hall b (by simp)
    rw [List.nodup_cons] at nd
    exact absurd (by rw [e1,e2]; simp) nd.1
 obtain ⟨x,hx,hne⟩ := this
 rw [hrows,List.mem_filter] at hx
 have hxb : bitO s x = bitO s r := by rw [← he]; exact of_decide_eq_true hx.2
 refine h.sub fun y hy => ?_
 by_cases hy2 : y = r
 · subst hy2; exact ⟨x,mem_rst.2 ⟨hx.1,hne⟩,hxb⟩
 · exact ⟨y,mem_rst.2 ⟨hy,hy2⟩,rfl⟩
end Go.AM

namespace Go.AM
open Go.RowKit Go.Proofs
theorem pw_ne {x y : GE} : ∀ {E : List GE},(E.Pairwise fun a b => a.key ≠ b.key) → x ∈ E → y ∈ E → x ≠ y → x.key ≠ y.key
 | [],_,h,_,_ => by cases h
 | a :: l,h,hx,hy,hne => by
   rw [List.pairwise_cons] at h
   rw [List.mem_cons] at hx hy
   rcases hx with hx | hx <;> rcases hy with hy | hy
   · exact absurd (hx.trans hy.symm) hne
   · rw [hx]; exact h.1 _ hy
   · rw [hy]; exact fun e => h.1 _ hx e.symm
   · exact pw_ne h.2 hx hy hne
theorem Brd.del {f g s H rc m A e B clk} (h : Brd f g s H rc m (A ++ e :: B) clk) (hn : NoMpp H) : Brd f g s (writeL H [(m,mpG (A ++ B) clk)]) rc m (A ++ B) clk ∧ NoMpp (writeL H [(m,mpG (A ++ B) clk)]) := by
 have hm := h.gr.mp
 have lm := nthH_lt hm
 obtain ⟨_,hg⟩ := chg_of (G := H) (x := m) (o := mpG (A ++ B) clk) lm
 generalize writeL H [(m,mpG (A ++ B) clk)] = G at *
 have sub : List.Sublist (A ++ B) (A ++ e :: B) := (List.sublist_cons_self e B).append_left A
 have mem : ∀ x ∈ A ++ B,x ∈ A ++ e :: B := fun x hx => sub.subset hx
 have hc := h.bd
 refine ⟨⟨by rw [hg,if_neg (fun e1 => by rw [e1,hm] at hc; cases hc)]; exact hc,?_⟩,fun i Φ hi => ?_⟩
 · refine ⟨by rw [hg,if_pos rfl],fun x hx => ?_,h.gr.key.sublist sub,h.gr.brs.sublist sub,fun x hx => h.gr.brn x (mem x hx),h.gr.ids.sublist sub,fun x hx => h.gr.ne x (mem x hx),fun x hx => h.gr.sm x (mem x hx),fun x hx => h.gr.ln x (mem x hx)⟩
   have hx1 := h.gr.cel x (mem x hx)
   rw [hg,if_neg (fun e1 => by rw [e1,hm] at hx1; cases hx1)]; exact hx1
 · rw [hg] at hi
   split at hi
   · cases hi
   · exact hn i Φ hi
set_option maxHeartbeats 2000000 in
theorem k_Kind_ok (f g : Bool) (s : SH) (hz : SzS s) (r : Int × Int) {kd e : Int} (hA : AnsKd s r kd e) : PureOK Tryz.prog n_k_Kind [Sn f g s,Pr r] (.tup [I kd,I e]) := by
 refine pure_of (callW_aws func_k_Kind form_k_Kind res_k_Kind (by show 2 ≤ _; decide) ?_)
 simp only [G_k_Kind]
 refine aws_step ?_
 simp -implicitDefEqProofs (disch := omega) [wrap_id]
 refine aws_step ?_
 simp -implicitDefEqProofs (disch := omega) [wrap_id]
 refine bsl_of (ys := [I r.1]) rfl rfl ?_
 simp -implicitDefEqProofs (disch := omega) [wrap_id,zrep]
 refine k_whole_w (h := true) (cs := [r.1]) hz (by simp) (mpp_list rfl) (fun h0 H ha hm => ?_) (fun hw h0 hL H rc m E clk ha hm hlen hb hof => ?_)
 · have h0' : (whE s [r.1] != 0) = true := by simp [h0]
   obtain ⟨rfl,rfl⟩ : kd = 0 ∧ e = whE s [r.1] := by
    unfold whE at h0 ⊢
    rcases hA with ⟨h1,h2,h3⟩ | ⟨h1,⟨h2,h3,h4⟩ | ⟨h2,⟨h5,h6,h7⟩ | ⟨h5,_⟩⟩⟩
    · rw [if_pos h1]; exact ⟨h2,h3⟩
    · rw [if_neg (by omega),if_pos (by simp [h2])]; exact ⟨h3,h4⟩
    · rw [if_neg (by omega),if_neg (by simp [h2]),if_pos h5]; exact ⟨h6,h7⟩
    · rw [if_neg (by omega),if_neg (by simp [h2]),if_neg (by simp [h5])] at h0; exact absurd rfl h0
   simp -implicitDefEqProofs (disch := omega) [wrap_id]
   refine aws_step ?_
   simp -implicitDefEqProofs (disch := omega) [wrap_id,h0']
   exact out_of (is := []) rfl
 · have hv := val_of h0
   have w := pw_12 hv
   have c1 : nthH H 1 = some (.cells [I r.1,I r.2]) := ha.get rfl
   simp -implicitDefEqProofs (disch := omega) [wrap_id]
   refine aws_step ?_
   simp -implicitDefEqProofs (disch := omega) [wrap_id]
   have hk : isK s r.1 = true := by
    refine Classical.byContradiction fun h => ?_
    unfold whE at hw
    rw [if_neg (by omega),if_pos (by simp [h])] at hw
    cases hw
   refine aws_step ?_
   simp -implicitDefEqProofs (disch := omega) [wrap_id,c1,ldr_some]
   refine q_marks_w hv hb.bd hk ?_
   simp -implicitDefEqProofs (disch := omega) [wrap_id]
   refine aws_step ?_
   simp -implicitDefEqProofs (disch := omega) [wrap_id,-b_eql,uw_eq0]
   rcases hA with ⟨h1,_⟩ | ⟨_,⟨h1,_⟩ | ⟨_,⟨h1,_⟩ | ⟨_,hA⟩⟩⟩
   · exact absurd h0 h1
   · rw [hk] at h1; cases h1
   · exact absurd hL h1
   rcases hA with ⟨hb0,rfl,rfl⟩ | ⟨hb0,rfl,n,c,m',d,hW,hV,hA⟩
   · rw [hb0]
     simp -implicitDefEqProofs (disch := omega) [wrap_id]
     exact out_of (is := []) rfl
   · simp -implicitDefEqProofs (disch := omega) [wrap_id, hb0]
     obtain ⟨F,hF⟩ := fewOK_ex E 0
     obtain ⟨F2,hF2⟩ := fewOK_ex E (bitO s r)
     obtain ⟨q1,q2,q3⟩ := few_fit hv hL hb.gr hof hF
     have hm12 := hv.m12
     have hE := key_lt hv hb.gr hof
     have lt : allN s < 4096 := by unfold allN; omega
     have hr := mem_allR hk hb0
     obtain rfl := ansW_iff hv q1 q2 q3 hW
     have k1 := kd_same hv q1 q2 q3 hV
     have k2 := kd_behind hv hb.gr hof q1 q2 hr hF2
     have gt := fnA_get (f := F) lt
     have gt2 := fnA_get (f := F2) lt
     have lF := fnA_len (f := F)
     have lF2 := fnA_len (f := F2)
     have b2 : F2 (allN s) ≤ manyN := by
      rcases hF2 _ lt with ⟨h,_⟩ | ⟨h,_⟩ <;> omega
     unfold manyN at b2
     refine aws_seq (aws_read ?_)
     simp -implicitDefEqProofs (disch := omega) [wrap_id]
     refine r_call (.ptr (fnA F) 0) (fun KK hKK => q_few_w (had := 0) hv hm hb hE (by omega) hF hKK) ?_
     simp -implicitDefEqProofs (disch := omega) [wrap_id]
     refine r_call (W64 (allN s)) (fun KK hKK => q_all_w hb hm12 hKK) ?_
     simp -implicitDefEqProofs (disch := omega) [wrap_id]
     refine ⟨by omega,?_⟩
     rw [gt]
     simp -implicitDefEqProofs (disch := omega) [wrap_id]
     refine aws_seq (aws_read ?_)
     simp -implicitDefEqProofs (disch := omega) [wrap_id]
     refine r_call (.ptr (fnA F2) 0) (fun KK hKK => q_few_w hv hm hb hE (bitO_small hv r) hF2 hKK) ?_
     simp -implicitDefEqProofs (disch := omega) [wrap_id]
     refine r_call (W64 (allN s)) (fun KK hKK => q_all_w hb hm12 hKK) ?_
     simp -implicitDefEqProofs (disch := omega) [wrap_id]
     refine ⟨by omega,?_⟩
     rw [gt2]
     simp -implicitDefEqProofs (disch := omega) [wrap_id]
     have ek1 : (F2 (allN s) : Int) + 1 = F (allN s) ↔ F2 (allN s) + 1 = F (allN s) := by omega
     refine aws_seq (aws_step ?_)
     simp -implicitDefEqProofs (disch := omega) [wrap_id,hb.bd,ldr_some]
     refine lkuU (k := bitO s r) rfl rfl hb.gr.mp (fun A e B eE eq hA0 => ?_) (fun hE => ?_)
     · subst eE
       have eq' : e.key = bitO s r := eq
       simp -implicitDefEqProofs (disch := omega) [wrap_id]
       by_cases h1 : e.rows.length = 1
       · have h1' : ((e.rows.length : Int) == 1) = true := by rw [h1]; rfl
         rw [h1']
         refine aws_cond (t := true) rfl (fun _ => ?_) (fun h => by cases h)
         refine aws_step ?_
         simp -implicitDefEqProofs (disch := omega) [wrap_id,hb.bd,ldr_some]
         refine delU (k := bitO s r) rfl rfl hb.gr.mp (fun A' e' B' eE' eqq hA' => ?_) (fun hE' => absurd eq' (hE' e (by simp)))
         obtain ⟨hbD,hmD⟩ := Brd.del (A := A') (e := e') (B := B') (eE' ▸ hb) hm
         have e1' : e' = e := Classical.byContradiction fun hne => by
          have p := hb.gr.key
          have m1 : e ∈ A ++ e :: B := by simp
          have m2 : e' ∈ A ++ e :: B := by rw [eE']; simp
          exact pw_ne p m2 m1 hne (by rw [eqq,eq'])
         have kO := fun n t => kd_one (had := 0) (n := n) (t := t) hv (A := A') (e := e') (B := B') (by rw [← eE']; exact hb.gr) (by rw [← eE']; exact hof) hr eqq (by rw [e1']; exact h1)
         have hE2 : ∀ x ∈ A' ++ B',x.key < pwN s.m.length := fun x hx => hE x (by rw [eE']; simp at hx ⊢; rcases hx with h | h <;> simp [h])
         rw [x_contA]
         generalize writeL H [(m,mpG (A' ++ B') clk)] = HD at *
         obtain ⟨F3,hF3⟩ := fewOK_ex (A' ++ B') 0
         have gt3 := fnA_get (f := F3) lt
         have lF3 := fnA_len (f := F3)
         have b3 : F3 (allN s) ≤ manyN := by
          rcases hF3 _ lt with ⟨h,_⟩ | ⟨h,_⟩ <;> omega
         unfold manyN at b3
         have k3 : F3 (allN s) = F (allN s) ↔ m' = F (allN s) := by
          rw [k1]
          have low : ∀ n,RkR s (rstK s r) 0 n (allN s) → F (allN s) ≤ n := fun n h => Classical.byContradiction fun hn => q2 n (by omega) (h.sub rst_sub)
          rcases hF3 _ lt with ⟨h4,h5⟩ | ⟨h4,h5,h6⟩
          · constructor
            · intro h; unfold manyN at h4; omega
            · exact fun h => absurd ((kO _ _).2 h) (h5 _)
          · constructor
            · intro h; rw [← h]; exact (kO _ _).1 h5
            · intro h
              have a := h6 _ ((kO _ _).2 h)
              have b := low _ ((kO _ _).1 h5)
              omega
         simp -implicitDefEqProofs (disch := omega) [wrap_id]
         refine aws_seq (aws_read ?_)
         simp -implicitDefEqProofs (disch := omega) [wrap_id]
         refine r_call (.ptr (fnA F3) 0) (fun KK hKK => q_few_w (had := 0) hv hmD hbD hE2 (by omega) hF3 hKK) ?_
         simp -implicitDefEqProofs (disch := omega) [wrap_id]
         refine r_call (W64 (allN s)) (fun KK hKK => q_all_w hbD hm12 hKK) ?_
         simp -implicitDefEqProofs (disch := omega) [wrap_id]
         refine ⟨by omega,?_⟩
         rw [gt3]
         simp -implicitDefEqProofs (disch := omega) [wrap_id]
         by_cases h3 : F3 (allN s) = F (allN s)
         · have h3' : ((F3 (allN s) : Int) != (F (allN s) : Int)) = false := by rw [h3]; simp
           have em := k3.1 h3
           rw [h3']
           refine aws_cond (t := false) rfl (fun h => by cases h) fun _ => ?_
           refine aws_of ?_
           simp -implicitDefEqProofs (disch := omega) [wrap_id]
           refine aws_step ?_
           simp -implicitDefEqProofs (disch := omega) [wrap_id]
           refine c_split (fun hc => ?_) (fun hc => ?_)
           · have hc : F2 (allN s) + 1 = F (allN s) := by simp at hc; omega
             have kp := k2.1 hc
             obtain rfl : kd = 1 := by
              rcases hA with ⟨h,_⟩ | ⟨_,_,h⟩ | ⟨_,h,_⟩
              · exact absurd em h
              · exact h
              · omega
             simp -implicitDefEqProofs (disch := omega) [wrap_id]
             exact out_of (is := []) rfl
           · have hc : ¬ F2 (allN s) + 1 = F (allN s) := by simp at hc; omega
             have kp := mt k2.2 hc
             obtain rfl : kd = 0 := by
              rcases hA with ⟨h,_⟩ | ⟨_,h,_⟩ | ⟨_,_,h⟩
              · exact absurd em h
              · exact absurd h kp
              · exact h
             simp -implicitDefEqProofs (disch := omega) [wrap_id]
             refine aws_of ?_
             simp -implicitDefEqProofs (disch := omega) [wrap_id]
             exact out_of (is := []) rfl
         · have h3' : ((F3 (allN s) : Int) != (F (allN s) : Int)) = true := by rw [bne_iff_ne]; omega
           have em := mt k3.2 h3
           rw [h3']
           obtain rfl : kd = 2 := by
            rcases hA with ⟨_,h⟩ | ⟨h,_⟩ | ⟨h,_⟩
            · exact h
            · exact absurd h em
            · exact absurd h em
           refine aws_cond (t := true) rfl (fun _ => ?_) (fun h => by cases h)
           refine aws_of ?_
           simp -implicitDefEqProofs (disch := omega) [wrap_id]
           exact out_of (is := []) rfl
       · have h1' : ((e.rows.length : Int) == 1) = false := by rw [beq_eq_false_iff_ne]; omega
         rw [h1']
         have em : m' = F (allN s) := k1.2 (kd_two hb.gr hof hr (e := e) (by simp) eq' h1 q1)
         refine aws_cond (t := false) rfl (fun h => by cases h) fun _ => ?_
         refine aws_of ?_
         simp -implicitDefEqProofs (disch := omega) [wrap_id]
         refine aws_step ?_
         simp -implicitDefEqProofs (disch := omega) [wrap_id]
         refine c_split (fun hc => ?_) (fun hc => ?_)
         · have hc : F2 (allN s) + 1 = F (allN s) := by simp at hc; omega
           have kp := k2.1 hc
           obtain rfl : kd = 1 := by
            rcases hA with ⟨h,_⟩ | ⟨_,_,h⟩ | ⟨_,h,_⟩
            · exact absurd em h
            · exact h
            · omega
           simp -implicitDefEqProofs (disch := omega) [wrap_id]
           exact out_of (is := []) rfl
         · have hc : ¬ F2 (allN s) + 1 = F (allN s) := by simp at hc; omega
           have kp := mt k2.2 hc
           obtain rfl : kd = 0 := by
            rcases hA with ⟨h,_⟩ | ⟨_,h,_⟩ | ⟨_,_,h⟩
            · exact absurd em h
            · exact absurd h kp
            · exact h
           simp -implicitDefEqProofs (disch := omega) [wrap_id]
           refine aws_of ?_
           simp -implicitDefEqProofs (disch := omega) [wrap_id]
           exact out_of (is := []) rfl
     · obtain ⟨x,hx,e1⟩ := hof.all r hr
       exact absurd e1 (hE x hx)
end Go.AM

namespace Go.AM
open Go.RowKit Go.Proofs
def cW (l : List Nat) : List AV := l.map fun n => W64 n
def gN (l : List Nat) (i : Nat) : Nat := l.getD i 0
theorem cW_len {l} : (cW l).length = l.length := by simp [cW]
theorem cW_at {l : List Nat} {i : Nat} (h : i < l.length) : nthA (cW l) i = some (W64 (gN l i)) := by
 rw [nthA_eq,gN,cW,List.getElem?_map,List.getElem?_eq_getElem h,List.getD_eq_getElem?_getD,List.getElem?_eq_getElem h]; rfl
theorem cW_put {l : List Nat} {i v : Nat} (h : i < l.length) : (cW l).take i ++ W64 v :: (cW l).drop (i + 1) = cW (l.set i v) := by
 have : (cW l).set i (W64 v) = cW (l.set i v) := by
  refine List.ext_getElem (by simp [cW]) fun k h1 h2 => ?_
  simp only [cW,List.getElem_set,List.getElem_map]
  split <;> rfl
 rw [← this,List.set_eq_take_append_cons_drop,if_pos (by rw [cW_len]; exact h)]
def swN (l : List Nat) (i j : Nat) : List Nat := (l.set i (gN l j)).set j (gN l i)
theorem swap_perm {l : List Nat} {i j : Nat} (hi : i < l.length) (hj : j < l.length) : (swN l i j).Perm l := by
 unfold swN gN
 rw [List.perm_iff_count]
 intro x
 have gi : l.getD i 0 = l[i] := by rw [List.getD_eq_getElem?_getD,List.getElem?_eq_getElem hi]; rfl
 have gj : l.getD j 0 = l[j] := by rw [List.getD_eq_getElem?_getD,List.getElem?_eq_getElem hj]; rfl
 rw [gi,gj]
 have mi := List.count_pos_iff.2 (List.getElem_mem hi)
 have mj := List.count_pos_iff.2 (List.getElem_mem hj)
 by_cases e : i = j
 · subst e
   rw [List.set_set,List.set_getElem_self]
 · rw [List.count_set (by simpa using hj),List.count_set hi,List.getElem_set_ne e]
   by_cases e1 : l[i] = x <;> by_cases e2 : l[j] = x
   · subst e1
     simp only [e2,beq_self_eq_true,if_true]; omega
   · subst e1
     have : (l[j] == l[i]) = false := by rw [beq_eq_false_iff_ne]; exact e2
     simp only [beq_self_eq_true,if_true,this,Bool.false_eq_true,if_false]; omega
   · subst e2
     have : (l[i] == l[j]) = false := by rw [beq_eq_false_iff_ne]; exact e1
     simp only [beq_self_eq_true,if_true,this,Bool.false_eq_true,if_false]; omega
   · have h1 : (l[i] == x) = false := by rw [beq_eq_false_iff_ne]; exact e1
     have h2 : (l[j] == x) = false := by rw [beq_eq_false_iff_ne]; exact e2
     simp only [h1,h2,Bool.false_eq_true,if_false]; omega
structure Sw (hp : List HObj) (id : Nat) (l : List Nat) (H : List HObj) (Q : List Nat) : Prop where
 len : hp.length ≤ H.length
 oth : ∀ j,j < hp.length → j ≠ id → nthH H j = nthH hp j
 at' : nthH H id = some (.cells (cW Q))
 perm : Q.Perm l
theorem Sw.refl {hp id l} (h : nthH hp id = some (.cells (cW l))) : Sw hp id l hp l := ⟨Nat.le_refl _,fun _ _ _ => rfl,h,.refl _⟩
theorem Sw.trans {hp id l H Q H' Q'} (h : Sw hp id l H Q) (h' : Sw H id Q H' Q') : Sw hp id l H' Q' :=
 ⟨Nat.le_trans h.len h'.len,fun j hj hn => by rw [h'.oth j (Nat.lt_of_lt_of_le hj h.len) hn,h.oth j hj hn],h'.at',h'.perm.trans h.perm⟩
theorem Sw.qlen {hp id l H Q} (h : Sw hp id l H Q) : Q.length = l.length := h.perm.length_eq
theorem cW_put2 {l : List Nat} {i j : Nat} {v : Nat} (h : j < l.length) : (cW (l.set i v)).take j ++ W64 (gN l i) :: (cW (l.set i v)).drop (j + 1) = cW ((l.set i v).set j (gN l i)) := cW_put (by simpa using h)
theorem Sw.swap {hp id l H Q} (h : Sw hp id l H Q) {i j : Nat} (hi : i < l.length) (hj : j < l.length) : Sw hp id l (H.set id (.cells (cW ((Q.set i (gN Q j)).set j (gN Q i))))) (swN Q i j) := by
 have lt := nthH_lt h.at'
 have hq := h.qlen
 exact ⟨by simp only [List.length_set]; exact h.len,fun k hk hn => by rw [nthH_set_ne (Ne.symm hn),h.oth k hk hn],nthH_set_same lt,(swap_perm (by omega) (by omega)).trans h.perm⟩
theorem c_isNaNT_ok (x : Nat) : PureOK Tryz.prog n_c_isNaNT [W64 x] (B false) := by
 refine pure_of (walk func_c_isNaNT form_c_isNaNT res_c_isNaNT (by show 1 ≤ _; decide) ?_)
 simp -implicitDefEqProofs (disch := omega) [G_c_isNaNT,wrap_id]
theorem c_LessT_ok (x y : Nat) : PureOK Tryz.prog n_c_LessT [W64 x,W64 y] (B (decide (x < y))) := by
 refine pure_of (walk func_c_LessT form_c_LessT res_c_LessT (by show 2 ≤ _; decide) ?_)
 simp -implicitDefEqProofs (disch := omega) [G_c_LessT,wrap_id]
 refine callW_pure rfl (c_isNaNT_ok x) ?_
 simp -implicitDefEqProofs (disch := omega) [wrap_id]
set_option maxHeartbeats 4000000 in
theorem s_insertionT_w {hp : List HObj} {id a b n : Nat} {l : List Nat} {K : AV → List HObj → Prop} (hd : nthH hp id = some (.cells (cW l))) (hn : n = l.length) (hl : l.length ≤ 5000) (ha : a ≤ n) (hb : b ≤ n)
 (hK : ∀ H Q,Sw hp id l H Q → K (.tup []) H) : CallW Tryz.prog n_s_insertionSortOrderedT [.ms id 0 n 1,I (a : Int),I (b : Int)] hp K := by
 subst hn
 refine walk func_s_insertionSortOrderedT form_s_insertionSortOrderedT res_s_insertionSortOrderedT (by show 3 ≤ _; decide) ?_
 simp -implicitDefEqProofs (disch := omega) [G_s_insertionSortOrderedT,wrap_id]
 refine loop_eq (fun q : Nat × List HObj × List Nat => ⟨[(0,.ms id 0 l.length 1),(1,I (a : Int)),(2,I (b : Int)),(6,I (q.1 : Int))],q.2.1⟩)
  (fun q => a + 1 ≤ q.1 ∧ q.1 ≤ max (a + 1) b ∧ Sw hp id l q.2.1 q.2.2) (fun q => max (a + 1) b - q.1) (a + 1,hp,l) ⟨Nat.le_refl _,by simp only; omega,.refl hd⟩ (by simp) ?_
 rintro ⟨i,H1,Q1⟩ ⟨c0,c1,c2⟩
 simp only at c0 c1 c2 ⊢
 refine hideK' fun K0 hK0 => ?_
 simp -implicitDefEqProofs (disch := omega) [wrap_id]
 refine c_split (fun hc => ?_) (fun hc => ?_)
 · have hi : i < b := by simpa using hc
   have ix : ((i : Int) + 1) = ((i + 1 : Nat) : Int) := by omega
   simp -implicitDefEqProofs (disch := omega) [wrap_id]
   refine loop_eq (fun q : Nat × List HObj × List Nat => ⟨[(0,.ms id 0 l.length 1),(1,I (a : Int)),(2,I (b : Int)),(6,I (i : Int)),(7,I (q.1 : Int))],q.2.1⟩)
    (fun q => a ≤ q.1 ∧ q.1 ≤ i ∧ Sw hp id l q.2.1 q.2.2) (fun q => q.1) (i,H1,Q1) ⟨by simp only; omega,Nat.le_refl _,c2⟩ rfl ?_
   clear c2
   rintro ⟨k,H2,Q⟩ ⟨d0,d1,d2⟩
   simp only at d0 d1 d2 ⊢
   have lQ := d2.qlen
   refine hideK' fun K1 hK1 => ?_
   by_cases hk : a < k
   · obtain ⟨k,rfl⟩ : ∃ k',k = k' + 1 := ⟨k - 1,by omega⟩
     have kx : (((k + 1 : Nat) : Int) - 1) = (k : Int) := by omega
     obtain ⟨m,hm⟩ : ∃ m : Int,((k + 1 : Nat) : Int) = m := ⟨_,rfl⟩
     rw [hm] at kx
     have mn : m.toNat = k + 1 := by omega
     have m0 : ((a : Int) < m) = True := by simp only [eq_iff_iff,iff_true]; omega
     have mr : m < l.length := by omega
     have kr : k < l.length := by omega
     have e1 := cW_at (l := Q) (i := k + 1) (by omega)
     have e0 := cW_at (l := Q) (i := k) (by omega)
     have la := nthH_lt d2.at'
     simp only [hm]
     simp -implicitDefEqProofs (disch := omega) [wrap_id,m0,d2.at',mn,kx,e1,e0,mr,kr,cW_len,lQ]
     have s3 : ∀ o,nthH (H2.set id o) id = some o := fun o => nthH_set_same la
     have p1 := cW_put (l := Q) (i := k + 1) (v := gN Q k) (by omega)
     have p2 := cW_put2 (l := Q) (i := k + 1) (j := k) (v := gN Q k) (by omega)
     have sw := d2.swap (i := k + 1) (j := k) (by omega) (by omega)
     refine ⟨by omega,pureW_of rfl (c_LessT_ok _ _) ?_⟩
     cases hf : decide (gN Q (k + 1) < gN Q k) with
     | true =>
       simp -implicitDefEqProofs (disch := omega) [wrap_id,cmp2,nthT,d2.at',mn,kx,e1,e0,mr,kr,cW_len,lQ,la,s3,p1,p2]
       refine ⟨by omega,by omega,by omega,?_⟩
       rw [hK1]
       exact next_eq (k,_,_) ⟨by simp only; omega,by simp only; omega,sw⟩ (by simp only; omega) (by simp only)
     | false =>
       subst hK1
       simp -implicitDefEqProofs (disch := omega) [wrap_id,cmp2,nthT]
       rw [hK0]
       refine next_eq (i + 1,H2,Q) ⟨by simp only; omega,by simp only; omega,d2⟩ (by simp only; omega) (by simp only [ix])
   · have m0 : ((a : Int) < (k : Int)) = False := by simp only [eq_iff_iff,iff_false]; omega
     subst hK1
     simp -implicitDefEqProofs (disch := omega) [wrap_id,m0,cmp2,nthT]
     rw [hK0]
     refine next_eq (i + 1,H2,Q) ⟨by simp only; omega,by simp only; omega,d2⟩ (by simp only; omega) (by simp only [ix])
 · subst hK0
   simp -implicitDefEqProofs (disch := omega) [wrap_id]
   exact hK _ _ c2
set_option maxHeartbeats 4000000 in
theorem s_reverseT_w {hp : List HObj} {id a b n : Nat} {l : List Nat} {K : AV → List HObj → Prop} (hd : nthH hp id = some (.cells (cW l))) (hn : n = l.length) (hl : l.length ≤ 5000) (ha : a ≤ n) (hb : b ≤ n)
 (hK : ∀ H Q,Sw hp id l H Q → K (.tup []) H) : CallW Tryz.prog n_s_reverseRangeOrderedT [.ms id 0 n 1,I (a : Int),I (b : Int)] hp K := by
 subst hn
 refine walk func_s_reverseRangeOrderedT form_s_reverseRangeOrderedT res_s_reverseRangeOrderedT (by show 3 ≤ _; decide) ?_
 simp -implicitDefEqProofs (disch := omega) [G_s_reverseRangeOrderedT,wrap_id]
 refine loop_eq (fun q : Nat × Int × List HObj × List Nat => ⟨[(0,.ms id 0 l.length 1),(6,I (q.1 : Int)),(7,I q.2.1)],q.2.2.1⟩)
  (fun q => q.1 ≤ l.length ∧ -1 ≤ q.2.1 ∧ q.2.1 < l.length ∧ Sw hp id l q.2.2.1 q.2.2.2) (fun q => (q.2.1 + 1 - q.1).toNat) (a,(b : Int) - 1,hp,l) ⟨ha,by simp only; omega,by simp only; omega,.refl hd⟩ (by simp) ?_
 rintro ⟨i,j,H,Q⟩ ⟨c0,c1,c2,c3⟩
 simp only at c0 c1 c2 c3 ⊢
 have lQ := c3.qlen
 refine hideK' fun K0 hK0 => ?_
 simp -implicitDefEqProofs (disch := omega) [wrap_id]
 refine c_split (fun hc => ?_) (fun hc => ?_)
 · have hi : (i : Int) < j := by simpa using hc
   obtain ⟨j,rfl⟩ : ∃ j' : Nat,j = (j' : Int) := ⟨j.toNat,by omega⟩
   have ix : ((i : Int) + 1) = ((i + 1 : Nat) : Int) := by omega
   have e1 := cW_at (l := Q) (i := i) (by omega)
   have e0 := cW_at (l := Q) (i := j) (by omega)
   have la := nthH_lt c3.at'
   have s3 : ∀ o,nthH (H.set id o) id = some o := fun o => nthH_set_same la
   have p1 := cW_put (l := Q) (i := i) (v := gN Q j) (by omega)
   have p2 := cW_put2 (l := Q) (i := i) (j := j) (v := gN Q j) (by omega)
   have sw := c3.swap (i := i) (j := j) (by omega) (by omega)
   simp -implicitDefEqProofs (disch := omega) [wrap_id,cmp2,nthT,c3.at',e1,e0,cW_len,lQ,la,s3,p1,p2]
   refine ⟨by omega,by omega,by omega,by omega,by omega,?_⟩
   rw [hK0]
   exact next_eq (i + 1,(j : Int) - 1,_,_) ⟨by simp only; omega,by simp only; omega,by simp only; omega,sw⟩ (by simp only; omega) (by simp only [ix])
 · subst hK0
   simp -implicitDefEqProofs (disch := omega) [wrap_id]
   exact hK _ _ c3
end Go.AM

namespace Go.AM
open Go.RowKit Go.Proofs
set_option maxHeartbeats 4000000 in
theorem s_siftT_w {hp : List HObj} {id lo hi fi n : Nat} {l : List Nat} {K : AV → List HObj → Prop} (hd : nthH hp id = some (.cells (cW l))) (hn : n = l.length) (hl : l.length ≤ 5000) (hlo : lo ≤ n) (hb : fi + hi ≤ n)
 (hK : ∀ H Q,Sw hp id l H Q → K (.tup []) H) : CallW Tryz.prog n_s_siftDownOrderedT [.ms id 0 n 1,I (lo : Int),I (hi : Int),I (fi : Int)] hp K := by
 subst hn
 refine walk func_s_siftDownOrderedT form_s_siftDownOrderedT res_s_siftDownOrderedT (by show 4 ≤ _; decide) ?_
 simp -implicitDefEqProofs (disch := omega) [G_s_siftDownOrderedT,wrap_id]
 refine loop_eq (fun q : Nat × List HObj × List Nat => ⟨[(0,.ms id 0 l.length 1),(2,I (hi : Int)),(3,I (fi : Int)),(8,I (q.1 : Int))],q.2.1⟩)
  (fun q => q.1 ≤ l.length ∧ Sw hp id l q.2.1 q.2.2) (fun q => l.length - q.1) (lo,hp,l) ⟨hlo,.refl hd⟩ rfl ?_
 rintro ⟨r,H,Q⟩ ⟨c1,c2⟩
 simp only at c1 c2 ⊢
 have lQ := c2.qlen
 refine hideK' fun K0 hK0 => ?_
 have cx : 2 * (r : Int) + 1 = ((2 * r + 1 : Nat) : Int) := by omega
 simp -implicitDefEqProofs (disch := omega) [wrap_id]
 rw [cx]
 refine c_split (fun hc => ?_) (fun hc => ?_)
 · subst hK0
   simp -implicitDefEqProofs (disch := omega) [wrap_id]
   exact hK _ _ c2
 · have hc : 2 * r + 1 < hi := by simp at hc; omega
   obtain ⟨ch,hch⟩ : ∃ ch,2 * r + 1 = ch := ⟨_,rfl⟩
   rw [hch] at hc ⊢
   have la := nthH_lt c2.at'
   have e1 := cW_at (l := Q) (i := fi + ch) (by omega)
   have e0 := cW_at (l := Q) (i := fi + r) (by omega)
   have s3 : ∀ o,nthH (H.set id o) id = some o := fun o => nthH_set_same la
   have y1 : ((fi : Int) + (ch : Int)).toNat = fi + ch := by omega
   have y0 : ((fi : Int) + (r : Int)).toNat = fi + r := by omega
   by_cases h2 : ch + 1 < hi
   · have e2 := cW_at (l := Q) (i := fi + ch + 1) (by omega)
     have m0 : ((ch : Int) + 1 < (hi : Int)) = True := by simp only [eq_iff_iff,iff_true]; omega
     have y2 : ((fi : Int) + (ch : Int) + 1).toNat = fi + ch + 1 := by omega
     simp -implicitDefEqProofs (disch := omega) [wrap_id,m0,c2.at',e1,e2,y1,y2,cW_len,lQ]
     refine ⟨by omega,by omega,pureW_of rfl (c_LessT_ok _ _) ?_⟩
     clear y1
     cases hf : decide (gN Q (fi + ch) < gN Q (fi + ch + 1)) with
     | true =>
       simp -implicitDefEqProofs (disch := omega) [wrap_id,cmp2,nthT]
       obtain ⟨c,hcx⟩ : ∃ c : Nat,c = ch + 1 := ⟨_,rfl⟩
       have cx2 : ((ch : Int) + 1) = (c : Int) := by omega
       rw [cx2]
       clear e1
       have e1 := cW_at (l := Q) (i := fi + c) (by omega)
       have y1 : ((fi : Int) + (c : Int)).toNat = fi + c := by omega
       simp -implicitDefEqProofs (disch := omega) [wrap_id,c2.at',e1,e0,y1,y0,cW_len,lQ,cmp2,nthT]
       refine ⟨by omega,by omega,pureW_of rfl (c_LessT_ok _ _) ?_⟩
       cases hf2 : decide (gN Q (fi + r) < gN Q (fi + c)) with
       | false =>
         subst hK0
         simp -implicitDefEqProofs (disch := omega) [wrap_id,cmp2,nthT]
         exact hK _ _ c2
       | true =>
         have p1 := cW_put (l := Q) (i := fi + r) (v := gN Q (fi + c)) (by omega)
         have p2 := cW_put2 (l := Q) (i := fi + r) (j := fi + c) (v := gN Q (fi + c)) (by omega)
         have sw := c2.swap (i := fi + r) (j := fi + c) (by omega) (by omega)
         simp -implicitDefEqProofs (disch := omega) [wrap_id,cmp2,nthT,c2.at',e1,e0,y1,y0,cW_len,lQ,la,s3,p1,p2]
         repeat (refine And.intro (by omega) ?_)
         rw [hK0]
         exact next_eq (c,_,_) ⟨by simp only; omega,sw⟩ (by simp only; omega) (by simp only)
     | false =>
       simp -implicitDefEqProofs (disch := omega) [wrap_id,cmp2,nthT]
       clear e1
       have e1 := cW_at (l := Q) (i := fi + ch) (by omega)
       have y1 : ((fi : Int) + (ch : Int)).toNat = fi + ch := by omega
       simp -implicitDefEqProofs (disch := omega) [wrap_id,c2.at',e1,e0,y1,y0,cW_len,lQ,cmp2,nthT]
       refine ⟨by omega,by omega,pureW_of rfl (c_LessT_ok _ _) ?_⟩
       cases hf2 : decide (gN Q (fi + r) < gN Q (fi + ch)) with
       | false =>
         subst hK0
         simp -implicitDefEqProofs (disch := omega) [wrap_id,cmp2,nthT]
         exact hK _ _ c2
       | true =>
         have p1 := cW_put (l := Q) (i := fi + r) (v := gN Q (fi + ch)) (by omega)
         have p2 := cW_put2 (l := Q) (i := fi + r) (j := fi + ch) (v := gN Q (fi + ch)) (by omega)
         have sw := c2.swap (i := fi + r) (j := fi + ch) (by omega) (by omega)
         simp -implicitDefEqProofs (disch := omega) [wrap_id,cmp2,nthT,c2.at',e1,e0,y1,y0,cW_len,lQ,la,s3,p1,p2]
         repeat (refine And.intro (by omega) ?_)
         rw [hK0]
         exact next_eq (ch,_,_) ⟨by simp only; omega,sw⟩ (by simp only; omega) (by simp only)
   · have m0 : ((ch : Int) + 1 < (hi : Int)) = False := by simp only [eq_iff_iff,iff_false]; omega
     clear e1 y1
     simp -implicitDefEqProofs (disch := omega) [wrap_id,m0,cmp2,nthT]
     have e1 := cW_at (l := Q) (i := fi + ch) (by omega)
     have y1 : ((fi : Int) + (ch : Int)).toNat = fi + ch := by omega
     simp -implicitDefEqProofs (disch := omega) [wrap_id,c2.at',e1,e0,y1,y0,cW_len,lQ,cmp2,nthT]
     refine ⟨by omega,by omega,pureW_of rfl (c_LessT_ok _ _) ?_⟩
     cases hf2 : decide (gN Q (fi + r) < gN Q (fi + ch)) with
     | false =>
       subst hK0
       simp -implicitDefEqProofs (disch := omega) [wrap_id,cmp2,nthT]
       exact hK _ _ c2
     | true =>
       have p1 := cW_put (l := Q) (i := fi + r) (v := gN Q (fi + ch)) (by omega)
       have p2 := cW_put2 (l := Q) (i := fi + r) (j := fi + ch) (v := gN Q (fi + ch)) (by omega)
       have sw := c2.swap (i := fi + r) (j := fi + ch) (by omega) (by omega)
       simp -implicitDefEqProofs (disch := omega) [wrap_id,cmp2,nthT,c2.at',e1,e0,y1,y0,cW_len,lQ,la,s3,p1,p2]
       repeat (refine And.intro (by omega) ?_)
       rw [hK0]
       exact next_eq (ch,_,_) ⟨by simp only; omega,sw⟩ (by simp only; omega) (by simp only)
set_option maxHeartbeats 4000000 in
theorem s_heapT_w {hp : List HObj} {id a b n : Nat} {l : List Nat} {K : AV → List HObj → Prop} (hd : nthH hp id = some (.cells (cW l))) (hn : n = l.length) (hl : l.length ≤ 5000) (ha : a ≤ b) (hb : b ≤ n)
 (hK : ∀ H Q,Sw hp id l H Q → K (.tup []) H) : CallW Tryz.prog n_s_heapSortOrderedT [.ms id 0 n 1,I (a : Int),I (b : Int)] hp K := by
 subst hn
 obtain ⟨d,rfl⟩ : ∃ d,b = a + d := ⟨b - a,by omega⟩
 have ed : ((a + d : Nat) : Int) - (a : Int) = (d : Int) := by omega
 refine walk func_s_heapSortOrderedT form_s_heapSortOrderedT res_s_heapSortOrderedT (by show 3 ≤ _; decide) ?_
 generalize hz : ((a + d : Nat) : Int) = z at ed ⊢
 simp -implicitDefEqProofs (disch := omega) [G_s_heapSortOrderedT,wrap_id,ed]
 have dx : -1 ≤ ((d : Int) - 1).tdiv 2 ∧ ((d : Int) - 1).tdiv 2 < l.length + 1 := by
  rcases Nat.eq_zero_or_pos d with h | h
  · subst h; exact ⟨by decide,by
    have e : (((0 : Nat) : Int) - 1).tdiv 2 = 0 := by decide
    rw [e]; omega⟩
  · rw [Int.tdiv_eq_ediv_of_nonneg (by omega)]; omega
 generalize ((d : Int) - 1).tdiv 2 = x0 at dx ⊢
 simp -implicitDefEqProofs (disch := omega) [wrap_id]
 refine loop_eq (fun q : Int × List HObj × List Nat => ⟨[(0,.ms id 0 l.length 1),(6,I (a : Int)),(7,I 0),(8,I (d : Int)),(9,I q.1)],q.2.1⟩)
  (fun q => -1 ≤ q.1 ∧ q.1 < l.length + 1 ∧ Sw hp id l q.2.1 q.2.2) (fun q => (q.1 + 1).toNat) (x0,hp,l) ⟨dx.1,dx.2,.refl hd⟩ rfl ?_
 rintro ⟨x,H,Q⟩ ⟨c0,c1,c2⟩
 simp only at c0 c1 c2 ⊢
 refine hideK' fun K0 hK0 => ?_
 simp -implicitDefEqProofs (disch := omega) [wrap_id]
 refine c_split (fun hc => ?_) (fun hc => ?_)
 · have hc : 0 ≤ x := by simpa using hc
   obtain ⟨x,rfl⟩ : ∃ x' : Nat,x = (x' : Int) := ⟨x.toNat,by omega⟩
   simp -implicitDefEqProofs (disch := omega) [wrap_id]
   refine s_siftT_w (l := Q) c2.at' c2.qlen.symm (by rw [c2.qlen]; exact hl) (by omega) (by omega) fun H' Q' s' => ?_
   simp -implicitDefEqProofs (disch := omega) [wrap_id]
   rw [hK0]
   exact next_eq ((x : Int) - 1,H',Q') ⟨by simp only; omega,by simp only; omega,c2.trans s'⟩ (by simp only; omega) (by simp only)
 · subst hK0
   simp -implicitDefEqProofs (disch := omega) [wrap_id]
   clear hc c0 c1
   refine loop_eq (fun q : Int × List HObj × List Nat => ⟨[(0,.ms id 0 l.length 1),(6,I (a : Int)),(7,I 0),(10,I q.1)],q.2.1⟩)
    (fun q => -1 ≤ q.1 ∧ q.1 < d ∧ Sw hp id l q.2.1 q.2.2) (fun q => (q.1 + 1).toNat) ((d : Int) - 1,H,Q) ⟨by simp only; omega,by simp only; omega,c2⟩ rfl ?_
   clear c2 H Q
   rintro ⟨x,H,Q⟩ ⟨c0,c1,c2⟩
   simp only at c0 c1 c2 ⊢
   have lQ := c2.qlen
   refine hideK' fun K0 hK0 => ?_
   simp -implicitDefEqProofs (disch := omega) [wrap_id]
   refine c_split (fun hc => ?_) (fun hc => ?_)
   · have hc : 0 ≤ x := by simpa using hc
     obtain ⟨x,rfl⟩ : ∃ x' : Nat,x = (x' : Int) := ⟨x.toNat,by omega⟩
     have la := nthH_lt c2.at'
     have e1 := cW_at (l := Q) (i := a) (by omega)
     have e0 := cW_at (l := Q) (i := a + x) (by omega)
     have y0 : ((a : Int) + (x : Int)).toNat = a + x := by omega
     have s3 : ∀ o,nthH (H.set id o) id = some o := fun o => nthH_set_same la
     have p1 := cW_put (l := Q) (i := a) (v := gN Q (a + x)) (by omega)
     have p2 := cW_put2 (l := Q) (i := a) (j := a + x) (v := gN Q (a + x)) (by omega)
     have sw := c2.swap (i := a) (j := a + x) (by omega) (by omega)
     simp -implicitDefEqProofs (disch := omega) [wrap_id,cmp2,nthT,c2.at',e1,e0,y0,cW_len,lQ,la,s3,p1,p2]
     repeat (refine And.intro (by omega) ?_)
     refine s_siftT_w (lo := 0) (l := swN Q a (a + x)) sw.at' sw.qlen.symm (by rw [sw.qlen]; exact hl) (by omega) (by omega) fun H' Q' s' => ?_
     simp -implicitDefEqProofs (disch := omega) [wrap_id]
     rw [hK0]
     exact next_eq ((x : Int) - 1,H',Q') ⟨by simp only; omega,by simp only; omega,sw.trans s'⟩ (by simp only; omega) (by simp only)
   · subst hK0
     simp -implicitDefEqProofs (disch := omega) [wrap_id]
     exact hK _ _ c2
end Go.AM

namespace Go.AM
open Go.RowKit Go.Proofs
structure Cn (hp : List HObj) (sp c k : Nat) (H : List HObj) : Prop where
 len : hp.length ≤ H.length
 oth : ∀ j,j ≠ sp → nthH H j = nthH hp j
 at' : ∃ c',c' ≤ c + k ∧ nthH H sp = some (.cells [I (c' : Int)])
theorem Cn.refl {hp : List HObj} {sp c k : Nat} (h : nthH hp sp = some (.cells [I (c : Int)])) : Cn hp sp c k hp := ⟨Nat.le_refl _,fun _ _ => rfl,c,by omega,h⟩
set_option maxHeartbeats 2000000 in
theorem s_order2T_w {hp : List HObj} {id a b n sp c : Nat} {l : List Nat} {K : AV → List HObj → Prop} (hd : nthH hp id = some (.cells (cW l))) (hn : n = l.length) (hl : l.length ≤ 5000) (ha : a < n) (hb : b < n) (hs : nthH hp sp = some (.cells [I (c : Int)])) (hc : c ≤ 1000)
 (hK : ∀ H x y,Cn hp sp c 1 H → (x = a ∧ y = b ∨ x = b ∧ y = a) → K (.tup [I (x : Int),I (y : Int)]) H) : CallW Tryz.prog n_s_order2OrderedT [.ms id 0 n 1,I (a : Int),I (b : Int),.ref sp 0] hp K := by
 subst hn
 have ea := cW_at (l := l) (i := a) ha
 have eb := cW_at (l := l) (i := b) hb
 have ls := nthH_lt hs
 refine walk func_s_order2OrderedT form_s_order2OrderedT res_s_order2OrderedT (by show 4 ≤ _; decide) ?_
 simp -implicitDefEqProofs (disch := omega) [G_s_order2OrderedT,wrap_id,cmp2,nthT,hd,ea,eb,cW_len]
 repeat (refine And.intro (by omega) ?_)
 refine pureW_of rfl (c_LessT_ok _ _) ?_
 cases hf : decide (gN l b < gN l a) with
 | true =>
   simp -implicitDefEqProofs (disch := omega) [wrap_id,cmp2,nthT,hs,ldr_some,ls]
   exact hK _ b a ⟨by simp,fun j hj => nthH_set_ne (Ne.symm hj),c + 1,by omega,by rw [nthH_set_same ls]; simp⟩ (.inr ⟨rfl,rfl⟩)
 | false =>
   simp -implicitDefEqProofs (disch := omega) [wrap_id,cmp2,nthT]
   exact hK _ a b (.refl hs) (.inl ⟨rfl,rfl⟩)
set_option maxHeartbeats 2000000 in
theorem s_medianT_w {hp : List HObj} {id a b e n sp c : Nat} {l : List Nat} {K : AV → List HObj → Prop} (hd : nthH hp id = some (.cells (cW l))) (hn : n = l.length) (hl : l.length ≤ 5000) (ha : a < n) (hb : b < n) (he : e < n) (hs : nthH hp sp = some (.cells [I (c : Int)])) (hc : c ≤ 900) (hne : sp ≠ id)
 (hK : ∀ H (x : Nat),Cn hp sp c 3 H → (x = a ∨ x = b ∨ x = e) → K (I (x : Int)) H) : CallW Tryz.prog n_s_medianOrderedT [.ms id 0 n 1,I (a : Int),I (b : Int),I (e : Int),.ref sp 0] hp K := by
 refine walk func_s_medianOrderedT form_s_medianOrderedT res_s_medianOrderedT (by show 5 ≤ _; decide) ?_
 simp -implicitDefEqProofs (disch := omega) [G_s_medianOrderedT,wrap_id]
 refine s_order2T_w hd hn hl ha hb hs (by omega) fun H1 a1 b1 h1 q1 => ?_
 obtain ⟨c1,k1,s1⟩ := h1.at'
 simp -implicitDefEqProofs (disch := omega) [wrap_id]
 refine s_order2T_w (hd := by rw [h1.oth _ (Ne.symm hne)]; exact hd) hn hl (by omega) he s1 (by omega) fun H2 b2 e2 h2 q2 => ?_
 obtain ⟨c2,k2,s2⟩ := h2.at'
 simp -implicitDefEqProofs (disch := omega) [wrap_id]
 refine s_order2T_w (hd := by rw [h2.oth _ (Ne.symm hne),h1.oth _ (Ne.symm hne)]; exact hd) hn hl (by omega) (by omega) s2 (by omega) fun H3 a3 b3 h3 q3 => ?_
 obtain ⟨c3,k3,s3⟩ := h3.at'
 simp -implicitDefEqProofs (disch := omega) [wrap_id]
 refine hK _ b3 ⟨by have := h1.len; have := h2.len; have := h3.len; omega,fun j hj => by rw [h3.oth j hj,h2.oth j hj,h1.oth j hj],c3,by omega,s3⟩ (by omega)
theorem s_medAdjT_w {hp : List HObj} {id a n sp c : Nat} {l : List Nat} {K : AV → List HObj → Prop} (hd : nthH hp id = some (.cells (cW l))) (hn : n = l.length) (hl : l.length ≤ 5000) (h1 : 1 ≤ a) (ha : a + 1 < n) (hs : nthH hp sp = some (.cells [I (c : Int)])) (hc : c ≤ 900) (hne : sp ≠ id)
 (hK : ∀ H (x : Nat),Cn hp sp c 3 H → a ≤ x + 1 → x ≤ a + 1 → K (I (x : Int)) H) : CallW Tryz.prog n_s_medianAdjacentOrderedT [.ms id 0 n 1,I (a : Int),.ref sp 0] hp K := by
 have x1 : (a : Int) - 1 = ((a - 1 : Nat) : Int) := by omega
 have x2 : (a : Int) + 1 = ((a + 1 : Nat) : Int) := by omega
 refine walk func_s_medianAdjacentOrderedT form_s_medianAdjacentOrderedT res_s_medianAdjacentOrderedT (by show 3 ≤ _; decide) ?_
 simp -implicitDefEqProofs (disch := omega) [G_s_medianAdjacentOrderedT,wrap_id]
 rw [x1,x2]
 refine s_medianT_w hd hn hl (by omega) (by omega) ha hs hc hne fun H x h q => ?_
 simp -implicitDefEqProofs (disch := omega) [wrap_id]
 exact hK _ x h (by omega) (by omega)
set_option maxHeartbeats 4000000 in
theorem s_pivotT_w {hp : List HObj} {id a b n : Nat} {l : List Nat} {K : AV → List HObj → Prop} (hd : nthH hp id = some (.cells (cW l))) (hn : n = l.length) (hl : l.length ≤ 5000) (ha : a + 4 ≤ b) (hb : b ≤ n)
 (hK : ∀ H (x hint : Nat),Sw hp id l H l → a ≤ x → x < b → hint ≤ 2 → K (.tup [I (x : Int),I (hint : Int)]) H) : CallW Tryz.prog n_s_choosePivotOrderedT [.ms id 0 n 1,I (a : Int),I (b : Int)] hp K := by
 have lt := nthH_lt hd
 obtain ⟨d,rfl⟩ : ∃ d,b = a + d := ⟨b - a,by omega⟩
 have ed : ((a + d : Nat) : Int) - (a : Int) = (d : Int) := by omega
 refine walk func_s_choosePivotOrderedT form_s_choosePivotOrderedT res_s_choosePivotOrderedT (by show 3 ≤ _; decide) ?_
 generalize hz : ((a + d : Nat) : Int) = z at ed ⊢
 simp -implicitDefEqProofs (disch := omega) [G_s_choosePivotOrderedT,wrap_id,ed]
 have hd0 : nthH (hp ++ [.cells [I 0]]) id = some (.cells (cW l)) := (nthH_front lt).trans hd
 have hs0 : nthH (hp ++ [.cells [I 0]]) hp.length = some (.cells [I ((0 : Nat) : Int)]) := (app_newK).2.1
 have ho0 : ∀ j,j < hp.length → nthH (hp ++ [.cells [I 0]]) j = nthH hp j := fun j hj => nthH_front hj
 have hl0 : (hp ++ [HObj.cells [I 0]]).length = hp.length + 1 := by simp
 obtain ⟨i0,x0⟩ : ∃ i0 : Nat,i0 = a + d / 4 := ⟨_,rfl⟩
 obtain ⟨j0,y0⟩ : ∃ j0 : Nat,j0 = a + d / 4 * 2 := ⟨_,rfl⟩
 obtain ⟨k0,w0⟩ : ∃ k0 : Nat,k0 = a + d / 4 * 3 := ⟨_,rfl⟩
 have x1 : (a : Int) + (d : Int) / 4 = (i0 : Int) := by omega
 have y1 : (a : Int) + (d : Int) / 4 * 2 = (j0 : Int) := by omega
 have w1 : (a : Int) + (d : Int) / 4 * 3 = (k0 : Int) := by omega
 rw [x1,y1,w1]
 generalize hp ++ [HObj.cells [I 0]] = H0 at hd0 hs0 ho0 hl0 ⊢
 have hne : hp.length ≠ id := by omega
 refine c_split (fun hc => ?_) (fun hc => ?_)
 · have hc : 8 ≤ d := by simp at hc; omega
   simp -implicitDefEqProofs (disch := omega) [wrap_id]
   refine c_split (fun hc2 => ?_) (fun hc2 => ?_)
   · have hc2 : 50 ≤ d := by simp at hc2; omega
     simp -implicitDefEqProofs (disch := omega) [wrap_id]
     refine s_medAdjT_w hd0 hn hl (by omega) (by omega) hs0 (by omega) hne fun H1 i1 h1 u1 v1 => ?_
     obtain ⟨c1,k1,s1⟩ := h1.at'
     have d1 : nthH H1 id = some (.cells (cW l)) := by rw [h1.oth id (by omega)]; exact hd0
     simp -implicitDefEqProofs (disch := omega) [wrap_id]
     refine s_medAdjT_w d1 hn hl (by omega) (by omega) s1 (by omega) hne fun H2 i2 h2 u2 v2 => ?_
     obtain ⟨c2,k2,s2⟩ := h2.at'
     have d2 : nthH H2 id = some (.cells (cW l)) := by rw [h2.oth id (by omega)]; exact d1
     simp -implicitDefEqProofs (disch := omega) [wrap_id]
     refine s_medAdjT_w d2 hn hl (by omega) (by omega) s2 (by omega) hne fun H3 i3 h3 u3 v3 => ?_
     obtain ⟨c3,k3,s3⟩ := h3.at'
     have d3 : nthH H3 id = some (.cells (cW l)) := by rw [h3.oth id (by omega)]; exact d2
     simp -implicitDefEqProofs (disch := omega) [wrap_id]
     refine s_medianT_w d3 hn hl (by omega) (by omega) (by omega) s3 (by omega) hne fun H4 x h4 q4 => ?_
     obtain ⟨c4,k4,s4⟩ := h4.at'
     have d4 : nthH H4 id = some (.cells (cW l)) := by rw [h4.oth id (by omega)]; exact d3
     have sw4 : Sw hp id l H4 l := ⟨by have := h1.len; have := h2.len; have := h3.len; have := h4.len; omega,fun j hj hj2 => by rw [h4.oth j (by omega),h3.oth j (by omega),h2.oth j (by omega),h1.oth j (by omega),ho0 j hj],d4,.refl _⟩
     simp -implicitDefEqProofs (disch := omega) [wrap_id,s4,ldr_some]
     by_cases z0 : c4 = 0
     · simp -implicitDefEqProofs (disch := omega) [wrap_id,z0]
       exact hK _ x 1 sw4 (by omega) (by omega) (by omega)
     · have z0' : ((c4 : Int) == 0) = false := by rw [beq_eq_false_iff_ne]; omega
       by_cases z1 : c4 = 12
       · have z1' : ((c4 : Int) == 12) = true := by rw [beq_iff_eq]; omega
         simp -implicitDefEqProofs (disch := omega) [wrap_id,z0,z0',z1']
         exact hK _ x 2 sw4 (by omega) (by omega) (by omega)
       · have z1' : ((c4 : Int) == 12) = false := by rw [beq_eq_false_iff_ne]; omega
         simp -implicitDefEqProofs (disch := omega) [wrap_id,z0,z0',z1']
         exact hK _ x 0 sw4 (by omega) (by omega) (by omega)
   · have hc2 : ¬ 50 ≤ d := by simp at hc2; omega
     simp -implicitDefEqProofs (disch := omega) [wrap_id]
     refine s_medianT_w hd0 hn hl (by omega) (by omega) (by omega) hs0 (by omega) hne fun H4 x h4 q4 => ?_
     obtain ⟨c4,k4,s4⟩ := h4.at'
     have d4 : nthH H4 id = some (.cells (cW l)) := by rw [h4.oth id (by omega)]; exact hd0
     have sw4 : Sw hp id l H4 l := ⟨by have := h4.len; omega,fun j hj hj2 => by rw [h4.oth j (by omega),ho0 j hj],d4,.refl _⟩
     simp -implicitDefEqProofs (disch := omega) [wrap_id,s4,ldr_some]
     by_cases z0 : c4 = 0
     · simp -implicitDefEqProofs (disch := omega) [wrap_id,z0]
       exact hK _ x 1 sw4 (by omega) (by omega) (by omega)
     · have z0' : ((c4 : Int) == 0) = false := by rw [beq_eq_false_iff_ne]; omega
       by_cases z1 : c4 = 12
       · have z1' : ((c4 : Int) == 12) = true := by rw [beq_iff_eq]; omega
         simp -implicitDefEqProofs (disch := omega) [wrap_id,z0,z0',z1']
         exact hK _ x 2 sw4 (by omega) (by omega) (by omega)
       · have z1' : ((c4 : Int) == 12) = false := by rw [beq_eq_false_iff_ne]; omega
         simp -implicitDefEqProofs (disch := omega) [wrap_id,z0,z0',z1']
         exact hK _ x 0 sw4 (by omega) (by omega) (by omega)
 · have hc : ¬ 8 ≤ d := by simp at hc; omega
   have sw0 : Sw hp id l H0 l := ⟨by omega,fun j hj hj2 => ho0 j hj,hd0,.refl _⟩
   simp -implicitDefEqProofs (disch := omega) [wrap_id,hs0,ldr_some]
   exact hK _ j0 1 sw0 (by omega) (by omega) (by omega)
end Go.AM

namespace Go.AM
open Go.RowKit Go.Proofs
theorem blk_post {α : Type} {P : Program} {E : HE} {c : AC} {st : St} {id : Nat} {Q : Exit → St → Prop} (fr : α → St) (post : α → Prop) (h1 : ∀ x,post x → Q .normal (fr x)) (h2 : ∀ Q',(∀ x,post x → Q' .normal (fr x)) → AWP P E c st (Exit.blk id Q')) : AWP P E c st (Exit.blk id Q) := h2 Q h1
set_option maxHeartbeats 8000000 in
theorem s_partEqT_w {hp : List HObj} {id a b p n : Nat} {l : List Nat} {K : AV → List HObj → Prop} (hd : nthH hp id = some (.cells (cW l))) (hn : n = l.length) (hl : l.length ≤ 5000) (ha : a ≤ p) (hp' : p < b) (hb : b ≤ n)
 (hK : ∀ H Q (mid : Nat),Sw hp id l H Q → a < mid → mid ≤ b → K (I (mid : Int)) H) : CallW Tryz.prog n_s_partitionEqualOrderedT [.ms id 0 n 1,I (a : Int),I (b : Int),I (p : Int)] hp K := by
 subst hn
 refine walk func_s_partitionEqualOrderedT form_s_partitionEqualOrderedT res_s_partitionEqualOrderedT (by show 4 ≤ _; decide) ?_
 have la := nthH_lt hd
 have e1 := cW_at (l := l) (i := a) (by omega)
 have e0 := cW_at (l := l) (i := p) (by omega)
 have s3 : ∀ o,nthH (hp.set id o) id = some o := fun o => nthH_set_same la
 have p1 := cW_put (l := l) (i := a) (v := gN l p) (by omega)
 have p2 := cW_put2 (l := l) (i := a) (j := p) (v := gN l p) (by omega)
 have sw := (Sw.refl hd).swap (i := a) (j := p) (by omega) (by omega)
 have bx : (b : Int) - 1 = ((b - 1 : Nat) : Int) := by omega
 simp -implicitDefEqProofs (disch := omega) [G_s_partitionEqualOrderedT,wrap_id,cmp2,nthT,hd,e1,e0,cW_len,la,s3,p1,p2]
 repeat (refine And.intro (by omega) ?_)
 rw [bx]
 clear p1 p2 e0 e1 s3 la
 generalize hp.set id (.cells (cW ((l.set a (gN l p)).set p (gN l a)))) = H0 at sw ⊢
 generalize swN l a p = Q0 at sw ⊢
 refine loop_eq (fun q : Nat × Nat × List HObj × List Nat => ⟨[(0,.ms id 0 l.length 1),(1,I (a : Int)),(9,I (q.1 : Int)),(10,I (q.2.1 : Int))],q.2.2.1⟩)
  (fun q => a + 1 ≤ q.1 ∧ a ≤ q.2.1 ∧ q.2.1 < b ∧ q.1 ≤ q.2.1 + 1 ∧ Sw hp id l q.2.2.1 q.2.2.2) (fun q => q.2.1 + 1 - q.1) (a + 1,b - 1,H0,Q0) ⟨by simp only; omega,by simp only; omega,by simp only; omega,by simp only; omega,sw⟩ (by simp; try omega) ?_
 clear sw
 rintro ⟨i0,j0,H,Q⟩ ⟨c0,c1,c2,c3,sw⟩
 simp only at c0 c1 c2 c3 sw ⊢
 have lQ := sw.qlen
 have ea := cW_at (l := Q) (i := a) (by omega)
 refine hideK' fun K0 hK0 => ?_
 simp -implicitDefEqProofs (disch := omega) [wrap_id]
 refine blk_post (fun i : Nat => ⟨[(0,.ms id 0 l.length 1),(1,I (a : Int)),(9,I (i : Int)),(10,I (j0 : Int)),(43,B false)],H⟩) (fun i => i0 ≤ i ∧ i ≤ max i0 (j0 + 1) ∧ (i ≤ j0 → gN Q a < gN Q i)) (fun i hi => ?_) (fun K1' hK1' => ?_)
 rotate_left
 · refine loop_of (fun i : Nat => ⟨[(0,.ms id 0 l.length 1),(1,I (a : Int)),(9,I (i : Int)),(10,I (j0 : Int))],H⟩) (fun i => i0 ≤ i ∧ i ≤ max i0 (j0 + 1)) (fun i => j0 + 1 - i) i0 ⟨Nat.le_refl _,by omega⟩ (le_sub (by simp)) ?_
   rintro i ⟨d0,d1⟩
   refine hideK' fun K1 hK1 => ?_
   by_cases hij : i ≤ j0
   · have m0 : ((i : Int) ≤ (j0 : Int)) = True := by simp only [eq_iff_iff,iff_true]; omega
     have ix : ((i : Int) + 1) = ((i + 1 : Nat) : Int) := by omega
     have ei := cW_at (l := Q) (i := i) (by omega)
     simp -implicitDefEqProofs (disch := omega) [wrap_id,cmp2,nthT,m0,hij,sw.at',ea,ei,cW_len,lQ]
     repeat (refine And.intro (by omega) ?_)
     refine pureW_of rfl (c_LessT_ok _ _) ?_
     cases hf : decide (gN Q a < gN Q i) with
     | true =>
       subst hK1
       simp -implicitDefEqProofs (disch := omega) [wrap_id,cmp2,nthT]
       exact hK1' i ⟨d0,d1,fun _ => by simpa using hf⟩
     | false =>
       simp -implicitDefEqProofs (disch := omega) [wrap_id,cmp2,nthT]
       rw [hK1]
       exact next_eq (i + 1) ⟨by omega,by omega⟩ (by omega) (by simp only [ix])
   · have m0 : ((i : Int) ≤ (j0 : Int)) = False := by simp only [eq_iff_iff,iff_false]; omega
     subst hK1
     simp -implicitDefEqProofs (disch := omega) [wrap_id,cmp2,nthT,m0,hij]
     exact hK1' i ⟨d0,d1,fun h => absurd h hij⟩
 obtain ⟨i1,i2,i3⟩ := hi
 simp -implicitDefEqProofs (disch := omega) [wrap_id]
 refine blk_post (fun j : Nat => ⟨[(0,.ms id 0 l.length 1),(1,I (a : Int)),(9,I (i : Int)),(10,I (j : Int)),(59,B false)],H⟩) (fun j => j ≤ j0 ∧ min j0 (i - 1) ≤ j ∧ (i ≤ j → ¬ gN Q a < gN Q j)) (fun j hj => ?_) (fun K1' hK1' => ?_)
 rotate_left
 · refine loop_of (fun j : Nat => ⟨[(0,.ms id 0 l.length 1),(1,I (a : Int)),(9,I (i : Int)),(10,I (j : Int))],H⟩) (fun j => j ≤ j0 ∧ min j0 (i - 1) ≤ j) (fun j => j) j0 ⟨Nat.le_refl _,by omega⟩ (le_sub (by simp)) ?_
   rintro j ⟨d0,d1⟩
   refine hideK' fun K1 hK1 => ?_
   by_cases hij : i ≤ j
   · have m0 : ((i : Int) ≤ (j : Int)) = True := by simp only [eq_iff_iff,iff_true]; omega
     have jx : ((j : Int) - 1) = ((j - 1 : Nat) : Int) := by omega
     have ej := cW_at (l := Q) (i := j) (by omega)
     simp -implicitDefEqProofs (disch := omega) [wrap_id,cmp2,nthT,m0,hij,sw.at',ea,ej,cW_len,lQ]
     repeat (refine And.intro (by omega) ?_)
     refine pureW_of rfl (c_LessT_ok _ _) ?_
     cases hf : decide (gN Q a < gN Q j) with
     | false =>
       subst hK1
       simp -implicitDefEqProofs (disch := omega) [wrap_id,cmp2,nthT]
       exact hK1' j ⟨d0,d1,fun _ => by simpa using hf⟩
     | true =>
       simp -implicitDefEqProofs (disch := omega) [wrap_id,cmp2,nthT]
       rw [hK1]
       exact next_eq (j - 1) ⟨by omega,by omega⟩ (by simp only; omega) (by simp only [jx])
   · have m0 : ((i : Int) ≤ (j : Int)) = False := by simp only [eq_iff_iff,iff_false]; omega
     subst hK1
     simp -implicitDefEqProofs (disch := omega) [wrap_id,cmp2,nthT,m0,hij]
     exact hK1' j ⟨d0,d1,fun h => absurd h hij⟩
 obtain ⟨j1,j2,j3⟩ := hj
 simp -implicitDefEqProofs (disch := omega) [wrap_id]
 refine c_split (fun hc => ?_) (fun hc => ?_)
 · have hc : j < i := by simpa using hc
   subst hK0
   simp -implicitDefEqProofs (disch := omega) [wrap_id]
   exact hK _ _ i sw (by omega) (by omega)
 · have hc : i ≤ j := by simpa using hc
   have hne : i ≠ j := fun e => by subst e; exact j3 (Nat.le_refl _) (i3 (by omega))
   have ix : ((i : Int) + 1) = ((i + 1 : Nat) : Int) := by omega
   have jx : ((j : Int) - 1) = ((j - 1 : Nat) : Int) := by omega
   have la := nthH_lt sw.at'
   have ei := cW_at (l := Q) (i := i) (by omega)
   have ej := cW_at (l := Q) (i := j) (by omega)
   have s3 : ∀ o,nthH (H.set id o) id = some o := fun o => nthH_set_same la
   have p1 := cW_put (l := Q) (i := i) (v := gN Q j) (by omega)
   have p2 := cW_put2 (l := Q) (i := i) (j := j) (v := gN Q j) (by omega)
   have sw2 := sw.swap (i := i) (j := j) (by omega) (by omega)
   simp -implicitDefEqProofs (disch := omega) [wrap_id,cmp2,nthT,sw.at',ei,ej,cW_len,lQ,la,s3,p1,p2]
   repeat (refine And.intro (by omega) ?_)
   rw [hK0]
   exact next_eq (i + 1,j - 1,_,_) ⟨by simp only; omega,by simp only; omega,by simp only; omega,by simp only; omega,sw2⟩ (by simp only; omega) (by simp only [ix,jx])
set_option maxHeartbeats 8000000 in
theorem s_partT_w {hp : List HObj} {id a b p n : Nat} {l : List Nat} {K : AV → List HObj → Prop} (hd : nthH hp id = some (.cells (cW l))) (hn : n = l.length) (hl : l.length ≤ 5000) (ha : a ≤ p) (hp' : p < b) (hb : b ≤ n)
 (hK : ∀ H Q (mid : Nat) (q : Bool),Sw hp id l H Q → a ≤ mid → mid < b → K (.tup [I (mid : Int),B q]) H) : CallW Tryz.prog n_s_partitionOrderedT [.ms id 0 n 1,I (a : Int),I (b : Int),I (p : Int)] hp K := by
 subst hn
 refine walk func_s_partitionOrderedT form_s_partitionOrderedT res_s_partitionOrderedT (by show 4 ≤ _; decide) ?_
 have la := nthH_lt hd
 have e1 := cW_at (l := l) (i := a) (by omega)
 have e0 := cW_at (l := l) (i := p) (by omega)
 have s3 : ∀ o,nthH (hp.set id o) id = some o := fun o => nthH_set_same la
 have p1 := cW_put (l := l) (i := a) (v := gN l p) (by omega)
 have p2 := cW_put2 (l := l) (i := a) (j := p) (v := gN l p) (by omega)
 have sw := (Sw.refl hd).swap (i := a) (j := p) (by omega) (by omega)
 have bx : (b : Int) - 1 = ((b - 1 : Nat) : Int) := by omega
 simp -implicitDefEqProofs (disch := omega) [G_s_partitionOrderedT,wrap_id,cmp2,nthT,hd,e1,e0,cW_len,la,s3,p1,p2]
 repeat (refine And.intro (by omega) ?_)
 rw [bx]
 clear p1 p2 e0 e1 s3 la
 generalize hp.set id (.cells (cW ((l.set a (gN l p)).set p (gN l a)))) = H at sw ⊢
 generalize swN l a p = Q at sw ⊢
 have c1 : a ≤ b - 1 := by omega
 have lQ := sw.qlen
 have ea := cW_at (l := Q) (i := a) (by omega)
 obtain ⟨i0,hi0⟩ : ∃ i0,i0 = a + 1 := ⟨_,rfl⟩
 obtain ⟨j0,hj0⟩ : ∃ j0,j0 = b - 1 := ⟨_,rfl⟩
 have ax : ((a : Int) + 1) = (i0 : Int) := by omega
 rw [ax,← hj0]
 refine blk_post (fun i : Nat => ⟨[(0,.ms id 0 l.length 1),(1,I (a : Int)),(10,I (i : Int)),(11,I (j0 : Int)),(43,B false)],H⟩) (fun i => i0 ≤ i ∧ i ≤ max i0 (j0 + 1) ∧ (i ≤ j0 → ¬ gN Q i < gN Q a)) (fun i hi => ?_) (fun K1' hK1' => ?_)
 rotate_left
 · refine loop_of (fun i : Nat => ⟨[(0,.ms id 0 l.length 1),(1,I (a : Int)),(10,I (i : Int)),(11,I (j0 : Int))],H⟩) (fun i => i0 ≤ i ∧ i ≤ max i0 (j0 + 1)) (fun i => j0 + 1 - i) i0 ⟨Nat.le_refl _,by omega⟩ (le_sub (by simp)) ?_
   rintro i ⟨d0,d1⟩
   refine hideK' fun K1 hK1 => ?_
   by_cases hij : i ≤ j0
   · have m0 : ((i : Int) ≤ (j0 : Int)) = True := by simp only [eq_iff_iff,iff_true]; omega
     have ix : ((i : Int) + 1) = ((i + 1 : Nat) : Int) := by omega
     have ei := cW_at (l := Q) (i := i) (by omega)
     simp -implicitDefEqProofs (disch := omega) [wrap_id,cmp2,nthT,m0,hij,sw.at',ea,ei,cW_len,lQ]
     repeat (refine And.intro (by omega) ?_)
     refine pureW_of rfl (c_LessT_ok _ _) ?_
     cases hf : decide (gN Q i < gN Q a) with
     | false =>
       subst hK1
       simp -implicitDefEqProofs (disch := omega) [wrap_id,cmp2,nthT]
       exact hK1' i ⟨d0,d1,fun _ => by simpa using hf⟩
     | true =>
       simp -implicitDefEqProofs (disch := omega) [wrap_id,cmp2,nthT]
       rw [hK1]
       exact next_eq (i + 1) ⟨by omega,by omega⟩ (by omega) (by simp only [ix])
   · have m0 : ((i : Int) ≤ (j0 : Int)) = False := by simp only [eq_iff_iff,iff_false]; omega
     subst hK1
     simp -implicitDefEqProofs (disch := omega) [wrap_id,cmp2,nthT,m0,hij]
     exact hK1' i ⟨d0,d1,fun h => absurd h hij⟩
 obtain ⟨i1,i2,i3⟩ := hi
 simp -implicitDefEqProofs (disch := omega) [wrap_id]
 refine blk_post (fun j : Nat => ⟨[(0,.ms id 0 l.length 1),(1,I (a : Int)),(10,I (i : Int)),(11,I (j : Int)),(60,B false)],H⟩) (fun j => j ≤ j0 ∧ min j0 (i - 1) ≤ j ∧ (i ≤ j → gN Q j < gN Q a)) (fun j hj => ?_) (fun K1' hK1' => ?_)
 rotate_left
 · refine loop_of (fun j : Nat => ⟨[(0,.ms id 0 l.length 1),(1,I (a : Int)),(10,I (i : Int)),(11,I (j : Int))],H⟩) (fun j => j ≤ j0 ∧ min j0 (i - 1) ≤ j) (fun j => j) j0 ⟨Nat.le_refl _,by omega⟩ (le_sub (by simp)) ?_
   rintro j ⟨d0,d1⟩
   refine hideK' fun K1 hK1 => ?_
   by_cases hij : i ≤ j
   · have m0 : ((i : Int) ≤ (j : Int)) = True := by simp only [eq_iff_iff,iff_true]; omega
     have jx : ((j : Int) - 1) = ((j - 1 : Nat) : Int) := by omega
     have ej := cW_at (l := Q) (i := j) (by omega)
     simp -implicitDefEqProofs (disch := omega) [wrap_id,cmp2,nthT,m0,hij,sw.at',ea,ej,cW_len,lQ]
     repeat (refine And.intro (by omega) ?_)
     refine pureW_of rfl (c_LessT_ok _ _) ?_
     cases hf : decide (gN Q j < gN Q a) with
     | true =>
       subst hK1
       simp -implicitDefEqProofs (disch := omega) [wrap_id,cmp2,nthT]
       exact hK1' j ⟨d0,d1,fun _ => by simpa using hf⟩
     | false =>
       simp -implicitDefEqProofs (disch := omega) [wrap_id,cmp2,nthT]
       rw [hK1]
       exact next_eq (j - 1) ⟨by omega,by omega⟩ (by simp only; omega) (by simp only [jx])
   · have m0 : ((i : Int) ≤ (j : Int)) = False := by simp only [eq_iff_iff,iff_false]; omega
     subst hK1
     simp -implicitDefEqProofs (disch := omega) [wrap_id,cmp2,nthT,m0,hij]
     exact hK1' j ⟨d0,d1,fun h => absurd h hij⟩
 obtain ⟨j1,j2,j3⟩ := hj
 simp -implicitDefEqProofs (disch := omega) [wrap_id]
 refine c_split (fun hc => ?_) (fun hc => ?_)
 · have hc : j < i := by simpa using hc
   have la := nthH_lt sw.at'
   have ei := cW_at (l := Q) (i := j) (by omega)
   have ej := cW_at (l := Q) (i := a) (by omega)
   have s3 : ∀ o,nthH (H.set id o) id = some o := fun o => nthH_set_same la
   have p1 := cW_put (l := Q) (i := j) (v := gN Q a) (by omega)
   have p2 := cW_put2 (l := Q) (i := j) (j := a) (v := gN Q a) (by omega)
   have sw2 := sw.swap (i := j) (j := a) (by omega) (by omega)
   simp -implicitDefEqProofs (disch := omega) [wrap_id,cmp2,nthT,sw.at',ei,ej,cW_len,lQ,la,s3,p1,p2]
   repeat (refine And.intro (by omega) ?_)
   exact hK _ _ j _ sw2 (by omega) (by omega)
 · have hc : i ≤ j := by simpa using hc
   have ix : ((i : Int) + 1) = ((i + 1 : Nat) : Int) := by omega
   have jx : ((j : Int) - 1) = ((j - 1 : Nat) : Int) := by omega
   have la := nthH_lt sw.at'
   have ei := cW_at (l := Q) (i := i) (by omega)
   have ej := cW_at (l := Q) (i := j) (by omega)
   have s3 : ∀ o,nthH (H.set id o) id = some o := fun o => nthH_set_same la
   have p1 := cW_put (l := Q) (i := i) (v := gN Q j) (by omega)
   have p2 := cW_put2 (l := Q) (i := i) (j := j) (v := gN Q j) (by omega)
   have sw2 := sw.swap (i := i) (j := j) (by omega) (by omega)
   simp -implicitDefEqProofs (disch := omega) [wrap_id,cmp2,nthT,sw.at',ei,ej,cW_len,lQ,la,s3,p1,p2]
   repeat (refine And.intro (by omega) ?_)
   rw [ix,jx]
   have q1 : a + 1 ≤ i + 1 ∧ a ≤ j - 1 ∧ j - 1 < b ∧ i + 1 ≤ j - 1 + 2 := by omega
   generalize H.set id (.cells (cW ((Q.set i (gN Q j)).set j (gN Q i)))) = H0 at sw2 ⊢
   generalize swN Q i j = Q0 at sw2 ⊢
   generalize i + 1 = x0 at q1 ⊢
   generalize j - 1 = y0 at q1 ⊢
   clear p1 p2 s3 la ei ej i3 j3 i1 i2 j1 j2 ix jx hc sw lQ ea
   obtain ⟨q1,q2,q3,q4⟩ := q1
   refine loop_of (fun q : Nat × Nat × List HObj × List Nat => ⟨[(0,.ms id 0 l.length 1),(1,I (a : Int)),(10,I (q.1 : Int)),(11,I (q.2.1 : Int))],q.2.2.1⟩)
    (fun q => a + 1 ≤ q.1 ∧ a ≤ q.2.1 ∧ q.2.1 < b ∧ q.1 ≤ q.2.1 + 2 ∧ Sw hp id l q.2.2.1 q.2.2.2) (fun q => q.2.1 + 2 - q.1) (x0,y0,H0,Q0) ⟨q1,q2,q3,q4,sw2⟩ (le_sub (by simp)) ?_
   clear sw2 q1 q2 q3 q4
   rintro ⟨i0,j0,H,Q⟩ ⟨c0,c1,c2,c3,sw⟩
   simp only at c0 c1 c2 c3 sw ⊢
   have lQ := sw.qlen
   have ea := cW_at (l := Q) (i := a) (by omega)
   refine hideK' fun K0 hK0 => ?_
   simp -implicitDefEqProofs (disch := omega) [wrap_id]
   refine blk_post (fun i : Nat => ⟨[(0,.ms id 0 l.length 1),(1,I (a : Int)),(10,I (i : Int)),(11,I (j0 : Int)),(112,B false)],H⟩) (fun i => i0 ≤ i ∧ i ≤ max i0 (j0 + 1) ∧ (i ≤ j0 → ¬ gN Q i < gN Q a)) (fun i hi => ?_) (fun K1' hK1' => ?_)
   rotate_left
   · refine loop_of (fun i : Nat => ⟨[(0,.ms id 0 l.length 1),(1,I (a : Int)),(10,I (i : Int)),(11,I (j0 : Int))],H⟩) (fun i => i0 ≤ i ∧ i ≤ max i0 (j0 + 1)) (fun i => j0 + 1 - i) i0 ⟨Nat.le_refl _,by omega⟩ (le_sub (by simp)) ?_
     rintro i ⟨d0,d1⟩
     refine hideK' fun K1 hK1 => ?_
     by_cases hij : i ≤ j0
     · have m0 : ((i : Int) ≤ (j0 : Int)) = True := by simp only [eq_iff_iff,iff_true]; omega
       have ix : ((i : Int) + 1) = ((i + 1 : Nat) : Int) := by omega
       have ei := cW_at (l := Q) (i := i) (by omega)
       simp -implicitDefEqProofs (disch := omega) [wrap_id,cmp2,nthT,m0,hij,sw.at',ea,ei,cW_len,lQ]
       repeat (refine And.intro (by omega) ?_)
       refine pureW_of rfl (c_LessT_ok _ _) ?_
       cases hf : decide (gN Q i < gN Q a) with
       | false =>
         subst hK1
         simp -implicitDefEqProofs (disch := omega) [wrap_id,cmp2,nthT]
         exact hK1' i ⟨d0,d1,fun _ => by simpa using hf⟩
       | true =>
         simp -implicitDefEqProofs (disch := omega) [wrap_id,cmp2,nthT]
         rw [hK1]
         exact next_eq (i + 1) ⟨by omega,by omega⟩ (by omega) (by simp only [ix])
     · have m0 : ((i : Int) ≤ (j0 : Int)) = False := by simp only [eq_iff_iff,iff_false]; omega
       subst hK1
       simp -implicitDefEqProofs (disch := omega) [wrap_id,cmp2,nthT,m0,hij]
       exact hK1' i ⟨d0,d1,fun h => absurd h hij⟩
   obtain ⟨i1,i2,i3⟩ := hi
   simp -implicitDefEqProofs (disch := omega) [wrap_id]
   refine blk_post (fun j : Nat => ⟨[(0,.ms id 0 l.length 1),(1,I (a : Int)),(10,I (i : Int)),(11,I (j : Int)),(129,B false)],H⟩) (fun j => j ≤ j0 ∧ min j0 (i - 1) ≤ j ∧ (i ≤ j → gN Q j < gN Q a)) (fun j hj => ?_) (fun K1' hK1' => ?_)
   rotate_left
   · refine loop_of (fun j : Nat => ⟨[(0,.ms id 0 l.length 1),(1,I (a : Int)),(10,I (i : Int)),(11,I (j : Int))],H⟩) (fun j => j ≤ j0 ∧ min j0 (i - 1) ≤ j) (fun j => j) j0 ⟨Nat.le_refl _,by omega⟩ (le_sub (by simp)) ?_
     rintro j ⟨d0,d1⟩
     refine hideK' fun K1 hK1 => ?_
     by_cases hij : i ≤ j
     · have m0 : ((i : Int) ≤ (j : Int)) = True := by simp only [eq_iff_iff,iff_true]; omega
       have jx : ((j : Int) - 1) = ((j - 1 : Nat) : Int) := by omega
       have ej := cW_at (l := Q) (i := j) (by omega)
       simp -implicitDefEqProofs (disch := omega) [wrap_id,cmp2,nthT,m0,hij,sw.at',ea,ej,cW_len,lQ]
       repeat (refine And.intro (by omega) ?_)
       refine pureW_of rfl (c_LessT_ok _ _) ?_
       cases hf : decide (gN Q j < gN Q a) with
       | true =>
         subst hK1
         simp -implicitDefEqProofs (disch := omega) [wrap_id,cmp2,nthT]
         exact hK1' j ⟨d0,d1,fun _ => by simpa using hf⟩
       | false =>
         simp -implicitDefEqProofs (disch := omega) [wrap_id,cmp2,nthT]
         rw [hK1]
         exact next_eq (j - 1) ⟨by omega,by omega⟩ (by simp only; omega) (by simp only [jx])
     · have m0 : ((i : Int) ≤ (j : Int)) = False := by simp only [eq_iff_iff,iff_false]; omega
       subst hK1
       simp -implicitDefEqProofs (disch := omega) [wrap_id,cmp2,nthT,m0,hij]
       exact hK1' j ⟨d0,d1,fun h => absurd h hij⟩
   obtain ⟨j1,j2,j3⟩ := hj
   simp -implicitDefEqProofs (disch := omega) [wrap_id]
   refine c_split (fun hc => ?_) (fun hc => ?_)
   · have hc : j < i := by simpa using hc
     subst hK0
     simp -implicitDefEqProofs (disch := omega) [wrap_id]
     have la := nthH_lt sw.at'
     have ei := cW_at (l := Q) (i := j) (by omega)
     have ej := cW_at (l := Q) (i := a) (by omega)
     have s3 : ∀ o,nthH (H.set id o) id = some o := fun o => nthH_set_same la
     have p1 := cW_put (l := Q) (i := j) (v := gN Q a) (by omega)
     have p2 := cW_put2 (l := Q) (i := j) (j := a) (v := gN Q a) (by omega)
     have sw2 := sw.swap (i := j) (j := a) (by omega) (by omega)
     simp -implicitDefEqProofs (disch := omega) [wrap_id,cmp2,nthT,sw.at',ei,ej,cW_len,lQ,la,s3,p1,p2]
     repeat (refine And.intro (by omega) ?_)
     exact hK _ _ j _ sw2 (by omega) (by omega)
   · have hc : i ≤ j := by simpa using hc
     have ix : ((i : Int) + 1) = ((i + 1 : Nat) : Int) := by omega
     have jx : ((j : Int) - 1) = ((j - 1 : Nat) : Int) := by omega
     have la := nthH_lt sw.at'
     have ei := cW_at (l := Q) (i := i) (by omega)
     have ej := cW_at (l := Q) (i := j) (by omega)
     have s3 : ∀ o,nthH (H.set id o) id = some o := fun o => nthH_set_same la
     have p1 := cW_put (l := Q) (i := i) (v := gN Q j) (by omega)
     have p2 := cW_put2 (l := Q) (i := i) (j := j) (v := gN Q j) (by omega)
     have sw2 := sw.swap (i := i) (j := j) (by omega) (by omega)
     simp -implicitDefEqProofs (disch := omega) [wrap_id,cmp2,nthT,sw.at',ei,ej,cW_len,lQ,la,s3,p1,p2]
     repeat (refine And.intro (by omega) ?_)
     rw [hK0]
     exact next_eq (i + 1,j - 1,_,_) ⟨by simp only; omega,by simp only; omega,by simp only; omega,by simp only; omega,sw2⟩ (by simp only; omega) (by simp only [ix,jx])
end Go.AM

namespace Go.AM
open Go.RowKit Go.Proofs
theorem cb_post {α : Type} {P : Program} {E : HE} {b : Bool} {x y : AC} {st : St} {Q : Exit → St → Prop} (fr : α → St) (post : α → Prop) (h1 : ∀ q,post q → Q .normal (fr q)) (h2 : ∀ Q' : Exit → St → Prop,(∀ q,post q → Q' .normal (fr q)) → CondB P E b x y st Q') : CondB P E b x y st Q := h2 Q h1
theorem next_of {α : Type} {I : α → St} {C : α → Prop} {μ : α → Nat} {a : α} {st : St} (a' : α) (h : C a') (hm : μ a' < μ a) (hs : St.le st (I a')) : Next I C μ a st := ⟨a',h,hm,hs⟩
set_option maxHeartbeats 8000000 in
theorem s_partialT_w {hp : List HObj} {id a b n : Nat} {l : List Nat} {K : AV → List HObj → Prop} (hd : nthH hp id = some (.cells (cW l))) (hn : n = l.length) (hl : l.length ≤ 5000) (ha : a + 4 ≤ b) (hb : b ≤ n)
 (hK : ∀ H Q (q : Bool),Sw hp id l H Q → K (B q) H) : CallW Tryz.prog n_s_partialInsertionSortOrderedT [.ms id 0 n 1,I (a : Int),I (b : Int)] hp K := by
 subst hn
 refine walk func_s_partialInsertionSortOrderedT form_s_partialInsertionSortOrderedT res_s_partialInsertionSortOrderedT (by show 3 ≤ _; decide) ?_
 simp -implicitDefEqProofs (disch := omega) [G_s_partialInsertionSortOrderedT,wrap_id]
 have ax : ((a : Int) + 1) = ((a + 1 : Nat) : Int) := by omega
 refine loop_of (fun q : Nat × Nat × List HObj × List Nat => ⟨[(0,.ms id 0 l.length 1),(1,I (a : Int)),(2,I (b : Int)),(7,I (q.1 : Int)),(8,I (q.2.1 : Int))],q.2.2.1⟩)
  (fun q => a + 1 ≤ q.1 ∧ q.1 ≤ b ∧ q.2.1 ≤ 5 ∧ Sw hp id l q.2.2.1 q.2.2.2) (fun q => 5 - q.2.1) (a + 1,0,hp,l) ⟨Nat.le_refl _,by simp only; omega,by simp only; omega,.refl hd⟩ (le_sub (by simp)) ?_
 rintro ⟨i,j,H,Q⟩ ⟨c0,c1,c2,sw⟩
 simp only at c0 c1 c2 sw ⊢
 have lQ := sw.qlen
 refine hideK' fun K0 hK0 => ?_
 simp -implicitDefEqProofs (disch := omega) [wrap_id]
 refine c_split (fun hc => ?_) (fun hc => ?_)
 · have hc5 : j < 5 := by simp at hc; omega
   have jx : ((j : Int) + 1) = ((j + 1 : Nat) : Int) := by omega
   simp -implicitDefEqProofs (disch := omega) [wrap_id]
   refine blk_post (fun i : Nat => ⟨[(0,.ms id 0 l.length 1),(1,I (a : Int)),(2,I (b : Int)),(7,I (i : Int)),(8,I (j : Int)),(32,B false)],H⟩) (fun i => a + 1 ≤ i ∧ i ≤ b) (fun i hi => ?_) (fun K1' hK1' => ?_)
   rotate_left
   · refine loop_of (fun i : Nat => ⟨[(0,.ms id 0 l.length 1),(1,I (a : Int)),(2,I (b : Int)),(7,I (i : Int)),(8,I (j : Int))],H⟩) (fun i => a + 1 ≤ i ∧ i ≤ b) (fun i => b - i) i ⟨c0,c1⟩ (le_sub (by simp)) ?_
     rintro i ⟨d0,d1⟩
     refine hideK' fun K1 hK1 => ?_
     by_cases hij : i < b
     · have m0 : ((i : Int) < (b : Int)) = True := by simp only [eq_iff_iff,iff_true]; omega
       have ix : ((i : Int) + 1) = ((i + 1 : Nat) : Int) := by omega
       have kx : ((i : Int) - 1).toNat = i - 1 := by omega
       have ei := cW_at (l := Q) (i := i) (by omega)
       have em := cW_at (l := Q) (i := i - 1) (by omega)
       simp -implicitDefEqProofs (disch := omega) [wrap_id,cmp2,nthT,m0,hij,sw.at',ei,em,kx,cW_len,lQ]
       repeat (refine And.intro (by omega) ?_)
       refine pureW_of rfl (c_LessT_ok _ _) ?_
       cases hf : decide (gN Q i < gN Q (i - 1)) with
       | true =>
         subst hK1
         simp -implicitDefEqProofs (disch := omega) [wrap_id,cmp2,nthT]
         exact hK1' i ⟨d0,d1⟩
       | false =>
         simp -implicitDefEqProofs (disch := omega) [wrap_id,cmp2,nthT]
         rw [hK1]
         exact next_eq (i + 1) ⟨by omega,by omega⟩ (by omega) (by simp only [ix])
     · have m0 : ((i : Int) < (b : Int)) = False := by simp only [eq_iff_iff,iff_false]; omega
       subst hK1
       simp -implicitDefEqProofs (disch := omega) [wrap_id,cmp2,nthT,m0,hij]
       exact hK1' i ⟨d0,d1⟩
   clear c0 c1
   rename_i i00
   obtain ⟨c0,c1⟩ := hi
   simp -implicitDefEqProofs (disch := omega) [wrap_id]
   refine c_split (fun hc => ?_) (fun hc => ?_)
   · subst hK0
     simp -implicitDefEqProofs (disch := omega) [wrap_id]
     exact hK _ _ _ sw
   have hib : i < b := by simp at hc; omega
   simp -implicitDefEqProofs (disch := omega) [wrap_id]
   refine c_split (fun hc => ?_) (fun hc => ?_)
   · subst hK0
     simp -implicitDefEqProofs (disch := omega) [wrap_id]
     exact hK _ _ _ sw
   obtain ⟨m,hm⟩ : ∃ m,m + 1 = i := ⟨i - 1,by omega⟩
   have ek := cW_at (l := Q) (i := i) (by omega)
   have em := cW_at (l := Q) (i := m) (by omega)
   have kx : ((i : Int) - 1).toNat = m := by omega
   have la := nthH_lt sw.at'
   have s3 : ∀ o,nthH (H.set id o) id = some o := fun o => nthH_set_same la
   have p1 := cW_put (l := Q) (i := i) (v := gN Q m) (by omega)
   have p2 := cW_put2 (l := Q) (i := i) (j := m) (v := gN Q m) (by omega)
   have sw2 := sw.swap (i := i) (j := m) (by omega) (by omega)
   simp -implicitDefEqProofs (disch := omega) [wrap_id,cmp2,nthT,sw.at',ek,em,kx,cW_len,lQ,la,s3,p1,p2]
   repeat (refine And.intro (by omega) ?_)
   clear p1 p2 s3 la ek em sw lQ
   have sw := sw2
   clear sw2
   generalize H.set id (.cells (cW ((Q.set i (gN Q m)).set m (gN Q i)))) = H at sw ⊢
   generalize swN Q i m = Q at sw ⊢
   have lQ := sw.qlen
   refine cb_post (fun q : List (Nat × AV) × List HObj × List Nat => ⟨(0,.ms id 0 l.length 1) :: (1,I (a : Int)) :: (2,I (b : Int)) :: (7,I (i : Int)) :: (8,I (j : Int)) :: q.1,q.2.1⟩) (fun q => Sw hp id l q.2.1 q.2.2) (fun q hq => ?_) (fun F' hF' => ?_)
   rotate_left
   · refine c_split (fun hc => ?_) (fun hc => ?_)
     · have hc : 2 ≤ i - a := by simp at hc; omega
       simp -implicitDefEqProofs (disch := omega) [wrap_id]
       refine blk_post (fun q : Nat × List (Nat × AV) × List HObj × List Nat => ⟨(0,.ms id 0 l.length 1) :: (1,I (a : Int)) :: (2,I (b : Int)) :: (7,I (i : Int)) :: (8,I (j : Int)) :: (9,I (q.1 : Int)) :: q.2.1,q.2.2.1⟩) (fun q => Sw hp id l q.2.2.1 q.2.2.2) (fun q hq => ?_) (fun K1' hK1' => ?_)
       rotate_left
       · refine loop_of (fun q : Nat × List HObj × List Nat => ⟨(0,.ms id 0 l.length 1) :: (1,I (a : Int)) :: (2,I (b : Int)) :: (7,I (i : Int)) :: (8,I (j : Int)) :: (9,I (q.1 : Int)) :: [],q.2.1⟩) (fun q => q.1 < b ∧ Sw hp id l q.2.1 q.2.2) (fun q => q.1) (i - 1,H,Q) ⟨by simp only; omega,sw⟩ (le_sub (by simp; try omega)) ?_
         clear sw lQ
         rintro ⟨k,H,Q⟩ ⟨f0,sw⟩
         simp only at f0 sw ⊢
         have lQ := sw.qlen
         refine hideK' fun K1 hK1 => ?_
         simp -implicitDefEqProofs (disch := omega) [wrap_id]
         refine c_split (fun hc => ?_) (fun hc => ?_)
         · have hc : 1 ≤ k := by simp at hc; omega
           obtain ⟨m,hm⟩ : ∃ m,m + 1 = k := ⟨k - 1,by omega⟩
           have ek := cW_at (l := Q) (i := k) (by omega)
           have em := cW_at (l := Q) (i := m) (by omega)
           have kx : ((k : Int) - 1).toNat = m := by omega
           simp -implicitDefEqProofs (disch := omega) [wrap_id,cmp2,nthT,sw.at',ek,em,kx,cW_len,lQ]
           repeat (refine And.intro (by omega) ?_)
           refine pureW_of rfl (c_LessT_ok _ _) ?_
           cases hf : decide (gN Q k < gN Q m) with
           | true =>
             have la := nthH_lt sw.at'
             have s3 : ∀ o,nthH (H.set id o) id = some o := fun o => nthH_set_same la
             have p1 := cW_put (l := Q) (i := k) (v := gN Q m) (by omega)
             have p2 := cW_put2 (l := Q) (i := k) (j := m) (v := gN Q m) (by omega)
             have sw2 := sw.swap (i := k) (j := m) (by omega) (by omega)
             have hx : ((k : Int) - 1) = ((k - 1 : Nat) : Int) := by omega
             simp -implicitDefEqProofs (disch := omega) [wrap_id,cmp2,nthT,sw.at',ek,em,kx,cW_len,lQ,la,s3,p1,p2]
             repeat (refine And.intro (by omega) ?_)
             rw [hK1]
             exact next_eq (k - 1,_,_) ⟨by simp only; omega,sw2⟩ (by simp only; omega) (by simp only [hx])
           | false =>
             subst hK1
             simp -implicitDefEqProofs (disch := omega) [wrap_id,cmp2,nthT]
             exact hK1' (k,_,_,_) sw
         · subst hK1
           simp -implicitDefEqProofs (disch := omega) [wrap_id]
           exact hK1' (k,_,_,_) sw
       obtain ⟨k,ex,H,Q⟩ := q
       have sw : Sw hp id l H Q := hq
       simp only
       try simp -implicitDefEqProofs (disch := omega) [wrap_id]
       exact hF' (_,_,_) sw
     · simp -implicitDefEqProofs (disch := omega) [wrap_id]
       exact hF' (_,_,_) sw
   clear sw lQ
   obtain ⟨ex,H,Q⟩ := q
   have sw : Sw hp id l H Q := hq
   have lQ := sw.qlen
   simp only
   simp -implicitDefEqProofs (disch := omega) [wrap_id]
   refine cb_post (fun q : List (Nat × AV) × List HObj × List Nat => ⟨(0,.ms id 0 l.length 1) :: (1,I (a : Int)) :: (2,I (b : Int)) :: (7,I (i : Int)) :: (8,I (j : Int)) :: q.1,q.2.1⟩) (fun q => Sw hp id l q.2.1 q.2.2) (fun q hq => ?_) (fun F' hF' => ?_)
   rotate_left
   · refine c_split (fun hc => ?_) (fun hc => ?_)
     · have hc : 2 ≤ b - i := by simp at hc; omega
       simp -implicitDefEqProofs (disch := omega) [wrap_id]
       refine blk_post (fun q : Nat × List (Nat × AV) × List HObj × List Nat => ⟨(0,.ms id 0 l.length 1) :: (1,I (a : Int)) :: (2,I (b : Int)) :: (7,I (i : Int)) :: (8,I (j : Int)) :: (10,I (q.1 : Int)) :: q.2.1,q.2.2.1⟩) (fun q => Sw hp id l q.2.2.1 q.2.2.2) (fun q hq => ?_) (fun K1' hK1' => ?_)
       rotate_left
       · refine loop_of (fun q : Nat × List HObj × List Nat => ⟨(0,.ms id 0 l.length 1) :: (1,I (a : Int)) :: (2,I (b : Int)) :: (7,I (i : Int)) :: (8,I (j : Int)) :: (10,I (q.1 : Int)) :: [],q.2.1⟩) (fun q => 1 ≤ q.1 ∧ Sw hp id l q.2.1 q.2.2) (fun q => b - q.1) (i + 1,H,Q) ⟨by simp only; omega,sw⟩ (le_sub (by simp; try omega)) ?_
         clear sw lQ
         rintro ⟨k,H,Q⟩ ⟨f0,sw⟩
         simp only at f0 sw ⊢
         have lQ := sw.qlen
         refine hideK' fun K1 hK1 => ?_
         simp -implicitDefEqProofs (disch := omega) [wrap_id]
         refine c_split (fun hc => ?_) (fun hc => ?_)
         · have hc : k < b := by simp at hc; omega
           obtain ⟨m,hm⟩ : ∃ m,m + 1 = k := ⟨k - 1,by omega⟩
           have ek := cW_at (l := Q) (i := k) (by omega)
           have em := cW_at (l := Q) (i := m) (by omega)
           have kx : ((k : Int) - 1).toNat = m := by omega
           simp -implicitDefEqProofs (disch := omega) [wrap_id,cmp2,nthT,sw.at',ek,em,kx,cW_len,lQ]
           repeat (refine And.intro (by omega) ?_)
           refine pureW_of rfl (c_LessT_ok _ _) ?_
           cases hf : decide (gN Q k < gN Q m) with
           | true =>
             have la := nthH_lt sw.at'
             have s3 : ∀ o,nthH (H.set id o) id = some o := fun o => nthH_set_same la
             have p1 := cW_put (l := Q) (i := k) (v := gN Q m) (by omega)
             have p2 := cW_put2 (l := Q) (i := k) (j := m) (v := gN Q m) (by omega)
             have sw2 := sw.swap (i := k) (j := m) (by omega) (by omega)
             have hx : ((k : Int) + 1) = ((k + 1 : Nat) : Int) := by omega
             simp -implicitDefEqProofs (disch := omega) [wrap_id,cmp2,nthT,sw.at',ek,em,kx,cW_len,lQ,la,s3,p1,p2]
             repeat (refine And.intro (by omega) ?_)
             rw [hK1]
             exact next_eq (k + 1,_,_) ⟨by simp only; omega,sw2⟩ (by simp only; omega) (by simp only [hx])
           | false =>
             subst hK1
             simp -implicitDefEqProofs (disch := omega) [wrap_id,cmp2,nthT]
             exact hK1' (k,_,_,_) sw
         · subst hK1
           simp -implicitDefEqProofs (disch := omega) [wrap_id]
           exact hK1' (k,_,_,_) sw
       obtain ⟨k,ex,H,Q⟩ := q
       have sw : Sw hp id l H Q := hq
       simp only
       try simp -implicitDefEqProofs (disch := omega) [wrap_id]
       exact hF' (_,_,_) sw
     · simp -implicitDefEqProofs (disch := omega) [wrap_id]
       exact hF' (_,_,_) sw
   clear sw lQ
   obtain ⟨ex,H,Q⟩ := q
   have sw : Sw hp id l H Q := hq
   have lQ := sw.qlen
   simp only
   simp -implicitDefEqProofs (disch := omega) [wrap_id]
   rw [hK0]
   exact next_of (i,j + 1,H,Q) ⟨by simp only; omega,by simp only; omega,by simp only; omega,sw⟩ (by simp only; omega) (le_sub (by simp))
 · subst hK0
   simp -implicitDefEqProofs (disch := omega) [wrap_id]
   exact hK _ _ _ sw
end Go.AM
