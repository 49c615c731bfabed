/-
  KxMv1: texts joined: Gn1. Own work.
-/
import Derived.Test.YtfpfnlnmilndmaaGreatDoorKc6
import Derived.ChangeKeysEq
import Derived.Laws.StructEq
set_option linter.unusedSimpArgs false
set_option linter.unusedVariables false

namespace Go.AM
open Go.RowKit
section
variable {hp : List HObj} {K : AV → List (Nat × HObj) → Prop}
end
theorem freezeCell {hp : Hp} {g : G} {w : World} (h : HeapOK hp g w) {id : Nat} {cs cs' : List AV} {is : List Nat} (h1 : hp id = some (.cells cs)) (h2 : purifyL hp cs = some (cs',is)) (hid : id ∉ is)
 (hids : ∀ i ∈ is,∃ cs,hp i = some (.cells cs)) (hrep : cs'.length = cs.length ∧ ∀ j (hj : j < cs.length) (hj' : j < cs'.length) v,Rep w g false cs[j] v → Rep w (g.pub (given hp g is)) true cs'[j] v) :
 HeapOK (Hp.set (Hp.write hp (gones is)) id (.cells cs')) (g.pub (given hp g is)) w ∧ Upd hp g w (Hp.set (Hp.write hp (gones is)) id (.cells cs')) (g.pub (given hp g is)) w := by
 obtain ⟨hokA,updA⟩ := h.giveAll is hids
 have hA : Hp.write hp (gones is) id = some (.cells cs) := by rw [write_gones,if_neg hid]; exact h1
 obtain ⟨l0,r1,r2⟩ := hokA.rep id _ hA
 have T := updA.tr
 have hl0 : g.ρ id = some l0 := r1
 obtain ⟨l1,s1,s2⟩ := h.rep id _ h1
 rw [hl0] at s1; cases s1
 have new : HRep w (g.pub (given hp g is)) (.cells cs') l0 := by
  cases l0 with
  | virg =>
    have e : cs = [] := s2
    have : cs' = [] := List.eq_nil_of_length_eq_zero (by rw [hrep.1,e]; rfl)
    exact this
  | base L => exact r2.elim
  | blk c d =>
    obtain ⟨arr,ty,fz,a1,a2,a3,a4,a5⟩ := r2
    obtain ⟨arr',ty',fz',b1,b2,b3,b4,b5⟩ := s2
    rw [a1] at b1; cases b1
    refine ⟨arr,ty,fz,a1,by rw [hrep.1]; exact a2,a3,a4,fun i hi => ?_⟩
    have hi' : i < cs.length := by rw [← hrep.1]; exact hi
    obtain ⟨x,x1,x2⟩ := b5 i hi'
    exact ⟨x,x1,(hrep.2 i hi' hi x x2).of⟩
 have tr : Trans w (g.pub (given hp g is)) w (g.pub (given hp g is)) := .refl _ _
 have live : (HObj.cells cs').live = (HObj.cells cs).live := rfl
 refine ⟨hokA.change (fun i => i = id) tr (fun i hi => Hp.set_other _ _ hi) (fun _ _ => rfl) (fun _ _ _ _ _ _ _ _ => rfl) (fun _ _ _ _ _ _ _ _ _ hq => hq) ?_ ?_ hokA.ex,updA.trans ⟨tr,?_,fun b q hs => .inl hs,fun b hb _ => rfl⟩⟩
 · rintro i rfl
   exact ⟨_,l0,Hp.set_same _ _ _,r1,new⟩
 · intro i i' o o' c d d' hi ho ho' hl hl' hr hr'
   subst hi
   by_cases e : i' = i
   · exact e.symm
   · rw [Hp.set_other _ _ e] at ho'
     exact hokA.inj i i' _ o' c d d' hA ho' rfl hl' hr hr'
 · rintro c ⟨i,o,d,ho,hl,hr⟩
   by_cases e : i = id
   · subst e
     exact .inl ⟨i,_,d,hA,rfl,hr⟩
   · rw [Hp.set_other _ _ e] at ho
     exact .inl ⟨i,o,d,ho,hl,hr⟩
theorem callW_freeze {P : Program} {f : FuncId} {xs ys : List AV} {hp : List HObj} {K : AV → List HObj → Prop} {id : Nat} {cs cs' : List AV} {is : List Nat} (h1 : nthH hp id = some (.cells cs)) (h2 : purifyL (hpf hp) cs = some (cs',is)) (hid : id ∉ is)
 (hlen : ys.length = xs.length) (hargs : ∀ i (h : i < xs.length) (h' : i < ys.length),xs[i] = ys[i] ∨ ∃ js,purify (hpf hp) xs[i] = some (ys[i],js) ∧ ∀ j ∈ js,j ∈ is)
 (hcall : CallW P f ys (writeL hp (gones is ++ [(id,.cells cs')])) K) : CallW P f xs hp K := by
 intro ro n w g vs hok hvs hrep
 have hids := purifyL_ids h2
 obtain ⟨q1,q2⟩ := freezeCell hok (by rw [nthH_eq] at h1; exact h1) h2 hid hids (purifyL_rep hok h2 fun i h => h)
 have lt : ∀ p ∈ gones is ++ [(id,HObj.cells cs')],p.1 ≤ hp.length := fun p hp' => by
  rw [List.mem_append] at hp'
  rcases hp' with hp' | hp'
  · simp only [gones,List.mem_map] at hp'
    obtain ⟨i,hi,rfl⟩ := hp'
    obtain ⟨cs,hcs⟩ := hids i hi
    exact Nat.le_of_lt (hpf_lt hcs)
  · simp at hp'; subst hp'; exact Nat.le_of_lt (nthH_lt h1)
 have e : hpf (writeL hp (gones is ++ [(id,.cells cs')])) = Hp.set (Hp.write (hpf hp) (gones is)) id (.cells cs') := by
  rw [hpf_write lt,write_end]
 refine (hcall ro n w _ vs (by rw [e]; exact q1) (by omega) fun i hi => ?_).mono ?_
 · rcases hargs i (by omega) hi with h | ⟨js,h,hs⟩
   · rw [← h]; exact (hrep i (by omega)).mono q2.tr
   · exact (purify_rep hok h hs (hrep i (by omega))).of
 · rintro e' w' ⟨v,r,hp',g',a1,a2,a3,a4,a5⟩
   exact ⟨v,r,hp',g',a1,a2,a3,a4,q2.trans (by rw [e] at a5; exact a5)⟩
variable {P : Program}
variable {P : Program}
section
variable {K : AV → List (Nat × HObj) → Prop}
end
end Go.AM
