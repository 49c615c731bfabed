/-
  Kc2: texts joined: Am10c Am11 Am12 Am13 Am14 Am15 Am16 Am17 Am17b Am17c Am17d. Own work.
-/
import Derived.Test.YtfpfnlnmilndmaaGreatDoorKc1
import Derived.OrdersIn
import Derived.Sort.LoopGhostIn
set_option linter.unusedSimpArgs false
set_option linter.unusedVariables false

namespace Go.AM
open Go.RowKit
section
variable {P : Program} {o : Oper} {a : Act} {w : World} {g : G} {hp : Hp} {F : Nat → AV} {new : Nat} {r : AV} {ws : List (Nat × HObj)} {ro : Option Nat} {n : Nat} {K : AV → List (Nat × HObj) → Prop}
def Many (hp : Hp) (g : G) (w : World) (K : AV → List (Nat × HObj) → Prop) (v : Value) (w' : World) : Prop := ∃ r ws,K r ws ∧ Post hp g w r ws v w'
theorem snd_rng {t kt e : TypeId} {x : Operand} {y : Opd} {d} (ho : o.op = .range t x) (hu : P.underlying t = some (.map kt e)) (h1 : opd x = some y) (hF : FrOK w g F a) (hok : HeapOK hp g w) (hn : hp new = none)
 (hs : (AOp.rng d y).many (evF F) hp new K) : VRun P o a w (Many hp g w K) := by
 have e1 := ev_rep hF h1
 simp only [AOp.many] at hs
 split at hs
 · rename_i id hid
   split at hs
   · rename_i es clk hes
     rw [hid] at e1
     obtain ⟨c,ents,hv,hρ,hb,hsz,hnS,hkeys,hents⟩ := map_at hok hes e1
     have hne : id ≠ new := fun e => by subst e; rw [hes] at hn; cases hn
     obtain ⟨s1,s2⟩ := hok.allocO hn (.mapIter (some c) clk #[] clk) (.it id clk [] clk) (fun tr => ⟨c,alloc_new _ _,tr.ρ _ _ hρ,rfl,fun q h => noS_new hok q h⟩)
     refine .of (v := .pointer (some ⟨w.heap.size,0,none⟩)) (w' := w.alloc (.mapIter (some c) clk #[] clk)) ?_ ⟨_,_,hs,_,?_,s1,s2⟩
     · simp [execOp,ho,hv,Instr.range,run_underlying hu,run_getMap hb,newObj,Sem.run]
     · exact .ref _ _ _ _ (by simp [G.home])
   · rename_i Φ hes
     rw [hid] at e1
     obtain ⟨es,clk,hΦ,hok2,hu2⟩ := map_open hok hes e1
     have hs := hs es clk hΦ
     obtain ⟨c,ents,hv,hρ,hb,hsz,hnS,hkeys,hents⟩ := map_at hok2 (Hp.set_same _ _ _) e1
     have hne : id ≠ new := fun e => by subst e; rw [hes] at hn; cases hn
     have hn2 : Hp.set hp id (.mp es clk) new = none := by rw [Hp.set_other _ _ (Ne.symm hne)]; exact hn
     obtain ⟨s1,s2⟩ := hok2.allocO hn2 (.mapIter (some c) clk #[] clk) (.it id clk [] clk) (fun tr => ⟨c,alloc_new _ _,tr.ρ _ _ hρ,rfl,fun q h => noS_new hok2 q h⟩)
     refine .of (v := .pointer (some ⟨w.heap.size,0,none⟩)) (w' := w.alloc (.mapIter (some c) clk #[] clk)) ?_ ⟨_,_,hs,_,?_,s1,hu2.trans s2⟩
     · simp [execOp,ho,hv,Instr.range,run_underlying hu,run_getMap hb,newObj,Sem.run]
     · exact .ref _ _ _ _ (by simp [G.home])
   · exact hs.elim
 · exact hs.elim
theorem it_at (hok : HeapOK hp g w) {id m since last clk : Nat} {seen : List Nat} {es : List (Value × Nat × AV)} {v : Value} (ho : hp id = some (.it m since seen last)) (hm : hp m = some (.mp es clk)) (hr : Rep w g false (.ref id 0) v) :
 ∃ c mb ents,v = .pointer (some ⟨c,0,none⟩) ∧ g.ρ id = some (.blk c 0) ∧ w.heap[c]? = some (.mapIter (some mb) since seen.toArray last) ∧ (∀ o,¬ g.S c o) ∧ g.ρ m = some (.blk mb 0) ∧ w.heap[mb]? = some (.map ents clk) ∧ ents.size = es.length ∧
   ∀ i (h : i < es.length),∃ e,ents[i]? = some e ∧ e.key = es[i].1 ∧ e.born = es[i].2.1 ∧ Rep w g false es[i].2.2 e.val := by
 cases hr with
 | ref _ _ c d hl =>
   obtain ⟨l,h1,h2⟩ := hok.rep id _ ho
   rw [hl] at h1; cases h1
   obtain ⟨mb,g1,g2,rfl,g4⟩ := h2
   obtain ⟨c',ents,k1,k2,k3,k4,k5,k6,k7⟩ := map_at hok hm (.mp _ mb 0 g2)
   rw [g2] at k2; cases k2
   exact ⟨c,mb,ents,rfl,hl,g1,g4,g2,k3,k4,k7⟩
theorem snd_nxt {x : Operand} {y : Opd} {d} (ho : o.op = .next x false) (h1 : opd x = some y) (hF : FrOK w g F a) (hok : HeapOK hp g w)
 (hs : (AOp.nxt d y).many (evF F) hp new K) : VRun P o a w (Many hp g w K) := by
 have e1 := ev_rep hF h1
 simp only [AOp.many] at hs
 split at hs
 · rename_i id hid
   split at hs
   · rename_i m since seen last hit
     split at hs
     · rename_i es clk hes
       obtain ⟨hgd,hover,hstep⟩ := hs
       rw [hid] at e1
       obtain ⟨c,mb,ents,hv,hρ,hb,hnS,hρm,hbm,hsz,hents⟩ := it_at hok hit hes e1
       have hgd' : (!seen.toArray.isEmpty && !ents.isEmpty && ents.all (fun e => decide (e.born ≥ last))) = false := by
        rcases Bool.or_eq_true_iff.1 hgd with h | h
        · rcases Bool.or_eq_true_iff.1 h with h | h
          · have : seen.toArray.isEmpty = true := by simpa using h
            simp [this]
          · have : es = [] := by simpa using h
            subst this
            have : ents = #[] := Array.eq_empty_of_size_eq_zero (by simpa using hsz)
            subst this; simp
        · have : ¬ (ents.all (fun e => decide (e.born ≥ last))) = true := fun hall => by
           simp only [Bool.not_eq_true'] at h
           have : es.all (fun e => decide (last ≤ e.2.1)) = true := List.all_eq_true.2 fun e he => by
            obtain ⟨i,hi,rfl⟩ := List.mem_iff_getElem.1 he
            obtain ⟨en,q1,q2,q3,q4⟩ := hents i hi
            have := Array.all_eq_true'.1 hall en (Array.mem_of_getElem? q1)
            rw [q3] at this
            simpa using this
           rw [this] at h; cases h
          simp [Bool.eq_false_iff.2 this]
       obtain ⟨left,hleft⟩ : ∃ left,left = ents.filter fun e => !seen.toArray.contains e.born := ⟨_,rfl⟩
       obtain ⟨cand,hcand⟩ : ∃ cand : Array (Option MapEntry),cand = (if (left.filter (·.born < since)).isEmpty then #[none] else #[]) ++ (left.filter (·.born < since) ++ left.filter (·.born ≥ since)).map some := ⟨_,rfl⟩
       obtain ⟨hokd,hupdd⟩ := hok.drew
       have hmem : ∀ e,some e ∈ cand → ∃ i,∃ hi : i < es.length,e.key = es[i].1 ∧ e.born = es[i].2.1 ∧ Rep w g false es[i].2.2 e.val ∧ seen.contains es[i].2.1 = false := fun e he => by
        have : e ∈ left := by
         rw [hcand] at he
         rw [Array.mem_append] at he
         rcases he with he | he
         · split at he <;> simp at he
         · simp only [Array.mem_map,Option.some.injEq,exists_eq_right,Array.mem_append,Array.mem_filter] at he
           rcases he with he | he <;> exact he.1
        rw [hleft,Array.mem_filter] at this
        obtain ⟨he1,he2⟩ := this
        obtain ⟨i,hi,rfl⟩ := Array.mem_iff_getElem.1 he1
        have hi' : i < es.length := by omega
        obtain ⟨en,q1,q2,q3,q4⟩ := hents i hi'
        have : ents[i] = en := by simpa [hi] using q1
        rw [this] at he2 ⊢
        refine ⟨i,hi',q2,q3,q4,?_⟩
        rw [← q3]; simpa using he2
       have hnone : none ∈ cand → (es.filter fun e => !seen.contains e.2.1 && decide (e.2.1 < since)).isEmpty = true := fun hn => by
        rw [hcand,Array.mem_append] at hn
        rcases hn with hn | hn
        · split at hn
          · rename_i hemp
            rw [List.isEmpty_iff,List.filter_eq_nil_iff]
            intro e he hc
            obtain ⟨i,hi,rfl⟩ := List.mem_iff_getElem.1 he
            obtain ⟨en,q1,q2,q3,q4⟩ := hents i hi
            simp only [Bool.and_eq_true,decide_eq_true_eq] at hc
            have : en ∈ left.filter (·.born < since) := by
             rw [hleft,Array.mem_filter,Array.mem_filter]
             refine ⟨⟨Array.mem_of_getElem? q1,?_⟩,by rw [q3]; simpa using hc.2⟩
             rw [q3]; simpa using hc.1
            have hz : left.filter (·.born < since) = #[] := by simpa using hemp
            rw [hz] at this; simp at this
          · simp at hn
        · simp at hn
       have hpos : 0 < cand.size := by
        rw [hcand]
        by_cases hz : (left.filter (·.born < since)).isEmpty = true
        · simp only [hz,if_true]; simp; omega
        · simp only [hz,Bool.false_eq_true,if_false]
          have : (left.filter (·.born < since)).size ≠ 0 := fun h => hz (by simpa using h)
          simp; omega
       obtain ⟨j,w1,hchoose,hjlt,hok1,hupd1,hheap⟩ : ∃ j w1,(choose (.mapNext cand.size)).run P w = .ok j w1 ∧ j < cand.size ∧ HeapOK hp g w1 ∧ Upd hp g w hp g w1 ∧ w1.heap = w.heap := by
        by_cases hfo : (Question.mapNext cand.size).forced = true
        · exact ⟨0,w,by simp [hfo],hpos,hok,.refl _ _ _,rfl⟩
        · exact ⟨(Question.mapNext cand.size).cut (w.tape w.drawn (Question.mapNext cand.size)),w.drew,by simp [hfo],Nat.mod_lt _ hpos,hokd,hupdd,rfl⟩
       have hg1 : (getObj c).run P w = .ok (.mapIter (some mb) since seen.toArray last) w := by simp [getObj,Sem.run,hb]
       have hrun : ∀ v w',(match cand[j]? with
        | some (some e) => (do
          setObj c (.mapIter (some mb) since (seen.toArray.push e.born) clk)
          pure (.tuple #[.bool true,e.key,e.val]) : Sem Value)
        | some none => pure (.tuple #[.bool false])
        | none => stuck "Next: no such candidate").run P w1 = .ok v w' → (execOp a.eval o).run P w = .ok (.value v) w' := fun v w' h => by
        have hnx : (Instr.next (.pointer (some ⟨c,0,none⟩)) false o.type).run P w = .ok v w' := by
         simp only [Instr.next,Sem.run_bind,hg1,Result.andThen_ok,run_getMap hbm,hgd',Bool.false_eq_true,if_false]
         rw [← hleft,← hcand,hchoose]
         exact h
        simp [execOp,ho,hv,hnx]
       have hcj : cand[j]? = some cand[j] := by simp [hjlt]
       cases hcv : cand[j] with
       | none =>
         rw [hcv] at hcj
         have hmem0 : none ∈ cand := by rw [← hcv]; exact Array.getElem_mem hjlt
         refine .of (v := .tuple #[.bool false]) (w' := w1) (hrun _ _ (by rw [hcj]; rfl)) ⟨_,_,hover (hnone hmem0),g,?_,hok1,hupd1⟩
         exact .tup _ _ [.bool false] rfl (fun j hj => by
          match j,hj with
          | 0,_ => exact .v _ _)
       | some e =>
         rw [hcv] at hcj
         have hmem0 : some e ∈ cand := by rw [← hcv]; exact Array.getElem_mem hjlt
         obtain ⟨i,hi,q2,q3,q4,q5⟩ := hmem e hmem0
         have hb1 : w1.heap[c]? = some (.mapIter (some mb) since seen.toArray last) := by rw [hheap]; exact hb
         obtain ⟨s1,s2⟩ := hok1.putO (o' := .it m since (seen ++ [es[i].2.1]) clk) (ob := .mapIter (some mb) since (seen.toArray.push e.born) clk) hit rfl rfl hρ hb1 rfl rfl (fun tr hh => ⟨mb,by rw [hh,q3]; simp,tr.ρ _ _ hρm,rfl,hnS⟩)
         refine .of (v := .tuple #[.bool true,e.key,e.val]) (w' := w1.putObj c (.mapIter (some mb) since (seen.toArray.push e.born) clk)) (hrun _ _ ?_) ⟨_,_,hstep es[i] (List.getElem_mem _) q5,g,?_,s1,hupd1.trans s2⟩
         · rw [hcj]
           simp [setObj,Sem.run,hb1,World.putObj]
         · exact .tup _ _ [.bool true,e.key,e.val] rfl (fun j hj => by
            match j,hj with
            | 0,_ => exact .v _ _
            | 1,_ => rw [q2]; exact rep_ofValue _ _ _ _
            | 2,_ => exact q4.mono (hupd1.tr.trans s2.tr))
     · exact hs.elim
   · exact hs.elim
 · exact hs.elim
theorem find_born {b : Nat} : ∀ {ents : List MapEntry} {es : List (Value × Nat × AV)} {e : Value × Nat × AV},ents.map (·.born) = es.map (·.2.1) → es.find? (fun x => x.2.1 == b) = some e →
 ∃ i : Nat,∃ en,ents.find? (fun x => x.born == b) = some en ∧ ents[i]? = some en ∧ es[i]? = some e
 | [],es,e,h,hf => by
   have : es = [] := by cases es <;> simp_all
   subst this; simp at hf
 | x :: ents,[],e,h,hf => by simp at h
 | x :: ents, y :: es, e, h, hf => by
   simp only [List.map_cons,List.cons.injEq] at h
   rw [List.find?_cons] at hf
   rw [List.find?_cons,h.1]
   cases hc : (y.2.1 == b) with
   | true => rw [hc] at hf; simp at hf; subst hf; exact ⟨0,x,rfl,rfl,rfl⟩
   | false =>
     rw [hc] at hf
     obtain ⟨i,en,h1,h2,h3⟩ := find_born h.2 hf
     exact ⟨i + 1,en,h1,h2,h3⟩
theorem snd_ent {x : Operand} {y : Opd} {d} (ho : o.op = .entry x) (h1 : opd x = some y) (hF : FrOK w g F a) (hok : HeapOK hp g w)
 (hs : (AOp.ent d y).many (evF F) hp new K) : VRun P o a w (Many hp g w K) := by
 have e1 := ev_rep hF h1
 simp only [AOp.many] at hs
 split at hs
 · rename_i id hid
   split at hs
   · rename_i m since seen last hit
     split at hs
     · rename_i es clk hes
       obtain ⟨rfl,b,e,hlast,hfind,hK⟩ := hs
       rw [hid] at e1
       obtain ⟨c,mb,ents,hv,hρ,hb,hnS,hρm,hbm,hsz,hents⟩ := it_at hok hit hes e1
       have hborn : ents.toList.map (·.born) = es.map (·.2.1) := by
        refine List.ext_getElem (by simp [hsz]) fun i hi hi' => ?_
        simp at hi hi'
        obtain ⟨e,h3,_,h4,_⟩ := hents i hi'
        obtain ⟨_,h5⟩ := Array.getElem?_eq_some_iff.1 h3
        simp [h5,h4]
       obtain ⟨i,en,f1,f2,f3⟩ := find_born hborn hfind
       obtain ⟨hi,rfl⟩ := List.getElem?_eq_some_iff.1 f3
       obtain ⟨en',q1,q2,q3,q4⟩ := hents i hi
       have : en' = en := by
        have : ents[i]? = some en := by simpa using f2
        rw [q1] at this; exact Option.some.inj this
       subst this
       have hfa : ents.find? (fun x => x.born == b) = some en' := by
        rw [show ents = ents.toList.toArray by simp,List.find?_toArray]; exact f1
       have hback : seen.toArray.back? = some b := by simpa using hlast
       have hg1 : (getObj c).run P w = .ok (.mapIter (some mb) since seen.toArray clk) w := by simp [getObj,Sem.run,hb]
       have hent : (Instr.entry (.pointer (some ⟨c,0,none⟩))).run P w = .ok (.tuple #[en'.key,en'.val]) w := by
        simp only [Instr.entry,Sem.run_bind,hg1,Result.andThen_ok,hback,run_getMap hbm]
        simp [hfa]
       refine .of (v := .tuple #[en'.key,en'.val]) (w' := w) (by simp [execOp,ho,hv,hent]) ⟨_,_,hK,.nil hok ?_⟩
       exact .tup _ _ [en'.key,en'.val] rfl (fun j hj => by
        match j,hj with
        | 0,_ => rw [q2]; exact rep_ofValue _ _ _ _
        | 1,_ => exact q4)
     · exact hs.elim
   · exact hs.elim
 · exact hs.elim
def nilOf : Nat → Value
 | 0 => .slice none 0 0
 | 1 => .pointer none
 | 2 => .map none
 | _ => .nilFunc
def kindOf (kd : Nat) : Option TypeDesc → Bool
 | some (.slice _) => kd == 0
 | some (.pointer _) => kd == 1
 | some (.map _ _) => kd == 2
 | some (.func _ _ _) => kd == 3
 | _ => false
theorem run_guardN {op : BinOp} {ty : TypeId} {x y : Operand} {u v : Value} (h0 : ¬ (u = .nilIface ∧ v = .nilIface)) (h1 : ¬ ∃ xs ys,u = .agg xs ∧ v = .agg ys) : (eqGuard op ty x y u v).run P w = .ok () w := by
 have key : (match u,v with
  | .nilIface,.nilIface => (do
    if (x matches .const _) || (y matches .const _) then return
    if ← Op.eqGuardIn Op.maxDepth ty u v then unsupported (.noEntry "binop/eql: two nil values of an interface type with methods, neither of them the literal nil") : Sem Unit)
  | .agg _,.agg _ => (do
    if !(← program).eqGuardType (← program).depth ty then return
    if ← Op.eqGuardIn Op.maxDepth ty u v then unsupported (.noEntry "binop/eql: two nil values of an interface type with methods, in a part of a struct or an array"))
  | _,_ => pure ()).run P w = .ok () w := by
  split
  · exact absurd ⟨rfl,rfl⟩ h0
  · exact absurd ⟨_,_,rfl,rfl⟩ h1
  · rfl
 unfold eqGuard
 cases op <;> first
  | rfl
  | (simp only [Bool.not_true,Bool.false_eq_true,if_false]; exact key)
theorem snd_isn {neg : Bool} {kd : Nat} {op ty x ty'} {y : Opd} {d} (ho : o.op = .binOp op ty x (.const (nilOf kd)) ty') (hop : op = if neg then .neq else .eql) (hu : kindOf kd (P.underlying ty) = true)
 (h1 : opd x = some y) (hF : FrOK w g F a) (hok : HeapOK hp g w) (hs : (AOp.isn d neg kd y).many (evF F) hp new K) : VRun P o a w (Many hp g w K) := by
 have e1 := ev_rep hF h1
 have fin : ∀ (v : Value) (z : Bool),a.eval x = v → (binOp .eql ty v (nilOf kd)).run P w = .ok (.bool z) w → (binOp .neq ty v (nilOf kd)).run P w = .ok (.bool !z) w → (∀ op,(eqGuard op ty x (.const (nilOf kd)) v (nilOf kd)).run P w = .ok () w) → K (B (neg != z)) [] → VRun P o a w (Many hp g w K) := fun v z hv h1 h2 h3 hK => by
  refine .of (v := .bool (neg != z)) (w' := w) ?_ ⟨_,_,hK,.nil hok (.v _ _)⟩
  have hc : a.eval (.const (nilOf kd)) = nilOf kd := rfl
  cases neg <;> subst hop
  · simp [execOp,ho,hv,hc,h1,h3]
  · simp [execOp,ho,hv,hc,h2,h3]
 have gd : ∀ (v : Value),v ≠ .nilIface → ∀ op,(eqGuard op ty x (.const (nilOf kd)) v (nilOf kd)).run P w = .ok () w := fun v hv op => by
  refine run_guardN (fun h => hv h.1) ?_
  rintro ⟨xs,ys,-,h⟩
  match kd,h with
  | 0,h => cases h
  | 1,h => cases h
  | 2,h => cases h
  | _ + 3,h => cases h
 have mk : ∀ (v : Value) (z : Bool),binOp .eql ty v (nilOf kd) = (do pure (Value.bool (← Op.equal ty v (nilOf kd)))) → binOp .neq ty v (nilOf kd) = (do pure (Value.bool (!(← Op.equal ty v (nilOf kd))))) → (Op.equalIn (9999 + 1) ty v (nilOf kd)).run P w = .ok z w →
  (binOp .eql ty v (nilOf kd)).run P w = .ok (.bool z) w ∧ (binOp .neq ty v (nilOf kd)).run P w = .ok (.bool !z) w := fun v z h1 h2 h3 => by
  have h4 : (Op.equal ty v (nilOf kd)).run P w = .ok z w := h3
  rw [h1,h2]
  simp [h4]
 have hslice : ∀ (ad : Option Addr) (n c : Nat),kd = 0 → (binOp .eql ty (.slice ad n c) (nilOf kd)).run P w = .ok (.bool ad.isNone) w ∧ (binOp .neq ty (.slice ad n c) (nilOf kd)).run P w = .ok (.bool !ad.isNone) w := fun ad n c h => by
  subst h
  refine mk _ _ rfl rfl ?_
  cases hd : P.underlying ty with
  | none => rw [hd] at hu; simp [kindOf] at hu
  | some de =>
    cases de <;> rw [hd] at hu <;> simp [kindOf] at hu
    generalize 9999 = d
    cases ad <;> simp [nilOf,Op.equalIn,run_underlying hd]
 have hptr : ∀ (ad : Option Addr),kd = 1 → (binOp .eql ty (.pointer ad) (nilOf kd)).run P w = .ok (.bool ad.isNone) w ∧ (binOp .neq ty (.pointer ad) (nilOf kd)).run P w = .ok (.bool !ad.isNone) w := fun ad h => by
  subst h
  refine mk _ _ rfl rfl ?_
  cases hd : P.underlying ty with
  | none => rw [hd] at hu; simp [kindOf] at hu
  | some de =>
    cases de <;> rw [hd] at hu <;> simp [kindOf] at hu
    generalize 9999 = d
    cases ad <;> simp [nilOf,Op.equalIn,run_underlying hd]
 have hmap : ∀ (ad : Option Nat),kd = 2 → (binOp .eql ty (.map ad) (nilOf kd)).run P w = .ok (.bool ad.isNone) w ∧ (binOp .neq ty (.map ad) (nilOf kd)).run P w = .ok (.bool !ad.isNone) w := fun ad h => by
  subst h
  refine mk _ _ rfl rfl ?_
  cases hd : P.underlying ty with
  | none => rw [hd] at hu; simp [kindOf] at hu
  | some de =>
    cases de <;> rw [hd] at hu <;> simp [kindOf] at hu
    generalize 9999 = d
    cases ad <;> simp [nilOf,Op.equalIn,run_underlying hd]
 have hfun : ∀ f as bs,kd = 3 → (binOp .eql ty (.func f as bs) (nilOf kd)).run P w = .ok (.bool false) w ∧ (binOp .neq ty (.func f as bs) (nilOf kd)).run P w = .ok (.bool !false) w := fun f as bs h => by
  subst h
  refine mk _ _ rfl rfl ?_
  cases hd : P.underlying ty with
  | none => rw [hd] at hu; simp [kindOf] at hu
  | some de =>
    cases de <;> rw [hd] at hu <;> simp [kindOf] at hu
    generalize 9999 = d
    simp [nilOf,Op.equalIn,run_underlying hd]
 have hnf : kd = 3 → (binOp .eql ty .nilFunc (nilOf kd)).run P w = .ok (.bool true) w ∧ (binOp .neq ty .nilFunc (nilOf kd)).run P w = .ok (.bool !true) w := fun h => by
  subst h
  refine mk _ _ rfl rfl ?_
  cases hd : P.underlying ty with
  | none => rw [hd] at hu; simp [kindOf] at hu
  | some de =>
    cases de <;> rw [hd] at hu <;> simp [kindOf] at hu
    generalize 9999 = d
    simp [nilOf,Op.equalIn,run_underlying hd]
 have both : ∀ z,K (B false) [] → K (B true) [] → K (B (neg != z)) [] := fun z h1 h2 => by cases (neg != z) <;> assumption
 generalize hv : a.eval x = v at e1
 simp only [AOp.many] at hs
 split at hs
 · rename_i full n cs hy
   rw [hy] at e1
   cases e1 with
   | sl _ _ _ _ ad cap vs hn hf hc hr =>
     split at hs
     · exact fin _ ad.isNone hv (hslice _ _ _ rfl).1 (hslice _ _ _ rfl).2 (gd _ (by simp)) (both _ hs.1 hs.2)
     · obtain ⟨ad',rfl,_⟩ := hc 0 (by simp)
       exact fin _ false hv (hslice _ _ _ rfl).1 (hslice _ _ _ rfl).2 (gd _ (by simp)) (by simpa using hs)
 · rename_i id off n sz hy
   rw [hy] at e1
   cases e1 with
   | ms _ _ _ _ c d cap arr ty' fz h1 h2 h3 h4 =>
     by_cases h0 : n = 0
     · exact fin _ _ hv (hslice _ _ _ rfl).1 (hslice _ _ _ rfl).2 (gd _ (by simp)) (both _ (hs.2 h0).1 (hs.2 h0).2)
     · exact fin _ _ hv (hslice _ _ _ rfl).1 (hslice _ _ _ rfl).2 (gd _ (by simp)) (by simpa using hs.1 h0)
   | msz _ _ _ ad l h1 => exact fin _ _ hv (hslice _ _ _ rfl).1 (hslice _ _ _ rfl).2 (gd _ (by simp)) (both _ (hs.2 rfl).1 (hs.2 rfl).2)
 · rename_i cs off hy
   rw [hy] at e1
   cases e1 with
   | ptr _ _ _ b q vs h1 h2 => exact fin _ _ hv (hptr _ rfl).1 (hptr _ rfl).2 (gd _ (by simp)) (by simpa using hs)
 · rename_i id off hy
   rw [hy] at e1
   cases e1 with
   | ref _ _ c d h1 => exact fin _ _ hv (hptr _ rfl).1 (hptr _ rfl).2 (gd _ (by simp)) (by simpa using hs)
 · rename_i id hy
   rw [hy] at e1
   cases e1 with
   | mp _ c d h1 => exact fin _ _ hv (hmap _ rfl).1 (hmap _ rfl).2 (gd _ (by simp)) (by simpa using hs)
 · rename_i f as bs hy
   rw [hy] at e1
   cases e1 with
   | fn _ _ _ _ xs ys _ _ _ _ => exact fin _ _ hv (hfun _ _ _ rfl).1 (hfun _ _ _ rfl).2 (gd _ (by simp)) (by simpa using hs)
 · rename_i hy
   rw [hy] at e1
   have := rep_v e1
   subst this
   exact fin _ _ hv (hptr _ rfl).1 (hptr _ rfl).2 (gd _ (by simp)) (by simpa using hs)
 · rename_i hy
   rw [hy] at e1
   have := rep_v e1
   subst this
   exact fin _ _ hv (hmap _ rfl).1 (hmap _ rfl).2 (gd _ (by simp)) (by simpa using hs)
 · rename_i hy
   rw [hy] at e1
   have := rep_v e1
   subst this
   exact fin _ _ hv (hnf rfl).1 (hnf rfl).2 (gd _ (by simp)) (by simpa using hs)
 · exact hs.elim
end
end Go.AM

namespace Go.AM
open Go.RowKit
def placesOf (P : Program) : List Field → Option (List (Nat × Nat))
 | [] => some []
 | f :: fs => match tInfo P f.type,placesOf P fs with
   | some (_,sz),some l => some ((f.offset,sz) :: l)
   | _,_ => none
def partsB (pl : List (Nat × Nat)) (m : Nat) : List (Nat × Operand) → Option (List (Nat × Nat × Opd))
 | [] => some []
 | (i,x) :: l => match pl[i]?,opd x,partsB pl m l with
   | some (off,sz),some y,some r => if off + sz ≤ m then some ((off,sz,y) :: r) else none
   | _,_,_ => none
def partsS (n : Nat) : List (Nat × Operand) → Option (List (Nat × Opd))
 | [] => some []
 | (i,x) :: l => match opd x,partsS n l with
   | some y,some r => if i < n then some ((i,y) :: r) else none
   | _,_ => none
def partsA (sz m : Nat) : List (Nat × Operand) → Option (List (Nat × Nat × Opd))
 | [] => some []
 | (i,x) :: l => match opd x,partsA sz m l with
   | some y,some r => if i * sz + sz ≤ m then some ((i * sz,sz,y) :: r) else none
   | _,_ => none
def nilKind : Operand → Option Nat
 | .const (.slice none 0 0) => some 0
 | .const (.pointer none) => some 1
 | .const (.map none) => some 2
 | .const .nilFunc => some 3
 | _ => none
def compIsn (P : Program) (d : Nat) (op : BinOp) (ty : TypeId) (x y : Operand) : Option AOp :=
 match opd x,nilKind y with
 | some x,some kd => if kindOf kd (P.underlying ty) then (match op with | .eql => some (.isn d false kd x) | .neq => some (.isn d true kd x) | _ => none) else none
 | _,_ => none
def compEqk (P : Program) (d : Nat) (op : BinOp) (ty : TypeId) (x y : Operand) : Option AOp :=
 match opd x,opd y,ksOf P ty with
 | some x,some y,some ks => if (ks.1 || ks.2 == [.bool]) && !P.eqGuardType P.depth ty then (match op with | .eql => some (.eqk d false ks x y) | .neq => some (.eqk d true ks x y) | _ => none) else none
 | _,_,_ => none
def compBin (P : Program) (d : Nat) (op : BinOp) (ty : TypeId) (x y : Operand) : Option AOp :=
 match opd x,opd y,P.underlying ty with
 | some x,some y,some (.int _) => some (.bin d op x y)
 | some x,some y,some .string => some (.bin d op x y)
 | _,_,_ => match compIsn P d op ty x y with
   | some ao => some ao
   | none => match compEqk P d op ty x y with
     | some ao => some ao
     | none => match opd x,opd y with
       | some x,some y => some (.bing d op ty x y)
       | _,_ => none
def compIa (P : Program) (d : Nat) (t : TypeId) (x i : Operand) : Option AOp :=
 match opd x,opd i,P.underlying t with
 | some x,some i,some (.slice e) => match tInfo P e with
   | some (_,sz) => if sz ≠ 0 then some (.ia d sz x i) else none
   | none => none
 | some x,some i,some (.array ln e) => match tInfo P e with
   | some (_,sz) => some (.iaa d ln sz x i)
   | none => none
 | _,_,_ => none
def compIdx (P : Program) (d : Nat) (t : TypeId) (x i : Operand) : Option AOp :=
 match opd x,opd i,P.underlying t with
 | some x,some i,some .string => some (.ids d x i)
 | some x,some i,some (.array ln e) => match tInfo P e with
   | some (agg,sz) => some (.idx d ln agg sz x i)
   | none => none
 | _,_,_ => none
def optOpd : Option Operand → Option (Option Opd)
 | none => some none
 | some x => (opd x).map some
def compSlc (P : Program) (d : Nat) (t : TypeId) (x : Operand) (lo hi mx : Option Operand) : Option AOp :=
 match opd x,optOpd lo,optOpd hi,optOpd mx,P.underlying t with
 | some x,some lo,some hi,some mx,some (.slice e) => match tInfo P e with
   | some (_,sz) => some (.slc d sz x lo hi mx)
   | none => none
 | some x,some lo,some hi,some none,some .string => some (.sls d x lo hi)
 | some x,some lo,some hi,some mx,some (.pointer tp) => match P.underlying tp with
   | some (.array ln e) => match tInfo P e with
     | some (_,sz) => some (.slp d sz ln x lo hi mx)
     | none => none
   | _ => none
 | some x,some lo,some hi,some mx,some (.array ln e) => match tInfo P e with
   | some (_,sz) => some (.slp d sz ln x lo hi mx)
   | none => none
 | _,_,_,_,_ => none
def compLen (P : Program) (d : Nat) (t : TypeId) (x : Operand) : Option AOp :=
 match opd x,P.underlying t with
 | some x,some (.slice _) => some (.len d x)
 | some x,some .string => some (.lns d x)
 | some x,some (.map _ _) => some (.lnm d x)
 | some _,some (.array n _) => some (.mv d (.k (I n)))
 | _,_ => none
def compApp (P : Program) (d : Nat) (ts tx : TypeId) (x y : Operand) : Option AOp :=
 match opd x,opd y,P.underlying ts,P.underlying tx with
 | some x,some y,some (.slice e),some (.slice _) => match tInfo P e,P.info? e,zeroOf P e with
   | some (_,sz),some i,some z => if z.length = sz then some (.app d sz i.bytes x y) else none
   | _,_,_ => none
 | some x,some y,some (.slice e),some (.int _) => match tInfo P e,P.info? e,zeroOf P e with
   | some (_,sz),some i,some z => if z.length = sz ∧ (z.all AV.isPC) = true then some (.appz d sz i.bytes z x y) else none
   | _,_,_ => none
 | _,_,_,_ => none
def compCall (P : Program) (d : Nat) (c : Call) : Option AOp :=
 match c with
 | { callee := .builtin .len,args := ⟨[x]⟩,argTypes := ⟨[t]⟩ } => compLen P d t x
 | { callee := .builtin .append,args := ⟨[x,y]⟩,argTypes := ⟨[t,u]⟩ } => compApp P d t u x y
 | { callee := .builtin .copy, args := ⟨[x, y]⟩, argTypes := ⟨t :: _⟩ } => match opd x, opd y, P.underlying t with
   | some x,some y,some (.slice e) => match tInfo P e with
     | some (_,sz) => some (.cpy d sz x y)
     | none => none
   | _,_,_ => none
 | { callee := .builtin .cap,args := ⟨[x]⟩,argTypes := ⟨[t]⟩ } => match opd x,P.underlying t with
   | some x,some (.slice _) => some (.cap d x)
   | _,_ => none
 | { callee := .builtin .max,args := ⟨[x,y]⟩,argTypes := _ } => match opd x,opd y with
   | some x,some y => some (.mx d true x y)
   | _,_ => none
 | { callee := .builtin .min,args := ⟨[x,y]⟩,argTypes := _ } => match opd x,opd y with
   | some x,some y => some (.mx d false x y)
   | _,_ => none
 | { callee := .value (.func f),args := args,argTypes := _ } => match opds args.toList with
   | some qs => if funOK P f then some (.call d f qs) else some (.callx d f qs)
   | none => none
 | { callee := .value x,args := args,argTypes := _ } => match opd x,opds args.toList with
   | some x,some qs => some (.callv d x qs)
   | _,_ => none
 | _ => none
def zeroV (P : Program) (t : TypeId) : Option Value := (P.info? t).bind (·.zero)
theorem run_zeroV {P : Program} {t : TypeId} {zv : Value} (h : zeroV P t = some zv) (w : World) : (zeroValue t).run P w = .ok zv w := by
 simp only [zeroV,Option.bind_eq_some_iff] at h
 obtain ⟨i,hi,hv⟩ := h
 simp [zeroValue,typeInfo,hi,hv]
def compIns (P : Program) (t : TypeId) (m k v : Operand) : Option AOp :=
 match opd m,opd k,opd v,P.underlying t with
 | some m,some k,some v,some (.map kt _) => match ksOf P kt with
   | some ks => some (.ins ks m k v)
   | none => none
 | _,_,_,_ => none
def compCall0 (P : Program) (c : Call) : Option AOp :=
 match c with
 | { callee := .builtin .clear, args := ⟨[x]⟩, argTypes := ⟨[t]⟩ } => match opd x, P.underlying t with
   | some x,some (.slice e) => match tInfo P e,zeroOf P e with
     | some (_,sz),some z => if z.length = sz ∧ (z.all AV.isPC) = true then some (.clr sz z x) else none
     | _,_ => none
   | _,_ => none
 | { callee := .builtin .delete, args := ⟨[x, y]⟩, argTypes := ⟨t :: _⟩ } => match opd x, opd y, P.underlying t with
   | some x,some y,some (.map kt _) => match ksOf P kt with
     | some ks => some (.del ks x y)
     | none => none
   | _,_,_ => none
 | _ => none
def compD (P : Program) (d : Nat) (op : Op) : Option AOp :=
 match op with
 | .move x | .assign x => (opd x).map (.mv d)
 | .pick c a b => match opd c,opd a,opd b with
   | some c,some a,some b => some (.pick d c a b)
   | _,_,_ => none
 | .binOp op ty x y _ => compBin P d op ty x y
 | .unOp op _ x => (opd x).map (.un d op)
 | .extract x i => (opd x).map fun x => .ext d x i
 | .load t x => match tInfo P t,opd x with
   | some (agg,sz),some x => some (.ld d agg sz x)
   | _,_ => none
 | .box t x => match tInfo P t,opd x with
   | some (_,sz),some x => some (.box d sz x)
   | _,_ => none
 | .alloc t => (zeroOf P t).map (.al d)
 | .buildSlice t n parts => match P.underlying t with
   | some (.slice e) => match tInfo P e,zeroOf P e,partsS n parts.toList with
     | some (_,sz),some z,some qs => if z.length = sz ∧ n * sz ≤ 16777216 then some (.bsl d n sz z qs) else none
     | _,_,_ => none
   | _ => none
 | .build t parts => match P.underlying t with
   | some (.struct fields) => match zeroOf P t,placesOf P fields.toList with
     | some z,some pl => (partsB pl z.length parts.toList).map (.bld d z)
     | _,_ => none
   | some (.array _ e) => match zeroOf P t,tInfo P e with
     | some z,some (_,sz) => (partsA sz z.length parts.toList).map (.bld d z)
     | _,_ => none
   | _ => none
 | .fieldAddr s x fi => match P.underlying s,opd x with
   | some (.struct fields),some x => match fields[fi]? with
     | some f => match tInfo P f.type with
       | some (_,sz) => if sz ≠ 0 then some (.fa d x f.offset) else none
       | none => none
     | none => none
   | _,_ => none
 | .field t x fi => match P.underlying t,opd x with
   | some (.struct fields),some x => match fields[fi]? with
     | some f => match tInfo P f.type with
       | some (agg,sz) => some (.fld d agg sz f.offset x)
       | none => none
     | none => none
   | _,_ => none
 | .indexAddr t x i => compIa P d t x i
 | .index t x i => compIdx P d t x i
 | .slice t x lo hi mx => compSlc P d t x lo hi mx
 | .makeSlice t l c => match P.underlying t,opd l,opd c with
   | some (.slice e),some l,some c => match tInfo P e,P.info? e,zeroOf P e with
     | some (_,sz),some i,some z => some (.mks d sz i.bytes z l c)
     | _,_,_ => none
   | _,_,_ => none
 | .convert t u x => match P.underlying t,P.underlying u,opd x with
   | some (.int _),some (.int k),some x => some (.cnv d k x)
   | _,_,_ => none
 | .nilCheck x => (opd x).map (.nilc d)
 | .makeMap _ none => some (.mkm d)
 | .lookup t m k ok => match opd m,opd k,P.underlying t with
   | some m,some k,some (.map kt e) => match ksOf P kt,zeroV P e with
     | some ks,some zv => some (.lku d ks (AV.ofValue zv) ok m k)
     | _,_ => none
   | _,_,_ => none
 | .mapEntry t m k => match opd m,opd k,P.underlying t with
   | some m,some k,some (.map kt e) => match ksOf P kt,zeroV P e with
     | some ks,some zv => some (.mpe d ks (AV.ofValue zv) m k)
     | _,_ => none
   | _,_,_ => none
 | .range t x => match opd x,P.underlying t with
   | some x,some (.map _ _) => some (.rng d x)
   | _,_ => none
 | .next x false => (opd x).map (.nxt d)
 | .entry x => (opd x).map (.ent d)
 | .makeFunc f fs cs => match opds fs.toList,opds cs.toList with
   | some fs,some cs => some (.mkf d f fs cs)
   | _,_ => none
 | .call c => compCall P d c
 | _ => none
def compOp (P : Program) (N : Nat) (o : Oper) : Option AOp :=
 match o.dst,o.op with
 | none,.store t x y => match tInfo P t,opd x,opd y with
   | some (_,sz),some x,some y => some (.st sz x y)
   | _,_,_ => none
 | none,.insert t m k v => compIns P t m k v
 | none,.mapUpdate t m k v => compIns P t m k v
 | none,.entryStore _ m s v => match opd m,opd s,opd v with
   | some m,some s,some v => some (.est m s v)
   | _,_,_ => none
 | none,.call c => compCall0 P c
 | some d,op => if d < N then compD P d op else none
 | none,_ => none
theorem optOpd_ok {x : Option Operand} {y : Option Opd} (h : optOpd x = some y) : OptOk x y := by
 cases x with
 | none => simp [optOpd] at h; subst h; trivial
 | some x =>
   simp only [optOpd,Option.map_eq_some_iff] at h
   obtain ⟨z,h1,rfl⟩ := h
   exact h1
theorem partsS_get {n : Nat} : ∀ {l : List (Nat × Operand)} {qs : List (Nat × Opd)},partsS n l = some qs → qs.length = l.length ∧ ∀ i (h : i < l.length) (h' : i < qs.length),l[i].1 = qs[i].1 ∧ opd l[i].2 = some qs[i].2 ∧ qs[i].1 < n
 | [],qs,h => by simp [partsS] at h; subst h; simp
 | (i, x) :: l, qs, h => by
   simp only [partsS] at h
   split at h
   · rename_i y r h1 h2
     split at h
     · rename_i hlt
       simp only [Option.some.injEq] at h
       subst h
       obtain ⟨l1,l2⟩ := partsS_get h2
       refine ⟨by simp [l1],fun j hj hj' => ?_⟩
       cases j with
       | zero => exact ⟨rfl,h1,hlt⟩
       | succ j => exact l2 j (by simpa using hj) (by simpa using hj')
     · cases h
   · cases h
theorem placesOf_get {P : Program} : ∀ {l : List Field} {pl : List (Nat × Nat)},placesOf P l = some pl → pl.length = l.length ∧ ∀ i (h : i < l.length) (h' : i < pl.length),pl[i].1 = l[i].offset ∧ ∃ agg,tInfo P l[i].type = some (agg,pl[i].2)
 | [],pl,h => by simp [placesOf] at h; subst h; simp
 | f :: l, pl, h => by
   simp only [placesOf] at h
   split at h
   · rename_i agg sz r h1 h2
     simp only [Option.some.injEq] at h
     subst h
     obtain ⟨l1,l2⟩ := placesOf_get h2
     refine ⟨by simp [l1],fun j hj hj' => ?_⟩
     cases j with
     | zero => exact ⟨rfl,_,h1⟩
     | succ j => exact l2 j (by simpa using hj) (by simpa using hj')
   · cases h
theorem partsB_get {pl : List (Nat × Nat)} {m : Nat} : ∀ {l : List (Nat × Operand)} {qs : List (Nat × Nat × Opd)},partsB pl m l = some qs → qs.length = l.length ∧ ∀ i (h : i < l.length) (h' : i < qs.length),pl[l[i].1]? = some (qs[i].1,qs[i].2.1) ∧ opd l[i].2 = some qs[i].2.2 ∧ qs[i].1 + qs[i].2.1 ≤ m
 | [],qs,h => by simp [partsB] at h; subst h; simp
 | (i, x) :: l, qs, h => by
   simp only [partsB] at h
   split at h
   · rename_i off sz y r h1 h2 h3
     split at h
     · rename_i hlt
       simp only [Option.some.injEq] at h
       subst h
       obtain ⟨l1,l2⟩ := partsB_get h3
       refine ⟨by simp [l1],fun j hj hj' => ?_⟩
       cases j with
       | zero => exact ⟨h1,h2,hlt⟩
       | succ j => exact l2 j (by simpa using hj) (by simpa using hj')
     · cases h
   · cases h
theorem partsA_get {sz m : Nat} : ∀ {l : List (Nat × Operand)} {qs : List (Nat × Nat × Opd)},partsA sz m l = some qs → qs.length = l.length ∧ ∀ i (h : i < l.length) (h' : i < qs.length),qs[i].1 = l[i].1 * sz ∧ qs[i].2.1 = sz ∧ opd l[i].2 = some qs[i].2.2 ∧ qs[i].1 + qs[i].2.1 ≤ m
 | [],qs,h => by simp [partsA] at h; subst h; simp
 | (i, x) :: l, qs, h => by
   simp only [partsA] at h
   split at h
   · rename_i y r h2 h3
     split at h
     · rename_i hlt
       simp only [Option.some.injEq] at h
       subst h
       obtain ⟨l1,l2⟩ := partsA_get h3
       refine ⟨by simp [l1],fun j hj hj' => ?_⟩
       cases j with
       | zero => exact ⟨rfl,rfl,h2,hlt⟩
       | succ j => exact l2 j (by simpa using hj) (by simpa using hj')
     · cases h
   · cases h
section
variable {P : Program} {o : Oper} {a : Act} {w : World} {g : G} {hp : Hp} {F : Nat → AV} {new : Nat} {r : AV} {ws : List (Nat × HObj)} {ro : Option Nat} {n : Nat}
theorem snd_D {d : Nat} {op : Op} {ao : AOp} (hc : compD P d op = some ao) (ho : o.op = op) (hF : FrOK w g F a) (hok : HeapOK hp g w) (hn : hp new = none) (hs : ao.sem P (evF F) hp new r ws) :
 OpRun ro n P o a w (Post hp g w r ws) := by
 have hd : (∀ c,op ≠ .defer c) → ∀ c,o.op ≠ .defer c := fun h => by rw [ho]; exact h
 cases op with
 | move x =>
   simp only [compD,Option.map_eq_some_iff] at hc; obtain ⟨y,h1,rfl⟩ := hc
   exact .of_value (hd (by simp)) (snd_mv (.inl ho) h1 hF hok hs)
 | assign x =>
   simp only [compD,Option.map_eq_some_iff] at hc; obtain ⟨y,h1,rfl⟩ := hc
   exact .of_value (hd (by simp)) (snd_mv (.inr ho) h1 hF hok hs)
 | pick c x y =>
   simp only [compD] at hc
   split at hc
   · rename_i h1 h2 h3; cases hc
     exact .of_value (hd (by simp)) (snd_pick ho h1 h2 h3 hF hok hs)
   · cases hc
 | binOp op ty x y ty' =>
   simp only [compD,compBin] at hc
   split at hc
   · rename_i h1 h2 h3; cases hc; exact .of_value (hd (by simp)) (snd_bin ho h1 h2 hF hok hs)
   · rename_i h1 h2 h3; cases hc; exact .of_value (hd (by simp)) (snd_bin ho h1 h2 hF hok hs)
   · split at hc
     · rename_i ao' hi; cases hc
       simp only [compIsn] at hi
       split at hi
       · split at hi
         · split at hi
           · cases hi; exact hs.elim
           · cases hi; exact hs.elim
           · cases hi
         · cases hi
       · cases hi
     · split at hc
       · rename_i ao' hi; cases hc
         simp only [compEqk] at hi
         split at hi
         · rename_i h1 h2 h3
           split at hi
           · rename_i hcond
             simp only [Bool.and_eq_true,Bool.not_eq_true'] at hcond
             split at hi
             · cases hi; exact .of_value (hd (by simp)) (snd_eqk (neg := false) ho rfl h3 hcond.1 hcond.2 h1 h2 hF hok hs)
             · cases hi; exact .of_value (hd (by simp)) (snd_eqk (neg := true) ho rfl h3 hcond.1 hcond.2 h1 h2 hF hok hs)
             · cases hi
           · cases hi
         · cases hi
       · split at hc
         · rename_i h1 h2; cases hc; exact .of_value (hd (by simp)) (snd_bing ho h1 h2 hF hok hs)
         · cases hc
 | unOp op ty x =>
   simp only [compD,Option.map_eq_some_iff] at hc; obtain ⟨y,h1,rfl⟩ := hc
   exact .of_value (hd (by simp)) (snd_un ho h1 hF hok hs)
 | extract x i =>
   simp only [compD,Option.map_eq_some_iff] at hc; obtain ⟨y,h1,rfl⟩ := hc
   exact .of_value (hd (by simp)) (snd_ext ho h1 hF hok hs)
 | load t x =>
   simp only [compD] at hc
   split at hc
   · rename_i h1 h2; cases hc; exact .of_value (hd (by simp)) (snd_ld ho h1 h2 hF hok hs)
   · cases hc
 | box t x =>
   simp only [compD] at hc
   split at hc
   · rename_i h1 h2; cases hc; exact .of_value (hd (by simp)) (snd_box ho h1 h2 hF hok hn hs)
   · cases hc
 | alloc t =>
   simp only [compD,Option.map_eq_some_iff] at hc; obtain ⟨z,h1,rfl⟩ := hc
   exact .of_value (hd (by simp)) (snd_al ho h1 hok hn hs)
 | buildSlice t m parts =>
   simp only [compD] at hc
   split at hc
   · rename_i e hu
     split at hc
     · rename_i agg sz z qs h1 h2 h3
       split at hc
       · rename_i hcond; cases hc
         obtain ⟨l1,l2⟩ := partsS_get h3
         exact .of_value (hd (by simp)) (snd_bsl ho hu h1 h2 hcond.1 hcond.2 (by simpa using l1) (fun i h h' => l2 i (by simpa using h) h') hF hok hs)
       · cases hc
     · cases hc
   · cases hc
 | build t parts =>
   simp only [compD] at hc
   split at hc
   · rename_i fields hu
     split at hc
     · rename_i z pl h1 h2
       simp only [Option.map_eq_some_iff] at hc
       obtain ⟨qs,h3,rfl⟩ := hc
       obtain ⟨l1,l2⟩ := partsB_get h3
       obtain ⟨p1,p2⟩ := placesOf_get h2
       exact .of_value (hd (by simp)) (snd_bld (fields := fields) (places := pl.toArray) ho ⟨hu,by simpa using p1,fun i h h' => p2 i (by simpa using h) (by simpa using h')⟩ h1 (by simpa using l1) (fun i h h' => by obtain ⟨a1,a2⟩ := l2 i (by simpa using h) h'; exact ⟨by rw [List.getElem?_toArray]; exact a1,a2⟩) hF hok hs)
     · cases hc
   · rename_i ln e hu
     split at hc
     · rename_i z agg sz h1 h2
       simp only [Option.map_eq_some_iff] at hc
       obtain ⟨qs,h3,rfl⟩ := hc
       obtain ⟨l1,l2⟩ := partsA_get h3
       exact .of_value (hd (by simp)) (snd_blda ho hu h2 h1 (by simpa using l1) (fun i h h' => by have := l2 i (by simpa using h) h'; simp only [Array.getElem_toList] at this; exact this) hF hok hs)
     · cases hc
   · cases hc
 | fieldAddr s x fi =>
   simp only [compD] at hc
   split at hc
   · rename_i fields y hu h1
     split at hc
     · rename_i f hf
       split at hc
       · rename_i agg sz ht
         split at hc
         · rename_i hz; cases hc
           exact .of_value (hd (by simp)) (snd_fa ho hu hf ht hz h1 hF hok hs)
         · cases hc
       · cases hc
     · cases hc
   · cases hc
 | field t x fi =>
   simp only [compD] at hc
   split at hc
   · rename_i fields y hu h1
     split at hc
     · rename_i f hf
       split at hc
       · rename_i agg sz ht; cases hc
         exact .of_value (hd (by simp)) (snd_fld ho hu hf ht h1 hF hok hs)
       · cases hc
     · cases hc
   · cases hc
 | indexAddr t x i =>
   simp only [compD,compIa] at hc
   split at hc
   · rename_i h1 h2 hu
     split at hc
     · rename_i agg sz ht
       split at hc
       · rename_i hz; cases hc
         exact .of_value (hd (by simp)) (snd_ia ho hu ht hz h1 h2 hF hok hs)
       · cases hc
     · cases hc
   · rename_i h1 h2 hu
     split at hc
     · rename_i agg sz ht; cases hc
       exact .of_value (hd (by simp)) (snd_iaa ho hu ht h1 h2 hF hok hs)
     · cases hc
   · cases hc
 | index t x i =>
   simp only [compD,compIdx] at hc
   split at hc
   · rename_i h1 h2 hu; cases hc
     exact .of_value (hd (by simp)) (snd_ids ho hu h1 h2 hF hok hs)
   · rename_i h1 h2 hu
     split at hc
     · rename_i agg sz ht; cases hc
       exact .of_value (hd (by simp)) (snd_idx ho hu ht h1 h2 hF hok hs)
     · cases hc
   · cases hc
 | slice t x lo hi mx =>
   simp only [compD,compSlc] at hc
   split at hc
   · rename_i h1 h2 h3 h4 hu
     split at hc
     · rename_i agg sz ht; cases hc
       exact .of_value (hd (by simp)) (snd_slc ho hu ht h1 (optOpd_ok h2) (optOpd_ok h3) (optOpd_ok h4) hF hok hs)
     · cases hc
   · rename_i h1 h2 h3 h4 hu; cases hc
     have : mx = none := by cases mx with
      | none => rfl
      | some z => simp [optOpd] at h4
     subst this
     exact .of_value (hd (by simp)) (snd_sls ho hu h1 (optOpd_ok h2) (optOpd_ok h3) hF hok hs)
   · rename_i h1 h2 h3 h4 hu
     split at hc
     · rename_i hup
       split at hc
       · rename_i agg sz ht; cases hc
         exact .of_value (hd (by simp)) (snd_slp ho (.inl ⟨hu,hup⟩) ht h1 (optOpd_ok h2) (optOpd_ok h3) (optOpd_ok h4) hF hok hs)
       · cases hc
     · cases hc
   · rename_i h1 h2 h3 h4 hu
     split at hc
     · rename_i agg sz ht; cases hc
       exact .of_value (hd (by simp)) (snd_slp (tp := 0) ho (.inr hu) ht h1 (optOpd_ok h2) (optOpd_ok h3) (optOpd_ok h4) hF hok hs)
     · cases hc
   · cases hc
 | makeSlice t l c =>
   simp only [compD] at hc
   split at hc
   · rename_i e y1 y2 hu h1 h2
     split at hc
     · rename_i agg sz i z ht hi hz; cases hc
       exact .of_value (hd (by simp)) (snd_mks ho hu ht hi rfl hz h1 h2 hF hok hn hs)
     · cases hc
   · cases hc
 | convert t u x =>
   simp only [compD] at hc
   split at hc
   · rename_i hu hu' h1; cases hc
     exact .of_value (hd (by simp)) (snd_cnv ho hu hu' h1 hF hok hs)
   · cases hc
 | nilCheck x =>
   simp only [compD,Option.map_eq_some_iff] at hc; obtain ⟨y,h1,rfl⟩ := hc
   exact .of_value (hd (by simp)) (snd_nilc ho h1 hF hok hs)
 | makeMap t res =>
   cases res with
   | none => simp only [compD] at hc; cases hc; exact .of_value (hd (by simp)) (snd_mkm ho hok hn hs)
   | some x => cases hc
 | lookup t m k ok =>
   simp only [compD] at hc
   split at hc
   · rename_i h1 h2 hu
     split at hc
     · rename_i hks hz; cases hc
       exact .of_value (hd (by simp)) (snd_lku ho hu hks (run_zeroV hz) h1 h2 hF hok hs)
     · cases hc
   · cases hc
 | mapEntry t m k =>
   simp only [compD] at hc
   split at hc
   · rename_i h1 h2 hu
     split at hc
     · rename_i hks hz; cases hc
       exact .of_value (hd (by simp)) (snd_mpe ho hu hks (run_zeroV hz) h1 h2 hF hok hs)
     · cases hc
   · cases hc
 | range t x =>
   simp only [compD] at hc
   split at hc
   · cases hc; exact hs.elim
   · cases hc
 | next x b =>
   cases b with
   | false => simp only [compD,Option.map_eq_some_iff] at hc; obtain ⟨y,h1,rfl⟩ := hc; exact hs.elim
   | true => cases hc
 | entry x => simp only [compD,Option.map_eq_some_iff] at hc; obtain ⟨y,h1,rfl⟩ := hc; exact hs.elim
 | makeFunc f fs cs =>
   simp only [compD] at hc
   split at hc
   · rename_i fs' cs' h1 h2; cases hc
     obtain ⟨l1,l2⟩ := opds_get h1
     obtain ⟨m1,m2⟩ := opds_get h2
     exact .of_value (hd (by simp)) (snd_mkf ho (by simpa using l1) (by simpa using m1) (fun i h h' => l2 i (by simpa using h) h') (fun i h h' => m2 i (by simpa using h) h') hF hok hs)
   · cases hc
 | call c =>
   simp only [compD,compCall] at hc
   split at hc
   · rename_i x t
     simp only [compLen] at hc
     split at hc
     · rename_i h1 hu; cases hc; exact .of_value (hd (by simp)) (snd_len ho rfl hu h1 hF hok hs)
     · rename_i h1 hu; cases hc; exact .of_value (hd (by simp)) (snd_lns ho rfl hu h1 hF hok hs)
     · rename_i h1 hu; cases hc; exact .of_value (hd (by simp)) (snd_lnm ho rfl hu h1 hF hok hs)
     · rename_i k e h1 hu; cases hc
       obtain ⟨rfl,rfl⟩ := hs
       refine .of_value (hd (by simp)) (.of (v := .int .i64 k) (w' := w) ?_ (.nil hok (.v _ _)))
       simp [execOp,ho,resolve,invoke,builtin,Builtin.len_,run_underlying hu,goInt]
     · cases hc
   · rename_i x y t u
     simp only [compApp] at hc
     split at hc
     · rename_i h1 h2 hu hux
       split at hc
       · rename_i agg sz i z ht hi hz
         split at hc
         · rename_i hzl; cases hc
           exact .of_value (hd (by simp)) (snd_app ho rfl hu hux ht hi rfl hz hzl h1 h2 hF hok hn hs)
         · cases hc
       · cases hc
     · rename_i h1 h2 hu hux
       split at hc
       · rename_i agg sz i z ht hi hz
         split at hc
         · rename_i hzl; cases hc
           exact .of_value (hd (by simp)) (snd_appz ho rfl hu hux ht hi rfl hz hzl.1 hzl.2 h1 h2 hF hok hn hs)
         · cases hc
       · cases hc
     · cases hc
   · rename_i x y t ats
     split at hc
     · rename_i h1 h2 hu
       split at hc
       · rename_i agg sz ht; cases hc
         exact .of_value (hd (by simp)) (snd_cpy ho rfl (by simp) hu ht h1 h2 hF hok hs)
       · cases hc
     · cases hc
   · split at hc
     · rename_i h1 hu; cases hc
       exact .of_value (hd (by simp)) (snd_cap ho rfl hu h1 hF hok hs)
     · cases hc
   · split at hc
     · rename_i h1 h2; cases hc
       exact .of_value (hd (by simp)) (snd_mx (mxm := true) ho rfl h1 h2 hF hok hs)
     · cases hc
   · split at hc
     · rename_i h1 h2; cases hc
       exact .of_value (hd (by simp)) (snd_mx (mxm := false) ho rfl h1 h2 hF hok hs)
     · cases hc
   · split at hc
     · rename_i qs hq
       split at hc
       · rename_i hf; cases hc
         exact snd_call ho rfl hf hq hF hok hn hs
       · cases hc; exact hs.elim
     · cases hc
   · split at hc
     · rename_i h1 h2; cases hc; exact hs.elim
     · cases hc
   · cases hc
 | _ => cases hc
theorem compIsn_dst {d : Nat} {op ty x y} {ao : AOp} (hc : compIsn P d op ty x y = some ao) : ao.dst = some d := by
 simp only [compIsn] at hc
 (repeat' split at hc) <;> first | (cases hc; done) | (cases hc; rfl)
theorem compEqk_dst {d : Nat} {op ty x y} {ao : AOp} (hc : compEqk P d op ty x y = some ao) : ao.dst = some d := by
 simp only [compEqk] at hc
 (repeat' split at hc) <;> first | (cases hc; done) | (cases hc; rfl)
theorem compBin_dst {d : Nat} {op ty x y} {ao : AOp} (hc : compBin P d op ty x y = some ao) : ao.dst = some d := by
 simp only [compBin] at hc
 split at hc
 · cases hc; rfl
 · cases hc; rfl
 · split at hc
   · rename_i h; cases hc; exact compIsn_dst h
   · split at hc
     · rename_i h; cases hc; exact compEqk_dst h
     · split at hc
       · cases hc; rfl
       · cases hc
theorem compD_dst {d : Nat} {op : Op} {ao : AOp} (hc : compD P d op = some ao) : ao.dst = some d := by
 cases op
 case binOp => exact compBin_dst hc
 case makeMap t res =>
  cases res with
  | none => simp only [compD] at hc; cases hc; rfl
  | some x => cases hc
 case next x b =>
  cases b with
  | false => simp only [compD,Option.map_eq_some_iff] at hc; obtain ⟨y,h1,rfl⟩ := hc; rfl
  | true => cases hc
 all_goals simp only [compD,compIa,compIdx,compSlc,compCall,compLen,compApp,Option.map_eq_some_iff] at hc <;> first
  | (obtain ⟨_,_,rfl⟩ := hc; rfl)
  | ((repeat' split at hc) <;> first | (cases hc; done) | (cases hc; rfl) | (simp only [Option.map_eq_some_iff] at hc; obtain ⟨_,_,rfl⟩ := hc; rfl))
theorem snd_op {N : Nat} {ao : AOp} (hc : compOp P N o = some ao) (hF : FrOK w g F a) (hok : HeapOK hp g w) (hn : hp new = none) (hs : ao.sem P (evF F) hp new r ws) :
 OpRun ro n P o a w (Post hp g w r ws) ∧ ao.dst = o.dst ∧ ∀ d,o.dst = some d → d < N := by
 unfold compOp at hc
 split at hc
 · rename_i t x y hd ho
   split at hc
   · rename_i agg sz x' y' h1 h2 h3; cases hc
     exact ⟨.of_skip (by rw [ho]; simp) (snd_st ho h1 h2 h3 hF hok hs),hd.symm,fun d e => by rw [hd] at e; cases e⟩
   · cases hc
 · rename_i t m k v hd ho
   simp only [compIns] at hc
   split at hc
   · rename_i h1 h2 h3 hu
     split at hc
     · rename_i hks; cases hc
       exact ⟨.of_skip (by rw [ho]; simp) (snd_ins (.inl ho) hu hks h1 h2 h3 hF hok hs),hd.symm,fun d e => by rw [hd] at e; cases e⟩
     · cases hc
   · cases hc
 · rename_i t m k v hd ho
   simp only [compIns] at hc
   split at hc
   · rename_i h1 h2 h3 hu
     split at hc
     · rename_i hks; cases hc
       exact ⟨.of_skip (by rw [ho]; simp) (snd_ins (.inr ho) hu hks h1 h2 h3 hF hok hs),hd.symm,fun d e => by rw [hd] at e; cases e⟩
     · cases hc
   · cases hc
 · rename_i t m s v hd ho
   split at hc
   · rename_i h1 h2 h3; cases hc
     exact ⟨.of_skip (by rw [ho]; simp) (snd_est ho h1 h2 h3 hF hok hs),hd.symm,fun d e => by rw [hd] at e; cases e⟩
   · cases hc
 · rename_i c hd ho
   simp only [compCall0] at hc
   split at hc
   · split at hc
     · rename_i h1 hu
       split at hc
       · rename_i ht hz
         split at hc
         · rename_i hcond; cases hc
           exact ⟨.of_value (by rw [ho]; simp) (snd_clr ho rfl hu ht hz hcond.1 hcond.2 h1 hF hok hs),hd.symm,fun d e => by rw [hd] at e; cases e⟩
         · cases hc
       · cases hc
     · cases hc
   · split at hc
     · rename_i h1 h2 hu
       split at hc
       · rename_i hks; cases hc
         exact ⟨.of_value (by rw [ho]; simp) (snd_del ho rfl (by simp) hu hks h1 h2 hF hok hs),hd.symm,fun d e => by rw [hd] at e; cases e⟩
       · cases hc
     · cases hc
   · cases hc
 · rename_i d hd
   split at hc
   · rename_i hlt
     exact ⟨snd_D hc rfl hF hok hn hs,by rw [compD_dst hc,hd],fun d' e => by rw [hd] at e; cases e; exact hlt⟩
   · cases hc
 · cases hc
theorem nilKind_eq {y : Operand} {kd : Nat} (h : nilKind y = some kd) : y = .const (nilOf kd) := by
 unfold nilKind at h
 split at h <;> first | (cases h; rfl) | cases h
def AOp.isMany : AOp → Bool
 | .rng .. | .nxt .. | .ent .. | .isn .. => true
 | _ => false
theorem snd_many {N : Nat} {ao : AOp} {K : AV → List (Nat × HObj) → Prop} (hc : compOp P N o = some ao) (hm : ao.isMany = true) (hF : FrOK w g F a) (hok : HeapOK hp g w) (hn : hp new = none) (hs : ao.many (evF F) hp new K) :
 OpRun ro n P o a w (Many hp g w K) ∧ ao.dst = o.dst ∧ ∀ d,o.dst = some d → d < N := by
 unfold compOp at hc
 split at hc
 · split at hc <;> first | (cases hc; simp [AOp.isMany] at hm) | cases hc
 · simp only [compIns] at hc
   (repeat' split at hc) <;> first | (cases hc; simp [AOp.isMany] at hm; done) | cases hc
 · simp only [compIns] at hc
   (repeat' split at hc) <;> first | (cases hc; simp [AOp.isMany] at hm; done) | cases hc
 · split at hc <;> first | (cases hc; simp [AOp.isMany] at hm; done) | cases hc
 · simp only [compCall0] at hc
   (repeat' split at hc) <;> first | (cases hc; simp [AOp.isMany] at hm; done) | cases hc
 · rename_i d hd
   split at hc
   · rename_i hlt
     refine ⟨?_,by rw [compD_dst hc,hd],fun d' e => by rw [hd] at e; cases e; exact hlt⟩
     generalize ho : o.op = op at hc
     have hdf : (∀ c,op ≠ .defer c) → ∀ c,o.op ≠ .defer c := fun h => by rw [ho]; exact h
     cases op
     case binOp op ty x y ty' =>
      simp only [compD,compBin] at hc
      split at hc
      · cases hc; simp [AOp.isMany] at hm
      · cases hc; simp [AOp.isMany] at hm
      · split at hc
        · rename_i ao' hi; cases hc
          simp only [compIsn] at hi
          split at hi
          · rename_i h1 h2
            have := nilKind_eq h2
            subst this
            split at hi
            · rename_i hk
              split at hi
              · cases hi; exact .of_value (hdf (by simp)) (snd_isn (neg := false) ho rfl hk h1 hF hok hs)
              · cases hi; exact .of_value (hdf (by simp)) (snd_isn (neg := true) ho rfl hk h1 hF hok hs)
              · cases hi
            · cases hi
          · cases hi
        · split at hc
          · rename_i ao' hi; cases hc
            simp only [compEqk] at hi
            (repeat' split at hi) <;> first | (cases hi; simp [AOp.isMany] at hm; done) | cases hi
          · split at hc
            · cases hc; simp [AOp.isMany] at hm
            · cases hc
     case range t x =>
      simp only [compD] at hc
      split at hc
      · rename_i h1 hu; cases hc
        exact .of_value (hdf (by simp)) (snd_rng ho hu h1 hF hok hn hs)
      · cases hc
     case next x b =>
      cases b with
      | false =>
        simp only [compD,Option.map_eq_some_iff] at hc; obtain ⟨y,h1,rfl⟩ := hc
        exact .of_value (hdf (by simp)) (snd_nxt ho h1 hF hok hs)
      | true => cases hc
     case entry x =>
      simp only [compD,Option.map_eq_some_iff] at hc; obtain ⟨y,h1,rfl⟩ := hc
      exact .of_value (hdf (by simp)) (snd_ent ho h1 hF hok hs)
     case makeMap t res =>
      cases res with
      | none => simp only [compD] at hc; cases hc; simp [AOp.isMany] at hm
      | some x => cases hc
     all_goals
      exfalso
      simp only [compD,compIa,compIdx,compSlc,compCall,compLen,compApp,Option.map_eq_some_iff] at hc <;> first
       | (obtain ⟨_,_,rfl⟩ := hc; simp [AOp.isMany] at hm; done)
       | ((repeat' split at hc) <;> first | (cases hc; done) | (cases hc; simp [AOp.isMany] at hm; done) | (simp only [Option.map_eq_some_iff] at hc; obtain ⟨_,_,rfl⟩ := hc; simp [AOp.isMany] at hm; done))
   · cases hc
 · cases hc
theorem snd_callx {c : Call} {f : FuncId} {args : Array Operand} {ats : Array TypeId} {qs : List Opd} (ho : o.op = .call c) (hc : c = { callee := .value (.func f),args := args,argTypes := ats })
 (hq : opds args.toList = some qs) (hF : FrOK w g F a) (hok : HeapOK hp g w) (hs : ExtOK P f (qs.map (evF F)) hp r) : VRun P o a w (Post hp g w r []) := by
 subst hc
 obtain ⟨l1,l2⟩ := opds_get hq
 obtain ⟨v,h1,h2⟩ := hs w g (args.map a.eval) hok (by simp [l1]) (fun i hi => by
  simp at hi
  have := ev_rep hF (l2 i (by omega) hi)
  simpa [show i < args.size by simp at l1; omega] using this)
 refine .of (v := v) (w' := w) ?_ (.nil hok h2)
 have hfe : a.eval (.func f) = .func (.func f) #[] #[] := rfl
 simp [execOp,ho,resolve,hfe,Deferred.ofValue,invoke,h1]
end
end Go.AM

namespace Go.AM
open Go.RowKit
structure St where
 fr : List (Nat × AV)
 hp : List HObj
def get : List (Nat × AV) → Nat → AV
 | [],_ => .any
 | (k,x) :: r,t => if k = t then x else get r t
def setL (l : List HObj) (id : Nat) (o : HObj) : List HObj := if id < l.length then l.set id o else l ++ [o]
def writeL (l : List HObj) : List (Nat × HObj) → List HObj
 | [] => l
 | (id,o) :: ws => writeL (setL l id o) ws
def hpf (l : List HObj) : Hp := fun i => l[i]?
def frPut (fr : List (Nat × AV)) (d : Option Nat) (r : AV) : List (Nat × AV) := match d with
 | some d => (d,r) :: fr
 | none => fr
def St.step (st : St) (d : Option Nat) (r : AV) (ws : List (Nat × HObj)) : St := { fr := frPut st.fr d r,hp := writeL st.hp ws }
def St.keep (st : St) (ts : List Nat) : St := { st with fr := ts.map fun t => (t,get st.fr t) }
def CallW (P : Program) (f : FuncId) (xs : List AV) (hp : List HObj) (K : AV → List HObj → Prop) : Prop :=
 ∀ (ro : Option Nat) (n : Nat) (w : World) (g : G) (vs : Array Value),HeapOK (hpf hp) g w → vs.size = xs.length → (∀ i (h : i < xs.length),Rep w g false xs[i] (vs.getD i undef)) →
   CallsIn (W ro) n P f vs w fun e w' => ∃ v r hp' g',e = .returned v ∧ K r hp' ∧ Rep w' g' false r v ∧ HeapOK (hpf hp') g' w' ∧ Upd (hpf hp) g w (hpf hp') g' w'
structure HE where
 Y : Nat → List AV → List HObj → (AV → List HObj → Prop) → Prop
 R : AV → List HObj → (List AV → List HObj → (AV → List HObj → Prop) → Prop) → (List HObj → Prop) → Prop
def aop (P : Program) (E : HE) (o : AOp) (st : St) (K : St → Prop) : Prop :=
 match o with
 | .callx d f args => ∃ r,ExtOK P f (args.map (evF (get st.fr))) (hpf st.hp) r ∧ K { fr := (d,r) :: st.fr,hp := st.hp }
 | .rng d x => (AOp.rng d x).many (evF (get st.fr)) (hpf st.hp) st.hp.length fun r ws => K (st.step (some d) r ws)
 | .nxt d x => (AOp.nxt d x).many (evF (get st.fr)) (hpf st.hp) st.hp.length fun r ws => K (st.step (some d) r ws)
 | .ent d x => (AOp.ent d x).many (evF (get st.fr)) (hpf st.hp) st.hp.length fun r ws => K (st.step (some d) r ws)
 | .isn d b kd x => (AOp.isn d b kd x).many (evF (get st.fr)) (hpf st.hp) st.hp.length fun r ws => K (st.step (some d) r ws)
 | .call d f args => CallW P f (args.map (evF (get st.fr))) st.hp fun r hp' => K { fr := (d,r) :: st.fr,hp := hp' }
 | .callv d x args => match evF (get st.fr) x with
   | .fn (.func f) first caps => funOK P f = true ∧ CallW P f (first ++ args.map (evF (get st.fr)) ++ caps) st.hp fun r hp' => K { fr := (d,r) :: st.fr,hp := hp' }
   | .yl id => ∃ K0,E.Y id (args.map (evF (get st.fr))) st.hp K0 ∧ ∀ r hp',K0 r hp' → K { fr := (d,r) :: st.fr,hp := hp' }
   | _ => False
 | o => ∃ r ws,o.sem P (evF (get st.fr)) (hpf st.hp) st.hp.length r ws ∧ K (st.step o.dst r ws)
def aops (P : Program) (E : HE) : List AOp → St → (St → Prop) → Prop
 | [],st,K => K st
 | o :: os,st,K => aop P E o st fun st => aops P E os st K
def undefs (os : List AOp) (st : St) : St := { st with fr := (os.filterMap fun o => o.dst.map fun d => (d,AV.v undef)).reverse ++ st.fr }
structure Grp where
 guard : Option (Nat × Bool)
 ops : List AOp
def agrps (P : Program) (E : HE) : List Grp → St → (St → Prop) → Prop
 | [],st,K => K st
 | ⟨none,os⟩ :: gs,st,K => aops P E os st fun st => agrps P E gs st K
 | ⟨some (j,b),os⟩ :: gs,st,K => match get st.fr j with
   | .v (.bool c) => (c = b → aops P E os st fun st => agrps P E gs st K) ∧ (c ≠ b → agrps P E gs (undefs os st) K)
   | .v (.tuple _) => agrps P E gs (undefs os st) K
   | _ => False
inductive AC where
 | skip
 | rgn (gs : List Grp) (keep : List Nat)
 | drw (gs : List Grp) (un : List (Nat × Nat)) (keep : List Nat)
 | seq (x y : AC)
 | cond (c : Opd) (x y : AC)
 | block (id : Nat) (x : AC)
 | loop (x : AC)
 | exit (id : Nat)
 | ret
 | label (l : Nat)
 | scope (x : AC)
 | rf (g : Opd) (ps : List Nat) (x y : AC) (keep : List Nat)
 | dead
def Sim (N : Nat) (st : St) (a : Act) (w : World) (g : G) : Prop := a.tmps.size = N ∧ FrOK w g (get st.fr) a ∧ HeapOK (hpf st.hp) g w
def St.le (st st' : St) : Prop := ∀ N a w g,Sim N st a w g → ∃ g',Sim N st' a w g' ∧ Upd (hpf st.hp) g w (hpf st'.hp) g' w
def Exit.th (K : St → Prop) (Q : Exit → St → Prop) : Exit → St → Prop
 | .normal,st => K st
 | e,st => Q e st
def Exit.blk (id : Nat) (Q : Exit → St → Prop) : Exit → St → Prop
 | .exit id',st => if id' = id then Q .normal st else Q (.exit id') st
 | e,st => Q e st
abbrev Tr := List (List Nat × List Nat)
def AV.ids0 : AV → List Nat
 | .ref id _ => [id]
 | .ms id _ _ _ => [id]
 | .mp id => [id]
 | .mc id _ _ _ _ => [id]
 | .yl id => [id]
 | _ => []
def AV.ids1 : AV → List Nat
 | .ref id _ => [id]
 | .ms id _ _ _ => [id]
 | .mp id => [id]
 | .mc id _ _ _ _ => [id]
 | .yl id => [id]
 | .agg cs => cs.flatMap AV.ids0
 | .fn _ as bs => as.flatMap AV.ids0 ++ bs.flatMap AV.ids0
 | _ => []
def AV.ids : AV → List Nat
 | .agg cs => cs.flatMap AV.ids1
 | .tup cs => cs.flatMap AV.ids1
 | x => x.ids1
def AOp.opds : AOp → List Opd
 | .mv _ x | .un _ _ x | .ext _ x _ | .ld _ _ _ x | .box _ _ x | .fa _ x _ | .fld _ _ _ _ x | .len _ x | .lns _ x | .lnm _ x | .cnv _ _ x | .nilc _ x | .cap _ x | .clr _ _ x | .rng _ x | .nxt _ x | .ent _ x | .isn _ _ _ x => [x]
 | .pick _ c a b => [c,a,b]
 | .bin _ _ x y | .bing _ _ _ x y | .st _ x y | .ia _ _ x y | .iaa _ _ _ x y | .idx _ _ _ _ x y | .ids _ x y | .app _ _ _ x y | .cpy _ _ x y | .mks _ _ _ _ x y | .mx _ _ x y | .appz _ _ _ _ x y | .lku _ _ _ _ x y | .mpe _ _ _ x y | .del _ x y | .eqk _ _ _ x y => [x,y]
 | .ins _ x y z | .est x y z => [x,y,z]
 | .al _ _ | .mkm _ => []
 | .bsl _ _ _ _ ps => ps.map (·.2)
 | .bld _ _ ps => ps.map (·.2.2)
 | .slc _ _ x lo hi m | .slp _ _ _ x lo hi m => [x] ++ lo.toList ++ hi.toList ++ m.toList
 | .sls _ x lo hi => [x] ++ lo.toList ++ hi.toList
 | .mkf _ _ as bs => as ++ bs
 | .call _ _ as | .callx _ _ as => as
 | .callv _ x as => x :: as
def AOp.heapy : AOp → Bool
 | .ld .. | .st .. | .bsl .. | .app .. | .cpy .. | .lnm .. | .call .. | .callv .. | .clr .. | .appz .. | .slp .. | .ins .. | .lku .. | .mpe .. | .est .. | .del .. | .callx .. | .rng .. | .nxt .. | .ent .. => true
 | _ => false
def AOp.foot (o : AOp) (F : Nat → AV) : List Nat := bif o.heapy then o.opds.flatMap fun x => (evF F x).ids else []
def dops (P : Program) : List AOp → St → Tr → (St → Tr → Prop) → Prop
 | [],st,tr,K => K st tr
 | o :: os,st,tr,K => ∃ r ws,o.sem P (evF (get st.fr)) (hpf st.hp) st.hp.length r ws ∧ dops P os (st.step o.dst r ws) (tr ++ [(o.foot (get st.fr),ws.map (·.1))]) K
def dgrps (P : Program) : List Grp → St → Tr → (St → Tr → Prop) → Prop
 | [],st,tr,K => K st tr
 | ⟨none,os⟩ :: gs,st,tr,K => dops P os st tr fun st tr => dgrps P gs st tr K
 | ⟨some (j,b),os⟩ :: gs,st,tr,K => match get st.fr j with
   | .v (.bool c) => (c = b → dops P os st tr fun st tr => dgrps P gs st tr K) ∧ (c ≠ b → dgrps P gs (undefs os st) (tr ++ os.map fun _ => ([],[])) K)
   | .v (.tuple _) => dgrps P gs (undefs os st) (tr ++ os.map fun _ => ([],[])) K
   | _ => False
def disj (a b : List Nat) : Bool := a.all fun x => !b.contains x
def compat (tr : Tr) : List (Nat × Nat) → Bool
 | [] => true
 | (i,j) :: un => (match tr[i]?,tr[j]? with
   | some (ri,wi),some (rj,wj) => disj wi rj && disj wi wj && disj wj ri
   | _,_ => false) && compat tr un
def Exit.ng (Q : Exit → St → Prop) : Exit → St → Prop
 | .goto _,_ => False
 | e,st => Q e st
def RoundQ (id : Nat) (K : AV → List HObj → Prop) : Exit → St → Prop
 | .normal,st => hpf st.hp id = some (.lp .busy (id + 1)) ∧ K (B true) (setL st.hp id (.lp .ready (id + 1)))
 | .ret,st => hpf st.hp id = some (.lp .busy (id + 1)) ∧ K (B false) (setL st.hp id (.lp (.done none) (id + 1)))
 | .exit e,st => hpf st.hp id = some (.lp .busy (id + 1)) ∧ K (B false) (setL st.hp id (.lp (.done (some e)) (id + 1)))
 | _,_ => False
def RfEnd (id : Nat) (fr : List (Nat × AV)) (ks : List Nat) (Q : Exit → St → Prop) (hp : List HObj) : Prop :=
 match hpf hp id with
 | some (.lp .ready _) => Q .normal (St.keep { fr := fr,hp := setL hp id .gone } ks)
 | some (.lp (.done none) _) => Q .ret { fr := fr,hp := setL hp id .gone }
 | some (.lp (.done (some e)) _) => Q (.exit e) { fr := fr,hp := setL hp id .gone }
 | _ => False
def putPs : List Nat → List AV → List (Nat × AV) → List (Nat × AV)
 | p :: ps,x :: xs,fr => putPs ps xs ((p,x) :: fr)
 | _,_,fr => fr
def AWP (P : Program) (E : HE) : AC → St → (Exit → St → Prop) → Prop
 | .skip,st,Q => Q .normal st
 | .rgn gs ks,st,Q => agrps P E gs st fun st => Q .normal (st.keep ks)
 | .drw gs un ks,st,Q => dgrps P gs st [] fun st tr => compat tr un = true ∧ Q .normal (st.keep ks)
 | .seq x y,st,Q => AWP P E x st (Exit.th (fun st => AWP P E y st Q) Q)
 | .cond c x y,st,Q => match evF (get st.fr) c with
   | .v (.bool t) => (t = true → AWP P E x st Q) ∧ (t = false → AWP P E y st Q)
   | _ => False
 | .block id x,st,Q => AWP P E x st (Exit.blk id Q)
 | .loop x,st,Q => ∃ (α : Type) (I : α → St) (C : α → Prop) (μ : α → Nat) (a0 : α),C a0 ∧ St.le st (I a0) ∧
  ∀ a,C a → AWP P E x (I a) (Exit.th (fun st' => ∃ a',C a' ∧ μ a' < μ a ∧ St.le st' (I a')) Q)
 | .exit id,st,Q => Q (.exit id) st
 | .ret,st,Q => Q .ret st
 | .label _,st,Q => Q .normal st
 | .scope x,st,Q => AWP P E x st (Exit.ng Q)
 | .rf g ps x y ks, st, Q => ∃ K0, E.R (evF (get st.fr) g) st.hp
       (fun xs hp K => hpf hp st.hp.length = some (.lp .ready (st.hp.length + 1)) ∧ xs.length = ps.length ∧
        AWP P E x { fr := putPs ps xs st.fr,hp := hp } (Exit.th (fun st1 => hpf st1.hp st.hp.length = some (.lp .ready (st.hp.length + 1)) ∧
         AWP P E y { fr := st1.fr,hp := setL st1.hp st.hp.length (.lp .busy (st.hp.length + 1)) } (RoundQ st.hp.length K)) (fun _ _ => False))) K0 ∧
       ∀ hp',K0 hp' → RfEnd st.hp.length st.fr ks Q hp'
 | .dead,_,_ => False
theorem hpf_set {l : List HObj} {id : Nat} {o : HObj} (h : id ≤ l.length) : hpf (setL l id o) = Hp.set (hpf l) id o := by
 funext i
 simp only [hpf,setL,Hp.set]
 split
 · rename_i hlt
   rw [List.getElem?_set]
   by_cases e : id = i
   · subst e; simp [hlt]
   · simp [e,Ne.symm e]
 · have : id = l.length := by omega
   subst this
   by_cases e : i = l.length
   · subst e; simp
   · simp only [e,if_false]
     rcases Nat.lt_or_ge i l.length with h1 | h1
     · rw [List.getElem?_append_left h1]
     · rw [List.getElem?_eq_none (by simp; omega),List.getElem?_eq_none h1]
theorem setL_len (l : List HObj) (id : Nat) (o : HObj) : l.length ≤ (setL l id o).length := by simp only [setL]; split <;> simp
theorem hpf_write : ∀ {ws : List (Nat × HObj)} {l : List HObj},(∀ p ∈ ws,p.1 ≤ l.length) → hpf (writeL l ws) = Hp.write (hpf l) ws
 | [],l,_ => rfl
 | (id,o) :: ws,l,h => by
   simp only [writeL,Hp.write]
   rw [hpf_write (fun p hp => Nat.le_trans (h p (by simp [hp])) (setL_len l id o)),hpf_set (h (id,o) (by simp))]
theorem hpf_lt {l : List HObj} {id : Nat} {o : HObj} (h : hpf l id = some o) : id < l.length := (List.getElem?_eq_some_iff.1 h).1
theorem purifyAll_lt {l : List HObj} {xs ys : List AV} {is : List Nat} (h : purifyAll (hpf l) xs = some (ys,is)) : ∀ i ∈ is,i < l.length := fun i hi => by
 obtain ⟨cs,hcs⟩ := purifyAll_ids h i hi
 exact hpf_lt hcs
theorem app_ids {l : List HObj} {r : AV} {ws : List (Nat × HObj)} {sz bytes m : Nat} {x : AV} {ys : List AV} (h : semApp (hpf l) l.length r ws sz bytes x m ys) : ∀ p ∈ ws,p.1 ≤ l.length := by
 simp only [semApp] at h
 split at h
 · obtain ⟨_,_,_,_,_,_,rfl⟩ := h
   intro p hp; simp at hp; subst hp; exact Nat.le_refl _
 · split at h
   · rename_i hc
     obtain ⟨_,_,_,_,_,rfl⟩ := h
     intro p hp; simp at hp
     rcases hp with rfl | rfl
     · exact Nat.le_of_lt (hpf_lt hc)
     · exact Nat.le_refl _
   · exact h.elim
 · split at h
   · rename_i hc
     obtain ⟨_,_,_,_,h⟩ := h
     rcases h with ⟨_,_,_,rfl⟩ | ⟨_,_,rfl⟩
     · intro p hp; simp at hp; subst hp; exact Nat.le_of_lt (hpf_lt hc)
     · intro p hp; simp at hp; subst hp; exact Nat.le_refl _
   · exact h.elim
 · exact h.elim
theorem many_ids {o : AOp} {ev : Opd → AV} {l : List HObj} {K : AV → List (Nat × HObj) → Prop} (h : o.many ev (hpf l) l.length K) : o.many ev (hpf l) l.length fun r ws => (∀ p ∈ ws, p.1 ≤ l.length) ∧ K r ws := by
 have nil : ∀ {p : Nat × HObj},p ∈ ([] : List (Nat × HObj)) → p.1 ≤ l.length := fun h => by simp at h
 cases o with
 | rng d x =>
   simp only [AOp.many] at h ⊢
   split at h
   · split at h
     · exact ⟨fun p hp => by simp at hp; subst hp; exact Nat.le_refl _,h⟩
     · rename_i hid
       exact fun es clk hΦ => ⟨fun p hp => by
        simp at hp
        rcases hp with rfl | rfl
        · exact Nat.le_of_lt (hpf_lt hid)
        · exact Nat.le_refl _,h es clk hΦ⟩
     · exact h
   · exact h
 | nxt d x =>
   simp only [AOp.many] at h ⊢
   split at h
   · split at h
     · rename_i hid
       split at h
       · exact ⟨h.1,fun e => ⟨fun p hp => nil hp,h.2.1 e⟩,fun e he hs => ⟨fun p hp => by simp at hp; subst hp; exact Nat.le_of_lt (hpf_lt hid),h.2.2 e he hs⟩⟩
       · exact h
     · exact h
   · exact h
 | ent d x =>
   simp only [AOp.many] at h ⊢
   split at h
   · split at h
     · split at h
       · obtain ⟨h1,b,e,h2,h3,h4⟩ := h
         exact ⟨h1,b,e,h2,h3,fun p hp => nil hp,h4⟩
       · exact h
     · exact h
   · exact h
 | isn d b kd x =>
   simp only [AOp.many] at h ⊢
   split at h
   · split at h
     · exact ⟨⟨fun p hp => nil hp,h.1⟩,⟨fun p hp => nil hp,h.2⟩⟩
     · exact ⟨fun p hp => nil hp,h⟩
   · exact ⟨fun e => ⟨fun p hp => nil hp,h.1 e⟩,fun e => ⟨⟨fun p hp => nil hp,(h.2 e).1⟩,⟨fun p hp => nil hp,(h.2 e).2⟩⟩⟩
   all_goals first | exact ⟨fun p hp => nil hp,h⟩ | exact h
 | _ => exact h.elim
theorem many_mono {o : AOp} {ev : Opd → AV} {hp : Hp} {new : Nat} {K K' : AV → List (Nat × HObj) → Prop} (hk : ∀ r ws,K r ws → K' r ws) (h : o.many ev hp new K) : o.many ev hp new K' := by
 cases o with
 | rng d x =>
   simp only [AOp.many] at h ⊢
   split at h
   · split at h
     · exact hk _ _ h
     · exact fun es clk hΦ => hk _ _ (h es clk hΦ)
     · exact h
   · exact h
 | nxt d x =>
   simp only [AOp.many] at h ⊢
   split at h
   · split at h
     · split at h
       · exact ⟨h.1,fun e => hk _ _ (h.2.1 e),fun e he hs => hk _ _ (h.2.2 e he hs)⟩
       · exact h
     · exact h
   · exact h
 | ent d x =>
   simp only [AOp.many] at h ⊢
   split at h
   · split at h
     · split at h
       · obtain ⟨h1,b,e,h2,h3,h4⟩ := h
         exact ⟨h1,b,e,h2,h3,hk _ _ h4⟩
       · exact h
     · exact h
   · exact h
 | isn d b kd x =>
   simp only [AOp.many] at h ⊢
   split at h
   · split at h
     · exact ⟨hk _ _ h.1,hk _ _ h.2⟩
     · exact hk _ _ h
   · exact ⟨fun e => hk _ _ (h.1 e),fun e => ⟨hk _ _ (h.2 e).1,hk _ _ (h.2 e).2⟩⟩
   all_goals first | exact hk _ _ h | exact h
 | _ => exact h.elim
theorem sem_ids {P : Program} {o : AOp} {ev : Opd → AV} {l : List HObj} {r : AV} {ws : List (Nat × HObj)} (h : o.sem P ev (hpf l) l.length r ws) : ∀ p ∈ ws,p.1 ≤ l.length := by
 have nil : ∀ {ws : List (Nat × HObj)},ws = [] → ∀ p ∈ ws,p.1 ≤ l.length := fun e p hp => by subst e; simp at hp
 have gn : ∀ {is : List Nat},(∀ i ∈ is,i < l.length) → ∀ p ∈ gones is,p.1 ≤ l.length := fun h p hp => by
  simp only [gones,List.mem_map] at hp
  obtain ⟨i,hi,rfl⟩ := hp
  exact Nat.le_of_lt (h i hi)
 cases o with
 | st sz a x =>
   simp only [AOp.sem,semSt] at h
   split at h
   · split at h
     · rename_i hc
       obtain ⟨_,_,_,rfl,_⟩ := h
       intro p hp; simp at hp; subst hp
       exact Nat.le_of_lt (hpf_lt hc)
     · exact h.elim
   · exact h.elim
 | ld d agg sz x =>
   simp only [AOp.sem,semLd] at h
   split at h
   · exact nil h.1
   · split at h
     · exact nil h.1
     · exact h.elim
   · exact h.elim
 | box => obtain ⟨_,_,_,rfl⟩ := h; intro p hp; simp at hp; subst hp; exact Nat.le_refl _
 | al => obtain ⟨_,rfl⟩ := h; intro p hp; simp at hp; subst hp; exact Nat.le_refl _
 | mks => obtain ⟨_,_,_,_,_,_,_,rfl⟩ := h; intro p hp; simp at hp; subst hp; exact Nat.le_refl _
 | bsl => obtain ⟨_,_,h1,_,_,rfl⟩ := h; exact gn (purifyAll_lt h1)
 | call =>
   obtain ⟨_,_,h1,h2⟩ := h
   rcases h2 with ⟨_,rfl⟩ | ⟨m,sz,cs,_,_,rfl⟩ | ⟨Φ,_,_,rfl⟩
   · intro p hp
     cases hs : r.scalar with
     | true => rw [hs] at hp; simp at hp
     | false => rw [hs] at hp; exact gn (purifyAll_lt h1) p hp
   · intro p hp
     rw [List.mem_append] at hp
     rcases hp with hp | hp
     · exact gn (purifyAll_lt h1) p hp
     · simp at hp; subst hp; exact Nat.le_refl _
   · intro p hp
     rw [List.mem_append] at hp
     rcases hp with hp | hp
     · exact gn (purifyAll_lt h1) p hp
     · simp at hp; subst hp; exact Nat.le_refl _
 | app d sz bytes x y =>
   obtain ⟨m,ys,_,_,h⟩ := h
   exact app_ids h
 | cpy d sz x y =>
   simp only [AOp.sem] at h
   split at h
   · obtain ⟨_,_,_,_,_,hc,_,_,_,rfl⟩ := h
     intro p hp; simp at hp; subst hp
     exact Nat.le_of_lt (hpf_lt hc)
   · obtain ⟨_,_,_,_,_,hc,_,_,_,rfl⟩ := h
     intro p hp; simp at hp; subst hp
     exact Nat.le_of_lt (hpf_lt hc)
   · exact h.elim
 | slc d sz x lo hi mx =>
   simp only [AOp.sem,semSlc] at h
   split at h
   · obtain ⟨_,_,_,_,_,_,_,_,h⟩ := h; exact nil h
   · obtain ⟨_,_,_,_,_,_,_,_,_,h⟩ := h; exact nil h
   · obtain ⟨_,_,_,_,_,_,_,_,_,_,_,h⟩ := h; exact nil h
   · exact h.elim
 | sls d x lo hi =>
   simp only [AOp.sem] at h
   split at h
   · obtain ⟨_,_,_,_,_,_,_,h⟩ := h; exact nil h
   · exact h.elim
 | cap => simp only [AOp.sem] at h; split at h <;> first | exact nil h.2.2 | exact nil h.2 | exact h.elim
 | clr =>
   simp only [AOp.sem] at h
   split at h
   · obtain ⟨_,hc,_,_,_,rfl⟩ := h
     intro p hp; simp at hp; subst hp
     exact Nat.le_of_lt (hpf_lt hc)
   · obtain ⟨_,hc,_,_,_,rfl⟩ := h
     intro p hp; simp at hp; subst hp
     exact Nat.le_of_lt (hpf_lt hc)
   · exact h.elim
 | appz d sz bytes z x y =>
   obtain ⟨m,_,h⟩ := h
   exact app_ids h
 | slp => simp only [AOp.sem] at h; (repeat' split at h) <;> first | (obtain ⟨_,_,_,_,_,_,_,_,_,_,_,h⟩ := h; exact nil h) | (obtain ⟨_,_,_,_,_,_,_,_,_,h⟩ := h; exact nil h) | exact h.elim
 | mkm => obtain ⟨_,rfl⟩ := h; intro p hp; simp at hp; subst hp; exact Nat.le_refl _
 | ins =>
   simp only [AOp.sem] at h
   split at h
   · split at h
     · rename_i hc
       obtain ⟨_,_,_,_,h⟩ := h
       rcases h with ⟨_,_,_,_,rfl⟩ | ⟨_,rfl⟩ <;> (intro p hp; simp at hp; subst hp; exact Nat.le_of_lt (hpf_lt hc))
     · exact h.elim
   · exact h.elim
 | lku =>
   simp only [AOp.sem] at h
   split at h
   · split at h
     · obtain ⟨_,_,_,h,_⟩ := h; exact nil h
     · obtain ⟨_,_,_,_,h,_⟩ := h; exact nil h
     · exact h.elim
   · exact h.elim
 | mpe =>
   simp only [AOp.sem] at h
   split at h
   · split at h
     · rename_i hc
       obtain ⟨_,_,_,h⟩ := h
       rcases h with ⟨_,_,_,_,_,rfl⟩ | ⟨_,_,rfl⟩
       · exact nil rfl
       · intro p hp; simp at hp; subst hp; exact Nat.le_of_lt (hpf_lt hc)
     · exact h.elim
   · exact h.elim
 | est =>
   simp only [AOp.sem] at h
   split at h
   · split at h
     · rename_i hc
       obtain ⟨_,_,_,_,_,_,rfl⟩ := h
       intro p hp; simp at hp; subst hp; exact Nat.le_of_lt (hpf_lt hc)
     · exact h.elim
   · exact h.elim
 | del =>
   simp only [AOp.sem] at h
   split at h
   · split at h
     · rename_i hc
       obtain ⟨_,_,_,_,h⟩ := h
       rcases h with ⟨_,_,rfl⟩ | ⟨_,rfl⟩
       · intro p hp; simp at hp; subst hp; exact Nat.le_of_lt (hpf_lt hc)
       · exact nil rfl
     · exact h.elim
   · exact h.elim
 | eqk => obtain ⟨_,_,_,_,_,_,_,h⟩ := h; exact nil h
 | callx => exact h.elim
 | rng => exact h.elim
 | nxt => exact h.elim
 | ent => exact h.elim
 | isn => exact h.elim
 | mv => exact nil h.2
 | pick =>
   simp only [AOp.sem] at h
   split at h
   · exact nil h.2
   · exact h.elim
 | bin =>
   simp only [AOp.sem] at h
   split at h
   · obtain ⟨_,_,_,h⟩ := h; exact nil h
   · exact h.elim
 | bing => obtain ⟨_,_,_,_,_,_,_,_,h⟩ := h; exact nil h
 | un =>
   simp only [AOp.sem] at h
   split at h
   · obtain ⟨_,_,_,h⟩ := h; exact nil h
   · exact h.elim
 | ext =>
   simp only [AOp.sem] at h
   split at h
   · obtain ⟨_,_,_,h⟩ := h; exact nil h
   · exact h.elim
 | bld => exact nil h.2.2
 | fa => simp only [AOp.sem] at h; split at h <;> first | exact nil h.2 | exact h.elim
 | fld => simp only [AOp.sem] at h; split at h <;> first | exact nil h.2 | exact h.elim
 | ia => simp only [AOp.sem] at h; split at h <;> first | exact nil h.2.2.1 | exact nil h.2.2.2 | exact h.elim
 | iaa => simp only [AOp.sem] at h; split at h <;> first | exact nil h.2.2 | exact h.elim
 | idx => simp only [AOp.sem] at h; split at h <;> first | exact nil h.2.2 | exact h.elim
 | ids => simp only [AOp.sem] at h; split at h <;> first | exact nil h.2.2 | exact h.elim
 | len => simp only [AOp.sem] at h; split at h <;> first | exact nil h.2 | exact h.elim
 | lns => simp only [AOp.sem] at h; split at h <;> first | exact nil h.2 | exact h.elim
 | lnm => simp only [AOp.sem] at h; (repeat' split at h) <;> first | exact nil h.2 | exact h.elim
 | cnv => simp only [AOp.sem] at h; split at h <;> first | exact nil h.2 | exact h.elim
 | mx => simp only [AOp.sem] at h; split at h <;> first | exact nil h.2 | exact h.elim
 | nilc => simp only [AOp.sem] at h; split at h <;> first | exact nil h.2 | exact h.elim
 | mkf => exact nil h.2
 | callv => exact h.elim
theorem FrOK.mono {w g w' g' F} {a : Act} (t : Trans w g w' g') (h : FrOK w g F a) : FrOK w' g' F a := fun i => (h i).mono t
theorem FrOK.put {w g} {fr : List (Nat × AV)} {a : Act} (h : FrOK w g (get fr) a) {d : Option Nat} {r : AV} {v : Value} (hd : ∀ k,d = some k → k < a.tmps.size) (hr : Rep w g false r v) :
 FrOK w g (get (frPut fr d r)) (a.put d v) := by
 cases d with
 | none => exact h
 | some d =>
   intro t
   have hlt := hd d rfl
   simp only [frPut,get,Act.put]
   split
   · rename_i e; subst e; simp [hlt]; exact hr
   · rename_i e
     have := h t
     simp only [Array.getD_eq_getD_getElem?] at this ⊢
     rw [Array.getElem?_setIfInBounds_ne e]
     exact this
theorem get_keep (fr : List (Nat × AV)) : ∀ (ts : List Nat) (t : Nat),get (ts.map fun t => (t,get fr t)) t = get fr t ∨ get (ts.map fun t => (t,get fr t)) t = .any
 | [],t => .inr rfl
 | k :: ts,t => by
   simp only [List.map_cons,get]
   split
   · rename_i e; subst e; exact .inl rfl
   · exact get_keep fr ts t
theorem Sim.keep {N st a w g} (h : Sim N st a w g) (ts : List Nat) : Sim N (st.keep ts) a w g := by
 refine ⟨h.1,fun t => ?_,h.2.2⟩
 rcases get_keep st.fr ts t with e | e
 · show Rep w g false (get (ts.map fun t => (t,get st.fr t)) t) _
   rw [e]; exact h.2.1 t
 · show Rep w g false (get (ts.map fun t => (t,get st.fr t)) t) _
   rw [e]; exact .any _ _
end Go.AM

namespace Go.AM
open Go.RowKit
def Goes (N : Nat) (st : St) (a : Act) (w : World) (g : G) (K : St → Prop) (next : Act → World → Prop) : Prop :=
 ∀ st' a' w' g',K st' → Sim N st' a' w' g' → Upd (hpf st.hp) g w (hpf st'.hp) g' w' → a'.defers = a.defers → next a' w'
theorem put_defers (a : Act) (d : Option Tmp) (v : Value) : (a.put d v).defers = a.defers := by cases d <;> rfl
theorem put_size (a : Act) (d : Option Tmp) (v : Value) : (a.put d v).tmps.size = a.tmps.size := by cases d <;> simp [Act.put]
section
variable {P : Program} {E : HE} {N : Nat} {ro : Option Nat} {n : Nat}
theorem Sim.step {st : St} {a : Act} {w w' : World} {g g' : G} (h : Sim N st a w g) {d : Option Nat} {r : AV} {v : Value} {hp' : List HObj} (hd : ∀ k,d = some k → k < N) (u : Upd (hpf st.hp) g w (hpf hp') g' w')
 (hr : Rep w' g' false r v) (hok : HeapOK (hpf hp') g' w') : Sim N { fr := frPut st.fr d r,hp := hp' } (a.put d v) w' g' :=
 ⟨by rw [put_size]; exact h.1,(h.2.1.mono u.tr).put (fun k e => by rw [h.1]; exact hd k e) hr,hok⟩
theorem comp_calls {o : Oper} {ao : AOp} (hc : compOp P N o = some ao) (h : (∃ d f qs, ao = .call d f qs) ∨ (∃ d f qs, ao = .callx d f qs) ∨ ∃ d x qs, ao = .callv d x qs) :
 ∃ c d,o.op = .call c ∧ o.dst = some d ∧ d < N ∧ compCall P d c = some ao := by
 unfold compOp at hc
 split at hc
 · exfalso; split at hc <;> (cases hc; try simp at h)
 · exfalso; simp only [compIns] at hc; (repeat' split at hc) <;> (cases hc; try simp at h)
 · exfalso; simp only [compIns] at hc; (repeat' split at hc) <;> (cases hc; try simp at h)
 · exfalso; split at hc <;> (cases hc; try simp at h)
 · exfalso; simp only [compCall0] at hc; (repeat' split at hc) <;> (cases hc; try simp at h)
 · rename_i d hd
   split at hc
   · rename_i hlt
     generalize hop : o.op = op at hc
     cases op with
     | call c => exact ⟨c,d,rfl,hd,hlt,hc⟩
     | binOp op ty x y ty' =>
       exfalso
       simp only [compD,compBin,compIsn,compEqk] at hc
       (repeat' split at hc) <;> first | (cases hc; simp at h; done) | (cases hc; done) | skip
       all_goals
        rename_i hi
        (repeat' split at hi) <;> first | (cases hi; cases hc; simp at h; done) | (cases hi; done)
     | makeMap t res =>
       exfalso
       cases res with
       | none => simp only [compD] at hc; cases hc; simp at h
       | some x => cases hc
     | next x b =>
       exfalso
       cases b with
       | false => simp only [compD,Option.map_eq_some_iff] at hc; obtain ⟨y,h1,rfl⟩ := hc; simp at h
       | true => cases hc
     | _ =>
       exfalso
       simp only [compD,compIa,compIdx,compSlc,Option.map_eq_some_iff] at hc <;> first
        | (obtain ⟨_,_,rfl⟩ := hc; simp at h; done)
        | ((repeat' split at hc) <;> first | (cases hc; done) | (cases hc; simp at h; done) | (simp only [Option.map_eq_some_iff] at hc; obtain ⟨_,_,rfl⟩ := hc; simp at h; done))
   · cases hc
 · cases hc
theorem comp_call {o : Oper} {d f qs} (hc : compOp P N o = some (.call d f qs)) : ∃ args ats,o.op = .call { callee := .value (.func f),args := args,argTypes := ats } ∧ o.dst = some d ∧ d < N ∧ funOK P f = true ∧ opds args.toList = some qs := by
 obtain ⟨c,d',ho,hd,hlt,hc⟩ := comp_calls hc (.inl ⟨_,_,_,rfl⟩)
 simp only [compCall] at hc
 split at hc
 · simp only [compLen] at hc; split at hc <;> cases hc
 · simp only [compApp] at hc; (repeat' split at hc) <;> cases hc
 · (repeat' split at hc) <;> cases hc
 · (repeat' split at hc) <;> cases hc
 · (repeat' split at hc) <;> cases hc
 · (repeat' split at hc) <;> cases hc
 · rename_i f' args ats
   split at hc
   · rename_i qs' hq
     split at hc
     · rename_i hf; cases hc
       exact ⟨_,_,ho,hd,hlt,hf,hq⟩
     · cases hc
   · cases hc
 · split at hc <;> cases hc
 · cases hc
theorem comp_callx {o : Oper} {d f qs} (hc : compOp P N o = some (.callx d f qs)) : ∃ args ats,o.op = .call { callee := .value (.func f),args := args,argTypes := ats } ∧ o.dst = some d ∧ d < N ∧ opds args.toList = some qs := by
 obtain ⟨c,d',ho,hd,hlt,hc⟩ := comp_calls hc (.inr (.inl ⟨_,_,_,rfl⟩))
 simp only [compCall] at hc
 split at hc
 · simp only [compLen] at hc; split at hc <;> cases hc
 · simp only [compApp] at hc; (repeat' split at hc) <;> cases hc
 · (repeat' split at hc) <;> cases hc
 · (repeat' split at hc) <;> cases hc
 · (repeat' split at hc) <;> cases hc
 · (repeat' split at hc) <;> cases hc
 · rename_i f' args ats
   split at hc
   · rename_i qs' hq
     split at hc
     · cases hc
     · cases hc
       exact ⟨_,_,ho,hd,hlt,hq⟩
   · cases hc
 · split at hc <;> cases hc
 · cases hc
theorem comp_callv {o : Oper} {d y qs} (hc : compOp P N o = some (.callv d y qs)) : ∃ x args ats,o.op = .call { callee := .value x,args := args,argTypes := ats } ∧ o.dst = some d ∧ d < N ∧ opd x = some y ∧ opds args.toList = some qs := by
 obtain ⟨c,d',ho,hd,hlt,hc⟩ := comp_calls hc (.inr (.inr ⟨_,_,_,rfl⟩))
 simp only [compCall] at hc
 split at hc
 · simp only [compLen] at hc; split at hc <;> cases hc
 · simp only [compApp] at hc; (repeat' split at hc) <;> cases hc
 · (repeat' split at hc) <;> cases hc
 · (repeat' split at hc) <;> cases hc
 · (repeat' split at hc) <;> cases hc
 · (repeat' split at hc) <;> cases hc
 · (repeat' split at hc) <;> cases hc
 · rename_i x args ats _
   split at hc
   · rename_i h1 h2; cases hc
     exact ⟨_,_,_,ho,hd,hlt,h1,h2⟩
   · cases hc
 · cases hc
def YldG (P : Program) (w1 : World) (g1 : G) (id : Nat) (xs : List AV) (hp : List HObj) (K : AV → List HObj → Prop) : Prop :=
 ∀ (ro : Option Nat) (n : Nat) (w : World) (g : G) (c : Nat) (vs : Array Value),HeapOK (hpf hp) g w → Trans w1 g1 w g → g.ρ id = some (.blk c 0) → vs.size = xs.length →
   (∀ i (h : i < xs.length),Rep w g false xs[i] (vs.getD i undef)) →
   ∃ f tmps assign body,(Instr.yield c vs).run P w = .ok (.round c f tmps assign body) w ∧
     RoundIn (W ro) n P c f tmps assign body w fun e w' => ∃ v r hp' g',e = .returned v ∧ K r hp' ∧ Rep w' g' false r v ∧ HeapOK (hpf hp') g' w' ∧ Upd (hpf hp) g w (hpf hp') g' w'
def YS (P : Program) (E : HE) (w1 : World) (g1 : G) : Prop :=
 ∀ (id : Nat) (xs : List AV) (hp : List HObj) (K : AV → List HObj → Prop),E.Y id xs hp K → YldG P w1 g1 id xs hp K
theorem aop_sound {o : Oper} {ao : AOp} (hc : compOp P N o = some ao) {st : St} {K : St → Prop} (h : aop P E ao st K) {a : Act} {w w1 : World} {g g1 : G} (hY : YS P E w1 g1) (hg1 : Trans w1 g1 w g) (hs : Sim N st a w g)
 {next : Act → World → Prop} {Q : Exit → Act → World → Prop} (hn : Goes N st a w g K next) : o.wpIn (W ro) n P a w next Q := by
 have gen : (∃ r ws,ao.sem P (evF (get st.fr)) (hpf st.hp) st.hp.length r ws ∧ K (st.step ao.dst r ws)) → o.wpIn (W ro) n P a w next Q := fun ⟨r,ws,h1,h2⟩ => by
  have hnew : hpf st.hp st.hp.length = none := by simp [hpf]
  obtain ⟨p1,p2,p3⟩ := snd_op (ro := ro) (n := n) hc hs.2.1 hs.2.2 hnew h1
  refine p1 next Q fun v w' hp => ?_
  obtain ⟨g',q1,q2,q3⟩ := hp
  rw [← hpf_write (sem_ids h1)] at q2 q3
  refine hn _ _ w' g' h2 ?_ q3 (put_defers _ _ _)
  have := hs.step (d := o.dst) p3 q3 q1 q2
  rw [p2]
  exact this
 have many : ∀ {d : Nat},ao.dst = some d → ao.isMany = true → (ao.many (evF (get st.fr)) (hpf st.hp) st.hp.length fun r ws => K (st.step (some d) r ws)) → o.wpIn (W ro) n P a w next Q := fun {d} hd hm h => by
  have hnew : hpf st.hp st.hp.length = none := by simp [hpf]
  obtain ⟨p1,p2,p3⟩ := snd_many (ro := ro) (n := n) hc hm hs.2.1 hs.2.2 hnew (many_ids h)
  refine p1 next Q fun v w' hp => ?_
  obtain ⟨r,ws,⟨hids,hK⟩,g',q1,q2,q3⟩ := hp
  rw [← hpf_write hids] at q2 q3
  refine hn _ _ w' g' hK ?_ q3 (put_defers _ _ _)
  have := hs.step (d := some d) (fun k e => p3 k (by rw [← p2,hd]; exact e)) q3 q1 q2
  rw [← p2,hd]
  exact this
 cases ao with
 | rng d x => exact many rfl rfl h
 | nxt d x => exact many rfl rfl h
 | ent d x => exact many rfl rfl h
 | isn d b kd x => exact many rfl rfl h
 | callx d f qs =>
   obtain ⟨args,ats,ho,hd,hlt,hq⟩ := comp_callx hc
   obtain ⟨r,hext,hK⟩ := h
   have hv := snd_callx (r := r) ho rfl hq hs.2.1 hs.2.2 hext
   refine OpRun.of_value (by rw [ho]; simp) hv next Q fun v w' hp => ?_
   obtain ⟨g',q1,q2,q3⟩ := hp
   refine hn _ _ w' g' hK ?_ q3 (put_defers _ _ _)
   have := hs.step (d := some d) (fun k e => by cases e; exact hlt) q3 q1 q2
   rw [hd]; exact this
 | call d f qs =>
   obtain ⟨args,ats,ho,hd,hlt,hf,hq⟩ := comp_call hc
   obtain ⟨l1,l2⟩ := opds_get hq
   refine ⟨fun _ _ => trivial,?_⟩
   rw [Oper.semAt_eq _ _ _ (by rw [ho]; simp)]
   have hrun : (execOp a.eval o).run P w = .ok (.enter f (args.map a.eval)) w := by
    simp [execOp,ho,resolve,Act.eval,Deferred.ofValue,invoke,run_callFunc hf]
   rw [hrun]
   refine ⟨fun h => by simp [Fence.wide] at h,?_⟩
   refine (h ro (n - 1) w g (args.map a.eval) hs.2.2 (by simp [l1]) (fun i hi => ?_)).mono ?_
   · simp at hi
     have := ev_rep hs.2.1 (l2 i (by omega) hi)
     simpa [show i < args.size by simp at l1; omega] using this
   · rintro e w' ⟨v,r,hp',g',rfl,hK,hr,hok,hu⟩
     refine hn _ _ w' g' hK ?_ hu (put_defers _ _ _)
     have := hs.step (d := some d) (fun k e => by cases e; exact hlt) hu hr hok
     rw [hd]; exact this
 | callv d y qs =>
   obtain ⟨x,args,ats,ho,hd,hlt,hx,hq⟩ := comp_callv hc
   obtain ⟨l1,l2⟩ := opds_get hq
   simp only [aop] at h
   split at h
   · rename_i f first caps hy
     obtain ⟨hf,h⟩ := h
     have ex := ev_rep hs.2.1 hx
     rw [hy] at ex
     generalize hv : a.eval x = v at ex
     cases ex with
     | fn _ _ _ _ xs ys hl hl' hr hr' =>
       refine ⟨fun _ _ => trivial,?_⟩
       rw [Oper.semAt_eq _ _ _ (by rw [ho]; simp)]
       have hrun : (execOp a.eval o).run P w = .ok (.enter f (xs.toArray ++ args.map a.eval ++ ys.toArray)) w := by
        simp [execOp,ho,resolve,hv,Deferred.ofValue,invoke,run_callFunc hf]
       rw [hrun]
       refine ⟨fun h => by simp [Fence.wide] at h,?_⟩
       refine (h ro (n - 1) w g (xs.toArray ++ args.map a.eval ++ ys.toArray) hs.2.2 (by simp [l1,hl,hl']) (fun i hi => ?_)).mono ?_
       · have hargs : args.size = qs.length := by simpa using l1.symm
         have hi' : i < first.length + qs.length + caps.length := by simpa [Nat.add_assoc] using hi
         by_cases c1 : i < first.length
         · rw [List.getElem_append_left (by simp; omega),List.getElem_append_left c1]
           have := hr i c1
           simp only [Array.getD_eq_getD_getElem?,List.getD_eq_getElem?_getD] at this ⊢
           rw [Array.getElem?_append_left (by simp; omega),Array.getElem?_append_left (by simp; omega)]
           simpa using this
         · by_cases c2 : i < first.length + qs.length
           · rw [List.getElem_append_left (by simp; omega),List.getElem_append_right (by omega)]
             have := ev_rep hs.2.1 (l2 (i - first.length) (by omega) (by omega))
             simp only [Array.getD_eq_getD_getElem?]
             rw [Array.getElem?_append_left (by simp; omega),Array.getElem?_append_right (by simp; omega)]
             have hlt' : i - xs.length < args.size := by omega
             simp only [List.size_toArray,Array.getElem?_map]
             simp only [hl]
             rw [hl] at hlt'
             simpa [hlt'] using this
           · rw [List.getElem_append_right (by simp; omega)]
             have hlen : i - (first ++ qs.map (evF (get st.fr))).length < caps.length := by simp; omega
             have := hr' _ hlen
             simp only [Array.getD_eq_getD_getElem?,List.getD_eq_getElem?_getD] at this ⊢
             rw [Array.getElem?_append_right (by simp; omega)]
             have e : i - (xs.toArray ++ args.map a.eval).size = i - (first ++ qs.map (evF (get st.fr))).length := by simp [hl,hargs]
             rw [e]
             simpa using this
       · rintro e w' ⟨v,r,hp',g',rfl,hK,hr,hok,hu⟩
         refine hn _ _ w' g' hK ?_ hu (put_defers _ _ _)
         have := hs.step (d := some d) (fun k e => by cases e; exact hlt) hu hr hok
         rw [hd]; exact this
   · rename_i id hy
     have ex := ev_rep hs.2.1 hx
     rw [hy] at ex
     generalize hv : a.eval x = v at ex
     cases ex with
     | yl _ c hl =>
       obtain ⟨K0,hK0,hKK⟩ := h
       obtain ⟨f,tmps,assign,body,hrun,hround⟩ := hY _ _ _ _ hK0 ro (n - 1) w g c (args.map a.eval) hs.2.2 hg1 hl (by simp [l1]) (fun i hi => by
        simp at hi
        have := ev_rep hs.2.1 (l2 i (by omega) hi)
        simpa [show i < args.size by simp at l1; omega] using this)
       refine ⟨fun _ _ => trivial,?_⟩
       rw [Oper.semAt_eq _ _ _ (by rw [ho]; simp)]
       have hrun' : (execOp a.eval o).run P w = .ok (.round c f tmps assign body) w := by
        simp [execOp,ho,resolve,hv,Deferred.ofValue,invoke,hrun]
       rw [hrun']
       refine ⟨fun h => by simp [Fence.wide] at h,?_⟩
       refine hround.mono ?_
       rintro e w' ⟨v,r,hp',g',rfl,hK,hr,hok,hu⟩
       refine hn _ _ w' g' (hKK _ _ hK) ?_ hu (put_defers _ _ _)
       have := hs.step (d := some d) (fun k e => by cases e; exact hlt) hu hr hok
       rw [hd]; exact this
   · exact h.elim
 | _ => exact gen h
def guardOf (ops : Array Oper) : Option (Nat × Bool) → Option (Option (Nat × Bool))
 | none => some none
 | some (j,b) => match ops[j]? with
   | some o => match o.dst with
     | some d => some (some (d,b))
     | none => none
   | none => none
def compOps (P : Program) (N : Nat) (ops : Array Oper) : List Oper → Option (List (Option (Nat × Bool) × AOp))
 | [] => some []
 | o :: l => match compOp P N o,guardOf ops o.guard,compOps P N ops l with
   | some ao,some g,some r => some ((g,ao) :: r)
   | _,_,_ => none
def aflat (P : Program) (E : HE) : List (Option (Nat × Bool) × AOp) → St → (St → Prop) → Prop
 | [],st,K => K st
 | (none,o) :: l,st,K => aop P E o st fun st => aflat P E l st K
 | (some (j,b),o) :: l,st,K => match get st.fr j with
   | .v (.bool c) => (c = b → aop P E o st fun st => aflat P E l st K) ∧ (c ≠ b → aflat P E l (undefs [o] st) K)
   | .v (.tuple _) => aflat P E l (undefs [o] st) K
   | _ => False
def freeOf (g : Option (Nat × Bool)) (d : Option Nat) : Bool := match g with
 | some (j,_) => !(d == some j)
 | none => true
def grp : List (Option (Nat × Bool) × AOp) → List Grp
 | [] => []
 | (g,o) :: l => match grp l with
   | ⟨g',os⟩ :: gs => if g = g' ∧ freeOf g o.dst = true then ⟨g,o :: os⟩ :: gs else ⟨g,[o]⟩ :: ⟨g',os⟩ :: gs
   | [] => [⟨g,[o]⟩]
theorem aop_mono {o : AOp} {st : St} {K K' : St → Prop} (hk : ∀ st',(∀ t,o.dst ≠ some t → get st'.fr t = get st.fr t) → K st' → K' st') (h : aop P E o st K) : aop P E o st K' := by
 have gen : ∀ o' : AOp,o'.dst = o.dst → (∃ r ws,o'.sem P (evF (get st.fr)) (hpf st.hp) st.hp.length r ws ∧ K (st.step o'.dst r ws)) → ∃ r ws,o'.sem P (evF (get st.fr)) (hpf st.hp) st.hp.length r ws ∧ K' (st.step o'.dst r ws) := fun o' e ⟨r,ws,h1,h2⟩ =>
  ⟨r,ws,h1,hk _ (fun t ht => by
   rw [e]
   cases hd : o.dst with
   | none => rfl
   | some d =>
     rw [hd] at ht
     have : ¬ d = t := fun e => ht (by rw [e])
     simp [St.step,frPut,get,this]) h2⟩
 have cl : ∀ {d : Nat} {f xs},o.dst = some d → CallW P f xs st.hp (fun r hp' => K { fr := (d,r) :: st.fr,hp := hp' }) → CallW P f xs st.hp (fun r hp' => K' { fr := (d,r) :: st.fr,hp := hp' }) := fun {d f xs} hd hc ro n w g vs h1 h2 h3 =>
  (hc ro n w g vs h1 h2 h3).mono fun e w' ⟨v,r,hp',g',e1,e2,e3⟩ => ⟨v,r,hp',g',e1,hk _ (fun t ht => by
   rw [hd] at ht
   have : ¬ d = t := fun e => ht (by rw [e])
   simp [get,this]) e2,e3⟩
 cases o with
 | call d f qs => exact cl rfl h
 | callv d y qs =>
   simp only [aop] at h ⊢
   split at h
   · exact ⟨h.1,cl rfl h.2⟩
   · obtain ⟨K0,h1,h2⟩ := h
     exact ⟨K0,h1,fun r hp' hk0 => hk _ (fun t ht => by
      have : ¬ d = t := fun e => ht (by rw [← e]; rfl)
      simp [get,this]) (h2 r hp' hk0)⟩
   · exact h.elim
 | callx d f qs =>
   obtain ⟨r,h1,h2⟩ := h
   exact ⟨r,h1,hk _ (fun t ht => by
    have : ¬ d = t := fun e => ht (by rw [← e]; rfl)
    simp [get,this]) h2⟩
 | rng d x =>
   simp only [aop] at h ⊢
   exact many_mono (K := fun r ws => K (st.step (some d) r ws)) (fun r ws h => hk _ (fun t ht => by
    have : ¬ d = t := fun e => ht (by rw [← e]; rfl)
    simp [St.step,frPut,get,this]) h) h
 | nxt d x =>
   simp only [aop] at h ⊢
   exact many_mono (K := fun r ws => K (st.step (some d) r ws)) (fun r ws h => hk _ (fun t ht => by
    have : ¬ d = t := fun e => ht (by rw [← e]; rfl)
    simp [St.step,frPut,get,this]) h) h
 | ent d x =>
   simp only [aop] at h ⊢
   exact many_mono (K := fun r ws => K (st.step (some d) r ws)) (fun r ws h => hk _ (fun t ht => by
    have : ¬ d = t := fun e => ht (by rw [← e]; rfl)
    simp [St.step,frPut,get,this]) h) h
 | isn d b kd x =>
   simp only [aop] at h ⊢
   exact many_mono (K := fun r ws => K (st.step (some d) r ws)) (fun r ws h => hk _ (fun t ht => by
    have : ¬ d = t := fun e => ht (by rw [← e]; rfl)
    simp [St.step,frPut,get,this]) h) h
 | _ => exact gen _ rfl h
theorem undefs_cons (o : AOp) (os : List AOp) (st : St) : undefs (o :: os) st = undefs os (undefs [o] st) := by
 simp only [undefs,List.filterMap_cons,List.filterMap_nil]
 cases o.dst <;> simp
theorem undefs_get {o : AOp} {st : St} {j : Nat} (h : o.dst ≠ some j) : get (undefs [o] st).fr j = get st.fr j := by
 simp only [undefs,List.filterMap_cons,List.filterMap_nil]
 cases hd : o.dst with
 | none => simp
 | some d =>
   rw [hd] at h
   have : ¬ d = j := fun e => h (by rw [e])
   simp [get,this]
theorem grp_sound : ∀ {l : List (Option (Nat × Bool) × AOp)} {st : St} {K : St → Prop}, agrps P E (grp l) st K → aflat P E l st K
 | [],st,K,h => h
 | (g, o) :: l, st, K, h => by
   have one : agrps P E (⟨g, [o]⟩ :: grp l) st K → aflat P E ((g, o) :: l) st K := fun h => by
    cases g with
    | none => exact aop_mono (fun _ _ h => grp_sound h) h
    | some jb =>
      obtain ⟨j,b⟩ := jb
      simp only [agrps,aflat] at h ⊢
      split at h
      · rename_i c hc
        try rw [hc]
        exact ⟨fun e => aop_mono (fun _ _ h => grp_sound h) (h.1 e),fun e => grp_sound (h.2 e)⟩
      · rename_i c hc
        try rw [hc]
        exact grp_sound h
      · exact h.elim
   simp only [grp] at h
   split at h
   · rename_i g' os gs hg
     split at h
     · rename_i hcond
       obtain ⟨rfl,hdst⟩ := hcond
       have ih : ∀ st K,agrps P E (⟨g,os⟩ :: gs) st K → aflat P E l st K := fun st K h => grp_sound (by rw [hg]; exact h)
       cases g with
       | none => exact aop_mono (fun st' _ h => ih _ _ h) h
       | some jb =>
         obtain ⟨j,b⟩ := jb
         have hdst : o.dst ≠ some j := by simpa [freeOf] using hdst
         simp only [agrps,aflat] at h ⊢
         split at h
         · rename_i c hc
           try rw [hc]
           refine ⟨fun e => aop_mono (fun st' hfr h => ih _ _ ?_) (h.1 e),fun e => ih _ _ ?_⟩
           · simp only [agrps]
             rw [hfr j hdst,hc]
             exact ⟨fun _ => h,fun h' => absurd e h'⟩
           · simp only [agrps]
             rw [undefs_get hdst,hc]
             refine ⟨fun h' => absurd h' e,fun _ => ?_⟩
             rw [← undefs_cons]
             exact h.2 e
         · rename_i c hc
           try rw [hc]
           refine ih _ _ ?_
           simp only [agrps]
           rw [undefs_get hdst,hc]
           simp only
           rw [← undefs_cons]
           exact h
         · exact h.elim
     · rw [← hg] at h; exact one h
   · rename_i hg
     rw [← hg] at h; exact one h
theorem Sim.put_undef {st : St} {a : Act} {w : World} {g : G} (h : Sim N st a w g) {o : AOp} {d : Option Nat} (hd : o.dst = d) (hlt : ∀ k,d = some k → k < N) : Sim N (undefs [o] st) (a.put d undef) w g := by
 have := h.step (d := d) (r := .v undef) (v := undef) hlt (.refl _ _ _) (.v _ _) h.2.2
 simp only [undefs,List.filterMap_cons,List.filterMap_nil,hd]
 cases d <;> exact this
def guardVal (a : Act) (gd : Option (Nat × Bool)) : Bool := match gd with
 | none => true
 | some (d,b) => (match a.tmps[d]? with | some (.bool c) => some c | _ => none) == some b
theorem wanted_guard {ops : Array Oper} {o : Oper} {gd : Option (Nat × Bool)} (hg : guardOf ops o.guard = some gd) {a : Act} :
 Region.wanted o (yielded ops a.tmps) = guardVal a gd := by
 unfold Region.wanted guardVal
 generalize o.guard = og at hg ⊢
 cases h : og with
 | none => subst h; simp [guardOf] at hg; subst hg; rfl
 | some jb =>
   obtain ⟨j,b⟩ := jb
   subst h
   simp only [guardOf] at hg
   split at hg
   · rename_i o' ho'
     split at hg
     · rename_i d hd
       cases hg
       simp only [yielded,ho',Option.bind_some,hd]
       cases a.tmps[d]? with
       | none => rfl
       | some y => cases y <;> rfl
     · cases hg
   · cases hg
theorem comp_dst {o : Oper} {ao : AOp} (hc : compOp P N o = some ao) : ao.dst = o.dst ∧ ∀ d,o.dst = some d → d < N := by
 unfold compOp at hc
 split at hc
 · rename_i t x y hd ho
   split at hc
   · cases hc; exact ⟨hd.symm,fun d e => by rw [hd] at e; cases e⟩
   · cases hc
 · rename_i hd _
   simp only [compIns] at hc
   (repeat' split at hc) <;> first | (cases hc; exact ⟨hd.symm,fun d e => by rw [hd] at e; cases e⟩) | cases hc
 · rename_i hd _
   simp only [compIns] at hc
   (repeat' split at hc) <;> first | (cases hc; exact ⟨hd.symm,fun d e => by rw [hd] at e; cases e⟩) | cases hc
 · rename_i hd _
   split at hc <;> first | (cases hc; exact ⟨hd.symm,fun d e => by rw [hd] at e; cases e⟩) | cases hc
 · rename_i hd _
   simp only [compCall0] at hc
   (repeat' split at hc) <;> first | (cases hc; exact ⟨hd.symm,fun d e => by rw [hd] at e; cases e⟩) | cases hc
 · rename_i d hd
   split at hc
   · rename_i hlt
     exact ⟨by rw [compD_dst hc,hd],fun d' e => by rw [hd] at e; cases e; exact hlt⟩
   · cases hc
 · cases hc
theorem tmps_get {st : St} {a : Act} {w : World} {g : G} (hs : Sim N st a w g) {j : Nat} {x : Value} (hj : get st.fr j = .v x) (hx : ∀ b,x = .bool b ∨ x = undef → True) : a.tmps.getD j undef = x := by
 have := hs.2.1 j
 rw [hj] at this
 exact rep_v this
theorem aflat_sound {ops : Array Oper} {w1 : World} {g1 : G} (hY : YS P E w1 g1) : ∀ (k : Nat) {l : List Oper} {cl : List (Option (Nat × Bool) × AOp)} {st : St} {K : St → Prop} {a : Act} {w : World} {g : G} {Q : Exit → Act → World → Prop},
 (∀ j,l[j]? = ops[k + j]?) → compOps P N ops l = some cl → aflat P E cl st K → Trans w1 g1 w g → Sim N st a w g → Goes N st a w g K (Q .normal) → wpOpsIn (W ro) n P ops Q (List.range' k l.length) a w
 | k,[],cl,st,K,a,w,g,Q,hl,hc,h,hg1,hs,hn => by
   simp [compOps] at hc; subst hc
   exact hn st a w g h hs (.refl _ _ _) rfl
 | k, o :: l, cl, st, K, a, w, g, Q, hl, hc, h, hg1, hs, hn => by
   simp only [compOps] at hc
   split at hc
   · rename_i ao gd cl' h1 h2 h3
     cases hc
     have ho : ops[k]? = some o := by have := hl 0; simpa using this.symm
     have hl' : ∀ j,l[j]? = ops[k + 1 + j]? := fun j => by have := hl (j + 1); simpa [Nat.add_assoc,Nat.add_comm 1 j] using this
     obtain ⟨d1,d2⟩ := comp_dst h1
     have hstep : ∀ st' a' w' g',aflat P E cl' st' K → Sim N st' a' w' g' → Upd (hpf st.hp) g w (hpf st'.hp) g' w' → a'.defers = a.defers → wpOpsIn (W ro) n P ops Q (List.range' (k + 1) l.length) a' w' := fun st' a' w' g' hK hs' hu hd =>
      aflat_sound hY (k + 1) hl' h3 hK (hg1.trans hu.tr) hs' (fun st2 a2 w2 g2 k2 s2 u2 e2 => hn st2 a2 w2 g2 k2 s2 (hu.trans u2) (e2.trans hd))
     simp only [List.length_cons,List.range'_succ,wpOpsIn,ho]
     rw [wanted_guard h2]
     unfold guardVal
     have skip : aflat P E cl' (undefs [ao] st) K → wpOpsIn (W ro) n P ops Q (List.range' (k + 1) l.length) (a.put o.dst undef) w := fun h => hstep _ _ w g h (hs.put_undef d1 d2) (.refl _ _ _) (put_defers _ _ _)
     cases gd with
     | none => simp only [if_true]; exact aop_sound h1 h hY hg1 hs hstep
     | some jb =>
       obtain ⟨j,b⟩ := jb
       simp only [aflat] at h
       split at h
       · rename_i c hj
         have hv := tmps_get hs hj (fun _ _ => trivial)
         have hlt : j < a.tmps.size := by
          rcases Nat.lt_or_ge j a.tmps.size with h' | h'
          · exact h'
          · simp [undef,h'] at hv
         have hv' : a.tmps[j]? = some (.bool c) := by simp [hlt] at hv; simp [hlt,hv]
         simp only [hv']
         by_cases e : c = b
         · subst e; simp only [beq_self_eq_true,if_true]; exact aop_sound h1 (h.1 rfl) hY hg1 hs hstep
         · have : (some c == some b) = false := by simp [e]
           simp only [this,Bool.false_eq_true,if_false]
           exact ⟨fun _ _ => trivial,skip (h.2 e)⟩
       · rename_i c hj
         have hv := tmps_get hs hj (fun _ _ => trivial)
         have hno : ((match a.tmps[j]? with | some (.bool c) => some c | _ => none) == some b) = false := by
          cases ht : a.tmps[j]? with
          | none => rfl
          | some y =>
            have : y = .tuple c := by simpa [ht] using hv
            subst this; rfl
         simp only [hno,Bool.false_eq_true,if_false]
         exact ⟨fun _ _ => trivial,skip h⟩
       · exact h.elim
   · cases hc
end
end Go.AM

namespace Go.AM
open Go.RowKit
structure Wr (κ β : Type) where
 on : κ → Bool
 c : κ → β
def Wr.app {κ β : Type} (a : Wr κ β) (F : κ → β) : κ → β := fun k => if a.on k then a.c k else F k
def foldW {κ β : Type} : List (Wr κ β) → (Nat → Bool) → (κ → β) → κ → β
 | [],_,F => F
 | a :: l,X,F => foldW l (fun j => X (j + 1)) (if X 0 then a.app F else F)
theorem foldW_agree {κ β : Type} {key : κ} : ∀ {l : List (Wr κ β)} {X Y : Nat → Bool} {F F' : κ → β},F key = F' key → (∀ i (h : i < l.length),l[i].on key = true → X i = Y i) → foldW l X F key = foldW l Y F' key
 | [],X,Y,F,F',h,_ => h
 | a :: l, X, Y, F, F', h, hh => by
   simp only [foldW]
   refine foldW_agree ?_ (fun i hi ho => hh (i + 1) (by simpa using hi) (by simpa using ho))
   by_cases e : a.on key = true
   · rw [hh 0 (by simp) (by simpa using e)]
     split <;> simp [Wr.app,e,h]
   · have e' : a.on key = false := by simpa using e
     split <;> split <;> simp [Wr.app,e',h]
theorem app_comm {κ β : Type} {a b : Wr κ β} (h : ∀ k,a.on k = true → b.on k = false) (F : κ → β) : a.app (b.app F) = b.app (a.app F) := by
 funext k
 simp only [Wr.app]
 by_cases e : a.on k = true
 · simp [e,h k e]
 · simp [e]
theorem foldW_comm {κ β : Type} {a : Wr κ β} : ∀ {l : List (Wr κ β)} {X : Nat → Bool} {F : κ → β},(∀ i (h : i < l.length),X i = true → ∀ k,a.on k = true → l[i].on k = false) → foldW l X (a.app F) = a.app (foldW l X F)
 | [],X,F,_ => rfl
 | b :: l, X, F, h => by
   simp only [foldW]
   rw [← foldW_comm (fun i hi hx => by have := h (i + 1) (by simpa using hi) hx; simpa using this)]
   congr 1
   split
   · rename_i e
     have := h 0 (by simp) e
     exact (app_comm (by simpa using this) F).symm
   · rfl
theorem foldW_insert {κ β : Type} : ∀ {l : List (Wr κ β)} {X Y : Nat → Bool} {F : κ → β} {i : Nat} (hi : i < l.length),X i = false → Y i = true → (∀ j,j ≠ i → Y j = X j) →
 (∀ k (h : k < l.length),i < k → X k = true → ∀ key,l[i].on key = true → l[k].on key = false) → foldW l Y F = l[i].app (foldW l X F)
 | [],X,Y,F,i,hi,_,_,_,_ => by simp at hi
 | a :: l,X,Y,F,0,hi,hx,hy,hj,h => by
   simp only [foldW,hx,hy,if_true,List.getElem_cons_zero]
   have : (fun j => Y (j + 1)) = fun j => X (j + 1) := by funext j; exact hj (j + 1) (by omega)
   rw [this]
   exact foldW_comm (fun k hk hx key hon => by have := h (k + 1) (by simpa using hk) (by omega) hx key (by simpa using hon); simpa using this)
 | a :: l,X,Y,F,i + 1,hi,hx,hy,hj,h => by
   simp only [foldW,List.getElem_cons_succ]
   rw [hj 0 (by omega)]
   exact foldW_insert (by simpa using hi) hx hy (fun j hne => hj (j + 1) (by omega)) (fun k hk hlt hx key hon => by
    have := h (k + 1) (by simpa using hk) (by omega) hx key (by simpa using hon)
    simpa using this)
theorem semLd_local {hp hp' : Hp} {r ws agg sz x} (h : semLd hp r ws agg sz x) (hl : ∀ i ∈ x.ids,hp' i = hp i) : semLd hp' r ws agg sz x := by
 unfold semLd at h ⊢
 cases x with
 | ptr cs off => exact h
 | ref id off => simp only at h ⊢; rw [hl id (by simp [AV.ids,AV.ids1])]; exact h
 | _ => exact h
theorem purify0_local {hp hp' : Hp} {x : AV} (hl : ∀ i ∈ x.ids0,hp' i = hp i) : purify0 hp' x = purify0 hp x := by
 cases x with
 | ms id off n sz => simp only [purify0]; rw [hl id (by simp [AV.ids0])]
 | ref id off => simp only [purify0]; rw [hl id (by simp [AV.ids0])]
 | mc id off n c sz => simp only [purify0]; rw [hl id (by simp [AV.ids0])]
 | _ => rfl
theorem purify0L_local {hp hp' : Hp} : ∀ {xs : List AV},(∀ i ∈ xs.flatMap AV.ids0,hp' i = hp i) → purify0L hp' xs = purify0L hp xs
 | [],_ => rfl
 | x :: xs,h => by
   simp only [List.flatMap_cons,List.mem_append] at h
   simp only [purify0L]
   rw [purify0_local (fun i hi => h i (.inl hi)),purify0L_local (fun i hi => h i (.inr hi))]
theorem purify1_local {hp hp' : Hp} {x : AV} (hl : ∀ i ∈ x.ids1,hp' i = hp i) : purify1 hp' x = purify1 hp x := by
 cases x with
 | agg cs => simp only [purify1]; rw [purify0L_local hl]
 | fn f as bs =>
   simp only [AV.ids1,List.mem_append] at hl
   simp only [purify1]
   rw [purify0L_local fun i hi => hl i (.inl hi),purify0L_local fun i hi => hl i (.inr hi)]
 | _ => simp only [purify1]; exact purify0_local (by simpa only [AV.ids0,AV.ids1] using hl)
theorem purifyL_local {hp hp' : Hp} : ∀ {xs : List AV},(∀ i ∈ xs.flatMap AV.ids1,hp' i = hp i) → purifyL hp' xs = purifyL hp xs
 | [],_ => rfl
 | x :: xs,h => by
   simp only [List.flatMap_cons,List.mem_append] at h
   simp only [purifyL]
   rw [purify1_local (fun i hi => h i (.inl hi)),purifyL_local (fun i hi => h i (.inr hi))]
theorem purify_local {hp hp' : Hp} {x : AV} (hl : ∀ i ∈ x.ids,hp' i = hp i) : purify hp' x = purify hp x := by
 cases x with
 | agg cs => simp only [purify]; rw [purifyL_local hl]
 | tup cs => simp only [purify]; rw [purifyL_local hl]
 | _ => simp only [purify]; exact purify1_local hl
theorem purifyAll_local {hp hp' : Hp} : ∀ {xs : List AV},(∀ i ∈ xs.flatMap AV.ids,hp' i = hp i) → purifyAll hp' xs = purifyAll hp xs
 | [],_ => rfl
 | x :: xs,h => by
   simp only [List.flatMap_cons,List.mem_append] at h
   simp only [purifyAll]
   rw [purify_local (fun i hi => h i (.inl hi)),purifyAll_local (fun i hi => h i (.inr hi))]
theorem elems_local {hp hp' : Hp} {sz : Nat} {x : AV} (hl : ∀ i ∈ x.ids,hp' i = hp i) : elems hp' sz x = elems hp sz x := by
 cases x with
 | ms id off n sz' => simp only [elems]; rw [hl id (by simp [AV.ids,AV.ids1])]
 | mc id off n c sz' => simp only [elems]; rw [hl id (by simp [AV.ids,AV.ids1])]
 | _ => rfl
theorem semApp_local {hp hp' : Hp} {new new' : Nat} {r : AV} {ws : List (Nat × HObj)} {sz bytes m : Nat} {x : AV} {ys : List AV} (h : semApp hp new r ws sz bytes x m ys) (hH : ∀ i ∈ x.ids,hp' i = hp i) (hn : new ∈ ws.map (·.1) → new' = new) : semApp hp' new' r ws sz bytes x m ys := by
 simp only [semApp] at h ⊢
 split at h
 · obtain ⟨b1,b2,b3,b4,b5,rfl,rfl⟩ := h
   have := hn (by simp); subst this
   exact ⟨b1,b2,b3,b4,b5,rfl,rfl⟩
 · rename_i id off n sz'
   have := hH id (by simp [AV.ids,AV.ids1])
   simp only [this]
   split at h
   · obtain ⟨b1,b2,b3,b4,rfl,rfl⟩ := h
     have := hn (by simp); subst this
     exact ⟨b1,b2,b3,b4,rfl,rfl⟩
   · exact h.elim
 · rename_i id off n c sz'
   have := hH id (by simp [AV.ids,AV.ids1])
   simp only [this]
   split at h
   · obtain ⟨b1,b2,b3,b4,h⟩ := h
     refine ⟨b1,b2,b3,b4,?_⟩
     rcases h with h | ⟨h1,rfl,rfl⟩
     · exact .inl h
     · have := hn (by simp); subst this
       exact .inr ⟨h1,rfl,rfl⟩
   · exact h.elim
 · exact h.elim
theorem sem_local {P : Program} {o : AOp} {F F' : Nat → AV} {hp hp' : Hp} {new new' : Nat} {r : AV} {ws : List (Nat × HObj)} (h : o.sem P (evF F) hp new r ws)
 (hF : ∀ x ∈ o.opds,evF F' x = evF F x) (hH : ∀ i ∈ o.foot F,hp' i = hp i) (hn : new ∈ ws.map (·.1) → new' = new) : o.sem P (evF F') hp' new' r ws := by
 have h1 : ∀ {x},o.opds = [x] → evF F' x = evF F x := fun e => hF _ (by simp [e])
 have h2 : ∀ {x y},o.opds = [x,y] → evF F' x = evF F x ∧ evF F' y = evF F y := fun e => ⟨hF _ (by simp [e]),hF _ (by simp [e])⟩
 have lst : ∀ {xs : List Opd},(∀ x ∈ xs,x ∈ o.opds) → xs.map (evF F') = xs.map (evF F) := fun hsub => List.map_congr_left (fun x hx => hF x (hsub x hx))
 cases o with
 | mv d x => simp only [AOp.sem] at h ⊢; rw [h1 rfl]; exact h
 | pick d c a b => simp only [AOp.sem] at h ⊢; rw [hF c (by simp [AOp.opds]),hF a (by simp [AOp.opds]),hF b (by simp [AOp.opds])]; exact h
 | bin d op x y => simp only [AOp.sem] at h ⊢; rw [(h2 rfl).1,(h2 rfl).2]; exact h
 | bing d op ty x y => simp only [AOp.sem] at h ⊢; rw [(h2 rfl).1,(h2 rfl).2]; exact h
 | un d op x => simp only [AOp.sem] at h ⊢; rw [h1 rfl]; exact h
 | ext d x i => simp only [AOp.sem] at h ⊢; rw [h1 rfl]; exact h
 | ld d agg sz x =>
   simp only [AOp.sem] at h ⊢; rw [h1 rfl]
   exact semLd_local h (fun i hi => hH i (by simp [AOp.foot,AOp.heapy,AOp.opds]; exact hi))
 | st sz a x =>
   simp only [AOp.sem] at h ⊢; rw [(h2 rfl).1,(h2 rfl).2]
   simp only [semSt] at h ⊢
   split at h
   · rename_i id off hid
     have := hH id (by simp [AOp.foot,AOp.heapy,AOp.opds,hid,AV.ids,AV.ids1])
     rw [this]; exact h
   · exact h.elim
 | box d sz x =>
   obtain ⟨a1,a2,rfl,rfl⟩ := h
   have := hn (by simp); subst this
   show (evF F' x).cells.length = sz ∧ _; rw [h1 rfl]; exact ⟨a1,a2,rfl,rfl⟩
 | al d z =>
   obtain ⟨rfl,rfl⟩ := h
   have := hn (by simp); subst this
   exact ⟨rfl,rfl⟩
 | bsl d n sz z ps =>
   simp only [AOp.sem] at h ⊢
   have e : (ps.map fun p => evF F' p.2) = ps.map fun p => evF F p.2 := List.map_congr_left (fun p hp => hF _ (by simp [AOp.opds]; exact ⟨_,hp⟩))
   rw [e,purifyAll_local (hp := hp) (fun i hi => hH i (by
    simp only [AOp.foot,AOp.heapy,AOp.opds,cond_true]
    simpa [List.flatMap_map] using hi))]
   exact h
 | bld d z ps =>
   simp only [AOp.sem] at h ⊢
   have e : ∀ p ∈ ps,evF F' p.2.2 = evF F p.2.2 := fun p hp => hF _ (by simp [AOp.opds]; exact ⟨_,_,hp⟩)
   have e1 : (ps.map fun p => (p.1,p.2.1,evF F' p.2.2)) = ps.map fun p => (p.1,p.2.1,evF F p.2.2) := List.map_congr_left (fun p hp => by rw [e p hp])
   rw [e1]
   refine ⟨List.all_eq_true.2 (fun p hp => ?_),h.2⟩
   rw [e p hp]; exact List.all_eq_true.1 h.1 p hp
 | fa d x off => simp only [AOp.sem] at h ⊢; rw [h1 rfl]; exact h
 | fld d agg sz off x => simp only [AOp.sem] at h ⊢; rw [h1 rfl]; exact h
 | ia d sz x i => simp only [AOp.sem] at h ⊢; rw [(h2 rfl).1,(h2 rfl).2]; exact h
 | iaa d ln sz x i => simp only [AOp.sem] at h ⊢; rw [(h2 rfl).1,(h2 rfl).2]; exact h
 | idx d ln agg sz x i => simp only [AOp.sem] at h ⊢; rw [(h2 rfl).1,(h2 rfl).2]; exact h
 | ids d x i => simp only [AOp.sem] at h ⊢; rw [(h2 rfl).1,(h2 rfl).2]; exact h
 | len d x => simp only [AOp.sem] at h ⊢; rw [h1 rfl]; exact h
 | lns d x => simp only [AOp.sem] at h ⊢; rw [h1 rfl]; exact h
 | lnm d x =>
   simp only [AOp.sem] at h ⊢; rw [h1 rfl]
   split at h
   · rename_i id hid
     have := hH id (by simp [AOp.foot,AOp.heapy,AOp.opds,hid,AV.ids,AV.ids1])
     rw [this]; exact h
   · exact h.elim
 | slc d sz x lo hi mx =>
   simp only [AOp.sem] at h ⊢
   have ho : ∀ (m : Option Opd),(∀ y ∈ m.toList,y ∈ (AOp.slc d sz x lo hi mx).opds) → m.map (evF F') = m.map (evF F) := fun m hm => by
    cases m with
    | none => rfl
    | some y => simp [hF y (hm y (by simp))]
   rw [hF x (by simp [AOp.opds]),ho lo (fun y hy => by simp [AOp.opds] at hy ⊢; exact .inr (.inl hy)),ho hi (fun y hy => by simp [AOp.opds] at hy ⊢; exact .inr (.inr (.inl hy))),ho mx (fun y hy => by simp [AOp.opds] at hy ⊢; exact .inr (.inr (.inr hy)))]
   exact h
 | sls d x lo hi =>
   simp only [AOp.sem] at h ⊢
   have ho : ∀ (m : Option Opd),(∀ y ∈ m.toList,y ∈ (AOp.sls d x lo hi).opds) → m.map (evF F') = m.map (evF F) := fun m hm => by
    cases m with
    | none => rfl
    | some y => simp [hF y (hm y (by simp))]
   rw [hF x (by simp [AOp.opds]),ho lo (fun y hy => by simp [AOp.opds] at hy ⊢; exact .inr (.inl hy)),ho hi (fun y hy => by simp [AOp.opds] at hy ⊢; exact .inr (.inr hy))]
   exact h
 | app d sz bytes x y =>
   simp only [AOp.sem] at h ⊢
   rw [(h2 rfl).1,(h2 rfl).2,elems_local (hp := hp) (fun i hi => hH i (by simp [AOp.foot,AOp.heapy,AOp.opds]; exact .inr hi))]
   obtain ⟨m,ys,a1,a2,a3⟩ := h
   exact ⟨m,ys,a1,a2,semApp_local a3 (fun i hi => hH i (by simp [AOp.foot,AOp.heapy,AOp.opds]; exact .inl hi)) hn⟩
 | cpy d sz x y =>
   simp only [AOp.sem] at h ⊢
   rw [(h2 rfl).1,(h2 rfl).2]
   split at h
   · rename_i id off n sz' hid
     obtain ⟨m,ys,cs,a1,a2,a3,a4⟩ := h
     have := hH id (by simp [AOp.foot,AOp.heapy,AOp.opds,hid,AV.ids,AV.ids1])
     refine ⟨m,ys,cs,?_,a2,by rw [this]; exact a3,a4⟩
     rw [elems_local (hp := hp) (fun i hi => hH i (by simp [AOp.foot,AOp.heapy,AOp.opds]; exact .inr hi))]
     exact a1
   · rename_i id off n c sz' hid
     obtain ⟨m,ys,cs,a1,a2,a3,a4⟩ := h
     have := hH id (by simp [AOp.foot,AOp.heapy,AOp.opds,hid,AV.ids,AV.ids1])
     refine ⟨m,ys,cs,?_,a2,by rw [this]; exact a3,a4⟩
     rw [elems_local (hp := hp) (fun i hi => hH i (by simp [AOp.foot,AOp.heapy,AOp.opds]; exact .inr hi))]
     exact a1
   · exact h.elim
 | mks d sz bytes z x y =>
   obtain ⟨k,a1,a2,a3,a4,a5,rfl,rfl⟩ := h
   have := hn (by simp); subst this
   exact ⟨k,by rw [(h2 rfl).1]; exact a1,by rw [(h2 rfl).2]; exact a2,a3,a4,a5,rfl,rfl⟩
 | cnv d k x => simp only [AOp.sem] at h ⊢; rw [h1 rfl]; exact h
 | mx d m x y => simp only [AOp.sem] at h ⊢; rw [(h2 rfl).1,(h2 rfl).2]; exact h
 | nilc d x => simp only [AOp.sem] at h ⊢; rw [h1 rfl]; exact h
 | mkf d f as bs =>
   simp only [AOp.sem] at h ⊢
   rw [lst (fun x hx => by simp [AOp.opds,hx]),lst (fun x hx => by simp [AOp.opds,hx])]; exact h
 | call d f as =>
   simp only [AOp.sem] at h ⊢
   rw [lst (xs := as) (fun x hx => by simpa [AOp.opds] using hx),purifyAll_local (hp := hp) (fun i hi => hH i (by
    simp only [AOp.foot,AOp.heapy,AOp.opds,cond_true]
    simpa [List.flatMap_map] using hi))]
   obtain ⟨ys,ids,k1,k2⟩ := h
   refine ⟨ys,ids,k1,?_⟩
   rcases k2 with k2 | ⟨m,sz,cs,k2,rfl,rfl⟩ | ⟨Φ,k2,rfl,rfl⟩
   · exact .inl k2
   · have := hn (by simp); subst this
     exact .inr (.inl ⟨m,sz,cs,k2,rfl,rfl⟩)
   · have := hn (by simp); subst this
     exact .inr (.inr ⟨Φ,k2,rfl,rfl⟩)
 | callv d x as => exact h.elim
 | callx d f as => exact h.elim
 | rng => exact h.elim
 | nxt => exact h.elim
 | ent => exact h.elim
 | isn => exact h.elim
 | cap d x => simp only [AOp.sem] at h ⊢; rw [h1 rfl]; exact h
 | eqk d b ks x y => simp only [AOp.sem] at h ⊢; rw [(h2 rfl).1,(h2 rfl).2]; exact h
 | clr sz z x =>
   simp only [AOp.sem] at h ⊢; rw [h1 rfl]
   split at h
   · rename_i id off n sz' hid
     have := hH id (by simp [AOp.foot,AOp.heapy,AOp.opds,hid,AV.ids,AV.ids1])
     rw [this]; exact h
   · rename_i id off n c sz' hid
     have := hH id (by simp [AOp.foot,AOp.heapy,AOp.opds,hid,AV.ids,AV.ids1])
     rw [this]; exact h
   · exact h.elim
 | appz d sz bytes z x k =>
   simp only [AOp.sem] at h ⊢
   rw [(h2 rfl).1,(h2 rfl).2]
   obtain ⟨m,a1,a2⟩ := h
   exact ⟨m,a1,semApp_local a2 (fun i hi => hH i (by simp [AOp.foot,AOp.heapy,AOp.opds]; exact .inl hi)) hn⟩
 | slp d sz ln x lo hi mx =>
   simp only [AOp.sem] at h ⊢
   have ho : ∀ (m : Option Opd),(∀ y ∈ m.toList,y ∈ (AOp.slp d sz ln x lo hi mx).opds) → m.map (evF F') = m.map (evF F) := fun m hm => by
    cases m with
    | none => rfl
    | some y => simp [hF y (hm y (by simp))]
   rw [hF x (by simp [AOp.opds]),ho lo (fun y hy => by simp [AOp.opds] at hy ⊢; exact .inr (.inl hy)),ho hi (fun y hy => by simp [AOp.opds] at hy ⊢; exact .inr (.inr (.inl hy))),ho mx (fun y hy => by simp [AOp.opds] at hy ⊢; exact .inr (.inr (.inr hy)))]
   split at h
   · rename_i id off hid
     have := hH id (by simp [AOp.foot,AOp.heapy,AOp.opds,hid,AV.ids,AV.ids1])
     rw [this]; exact h
   · exact h
   · exact h.elim
 | mkm d =>
   obtain ⟨rfl,rfl⟩ := h
   have := hn (by simp); subst this
   exact ⟨rfl,rfl⟩
 | ins ks x y z =>
   simp only [AOp.sem] at h ⊢
   rw [hF x (by simp [AOp.opds]),hF y (by simp [AOp.opds]),hF z (by simp [AOp.opds])]
   split at h
   · rename_i id hid
     have := hH id (by simp [AOp.foot,AOp.heapy,AOp.opds,hid,AV.ids,AV.ids1])
     rw [this]; exact h
   · exact h.elim
 | lku d ks z ok x y =>
   simp only [AOp.sem] at h ⊢
   rw [(h2 rfl).1,(h2 rfl).2]
   split at h
   · rename_i id hid
     have := hH id (by simp [AOp.foot,AOp.heapy,AOp.opds,hid,AV.ids,AV.ids1])
     rw [this]; exact h
   · exact h.elim
 | mpe d ks z x y =>
   simp only [AOp.sem] at h ⊢
   rw [(h2 rfl).1,(h2 rfl).2]
   split at h
   · rename_i id hid
     have := hH id (by simp [AOp.foot,AOp.heapy,AOp.opds,hid,AV.ids,AV.ids1])
     rw [this]; exact h
   · exact h.elim
 | est x y z =>
   simp only [AOp.sem] at h ⊢
   rw [hF x (by simp [AOp.opds]),hF y (by simp [AOp.opds]),hF z (by simp [AOp.opds])]
   split at h
   · rename_i id hid
     have := hH id (by simp [AOp.foot,AOp.heapy,AOp.opds,hid,AV.ids,AV.ids1])
     rw [this]; exact h
   · exact h.elim
 | del ks x y =>
   simp only [AOp.sem] at h ⊢
   rw [(h2 rfl).1,(h2 rfl).2]
   split at h
   · rename_i id hid
     have := hH id (by simp [AOp.foot,AOp.heapy,AOp.opds,hid,AV.ids,AV.ids1])
     rw [this]; exact h
   · exact h.elim
end Go.AM

namespace Go.AM
open Go.RowKit
structure Rec where
 dst : Option Nat
 r : AV
 ws : List (Nat × HObj)
 foot : List Nat
def Rec.F (R : Rec) : Wr Nat AV := ⟨fun t => R.dst == some t,fun _ => R.r⟩
def Rec.H (R : Rec) : Wr Nat (Option HObj) := ⟨fun id => (R.ws.map (·.1)).contains id,fun id => Hp.write (fun _ => none) R.ws id⟩
theorem recF_app (R : Rec) (fr : List (Nat × AV)) : R.F.app (get fr) = get (frPut fr R.dst R.r) := by
 funext t
 obtain ⟨d,r,ws,ft⟩ := R
 cases d with
 | none => simp [Wr.app,Rec.F,frPut]
 | some d =>
   simp only [Wr.app,Rec.F,frPut,get]
   by_cases e : d = t
   · simp [e]
   · simp [e]
theorem write_eq : ∀ (ws : List (Nat × HObj)) (H : Hp) (id : Nat),Hp.write H ws id = if (ws.map (·.1)).contains id then Hp.write (fun _ => none) ws id else H id
 | [],H,id => by simp [Hp.write]
 | (i, o) :: ws, H, id => by
   simp only [Hp.write]
   rw [write_eq ws (Hp.set H i o) id,write_eq ws (Hp.set (fun _ => none) i o) id]
   by_cases h : (ws.map (·.1)).contains id = true
   · have : (((i,o) :: ws).map (·.1)).contains id = true := by simp at h ⊢; exact .inr h
     rw [if_pos h,if_pos this,if_pos h]
   · rw [if_neg h,if_neg h]
     by_cases e : id = i
     · subst e; simp [Hp.set]
     · have : ¬ (((i,o) :: ws).map (·.1)).contains id = true := by simp [e] at h ⊢; exact h
       rw [if_neg this,Hp.set_other _ _ e]
theorem recH_app (R : Rec) (H : Hp) : R.H.app H = Hp.write H R.ws := by
 funext id
 simp only [Wr.app,Rec.H]
 exact (write_eq R.ws H id).symm
def gsat (gd : Option (Nat × Bool)) (F : Nat → AV) : Prop := match gd with
 | none => True
 | some (j,b) => F j = .v (.bool b)
def gunsat (gd : Option (Nat × Bool)) (F : Nat → AV) : Prop := match gd with
 | none => False
 | some (j,b) => (∃ c,F j = .v (.bool c) ∧ c ≠ b) ∨ ∃ c,F j = .v (.tuple c)
def RecOK (P : Program) (gd : Option (Nat × Bool)) (o : AOp) (R : Rec) (F : Nat → AV) (H : Hp) (new : Nat) : Prop :=
 R.dst = o.dst ∧ ((gsat gd F ∧ o.sem P (evF F) H new R.r R.ws ∧ R.foot = o.foot F) ∨ (gunsat gd F ∧ R.r = .v undef ∧ R.ws = [] ∧ R.foot = []))
inductive DRun (P : Program) : List (Option (Nat × Bool) × AOp) → St → List Rec → St → Prop
 | nil (st : St) : DRun P [] st [] st
 | cons {gd o l st R Rs st'} : RecOK P gd o R (get st.fr) (hpf st.hp) st.hp.length → DRun P l (st.step R.dst R.r R.ws) Rs st' → DRun P ((gd,o) :: l) st (R :: Rs) st'
def trOf (R : Rec) : List Nat × List Nat := (R.foot,R.ws.map (·.1))
section
variable {P : Program}
def dflat (P : Program) : List (Option (Nat × Bool) × AOp) → St → Tr → (St → Tr → Prop) → Prop
 | [],st,tr,K => K st tr
 | (none,o) :: l,st,tr,K => ∃ r ws,o.sem P (evF (get st.fr)) (hpf st.hp) st.hp.length r ws ∧ dflat P l (st.step o.dst r ws) (tr ++ [(o.foot (get st.fr),ws.map (·.1))]) K
 | (some (j,b),o) :: l,st,tr,K => match get st.fr j with
   | .v (.bool c) => (c = b → ∃ r ws,o.sem P (evF (get st.fr)) (hpf st.hp) st.hp.length r ws ∧ dflat P l (st.step o.dst r ws) (tr ++ [(o.foot (get st.fr),ws.map (·.1))]) K) ∧ (c ≠ b → dflat P l (undefs [o] st) (tr ++ [([],[])]) K)
   | .v (.tuple _) => dflat P l (undefs [o] st) (tr ++ [([],[])]) K
   | _ => False
theorem step_get {st : St} {o : AOp} {r ws} {j : Nat} (h : o.dst ≠ some j) : get (st.step o.dst r ws).fr j = get st.fr j := by
 simp only [St.step,frPut]
 cases hd : o.dst with
 | none => rfl
 | some d =>
   rw [hd] at h
   have : ¬ d = j := fun e => h (by rw [e])
   simp [get,this]
theorem dgrp_sound : ∀ {l : List (Option (Nat × Bool) × AOp)} {st : St} {tr : Tr} {K : St → Tr → Prop}, dgrps P (grp l) st tr K → dflat P l st tr K
 | [],st,tr,K,h => h
 | (g, o) :: l, st, tr, K, h => by
   have one : dgrps P (⟨g, [o]⟩ :: grp l) st tr K → dflat P ((g, o) :: l) st tr K := fun h => by
    cases g with
    | none =>
      obtain ⟨r,ws,h1,h2⟩ := h
      exact ⟨r,ws,h1,dgrp_sound h2⟩
    | some jb =>
      obtain ⟨j,b⟩ := jb
      simp only [dgrps,dflat] at h ⊢
      split at h
      · rename_i c hc
        try rw [hc]
        exact ⟨fun e => by obtain ⟨r,ws,h1,h2⟩ := h.1 e; exact ⟨r,ws,h1,dgrp_sound h2⟩,fun e => dgrp_sound (h.2 e)⟩
      · rename_i c hc
        try rw [hc]
        exact dgrp_sound h
      · exact h.elim
   simp only [grp] at h
   split at h
   · rename_i g' os gs hg
     split at h
     · rename_i hcond
       obtain ⟨rfl,hdst⟩ := hcond
       have ih : ∀ st tr K,dgrps P (⟨g,os⟩ :: gs) st tr K → dflat P l st tr K := fun st tr K h => dgrp_sound (by rw [hg]; exact h)
       cases g with
       | none =>
         obtain ⟨r,ws,h1,h2⟩ := h
         exact ⟨r,ws,h1,ih _ _ _ h2⟩
       | some jb =>
         obtain ⟨j,b⟩ := jb
         have hdst : o.dst ≠ some j := by simpa [freeOf] using hdst
         simp only [dgrps,dflat] at h ⊢
         split at h
         · rename_i c hc
           try rw [hc]
           refine ⟨fun e => ?_,fun e => ih _ _ _ ?_⟩
           · obtain ⟨r,ws,h1,h2⟩ := h.1 e
             refine ⟨r,ws,h1,ih _ _ _ ?_⟩
             simp only [dgrps]
             rw [step_get hdst,hc]
             exact ⟨fun _ => h2,fun h' => absurd e h'⟩
           · simp only [dgrps]
             rw [undefs_get hdst,hc]
             refine ⟨fun h' => absurd h' e,fun _ => ?_⟩
             rw [← undefs_cons]
             have := h.2 e
             simpa using this
         · rename_i c hc
           try rw [hc]
           refine ih _ _ _ ?_
           simp only [dgrps]
           rw [undefs_get hdst,hc]
           simp only
           rw [← undefs_cons]
           simpa using h
         · exact h.elim
     · rw [← hg] at h; exact one h
   · rename_i hg
     rw [← hg] at h; exact one h
theorem undefs_step (o : AOp) (st : St) : undefs [o] st = st.step o.dst (.v undef) [] := by
 simp only [undefs,St.step,frPut,writeL,List.filterMap_cons,List.filterMap_nil]
 cases o.dst <;> rfl
theorem drun_of_flat : ∀ {l : List (Option (Nat × Bool) × AOp)} {st : St} {tr : Tr} {K : St → Tr → Prop},dflat P l st tr K → ∃ Rs st',DRun P l st Rs st' ∧ K st' (tr ++ Rs.map trOf)
 | [],st,tr,K,h => ⟨[],st,.nil st,by have h' : K st tr := h; simpa using h'⟩
 | (gd, o) :: l, st, tr, K, h => by
   have go : gsat gd (get st.fr) → (∃ r ws,o.sem P (evF (get st.fr)) (hpf st.hp) st.hp.length r ws ∧ dflat P l (st.step o.dst r ws) (tr ++ [(o.foot (get st.fr),ws.map (·.1))]) K) → ∃ Rs st',DRun P ((gd,o) :: l) st Rs st' ∧ K st' (tr ++ Rs.map trOf) := fun hg ⟨r,ws,h1,h2⟩ => by
    obtain ⟨Rs,st',h3,h4⟩ := drun_of_flat h2
    exact ⟨⟨o.dst,r,ws,o.foot (get st.fr)⟩ :: Rs,st',.cons ⟨rfl,.inl ⟨hg,h1,rfl⟩⟩ h3,by simpa [trOf] using h4⟩
   have sk : gunsat gd (get st.fr) → dflat P l (undefs [o] st) (tr ++ [([],[])]) K → ∃ Rs st',DRun P ((gd,o) :: l) st Rs st' ∧ K st' (tr ++ Rs.map trOf) := fun hg h => by
    rw [undefs_step] at h
    obtain ⟨Rs,st',h3,h4⟩ := drun_of_flat h
    exact ⟨⟨o.dst,.v undef,[],[]⟩ :: Rs,st',.cons ⟨rfl,.inr ⟨hg,rfl,rfl,rfl⟩⟩ h3,by simpa [trOf] using h4⟩
   cases gd with
   | none => exact go trivial h
   | some jb =>
     obtain ⟨j,b⟩ := jb
     simp only [dflat] at h
     split at h
     · rename_i c hc
       by_cases e : c = b
       · subst e; exact go hc (h.1 rfl)
       · exact sk (.inl ⟨c,hc,e⟩) (h.2 e)
     · rename_i c hc
       exact sk (.inr ⟨c,hc⟩) h
     · exact h.elim
theorem run_len {l st Rs st'} (h : DRun P l st Rs st') : Rs.length = l.length := by
 induction h with
 | nil => rfl
 | cons _ _ ih => simp [ih]
theorem writeL_len : ∀ (ws : List (Nat × HObj)) (l : List HObj),l.length ≤ (writeL l ws).length
 | [],l => Nat.le_refl _
 | (i,o) :: ws,l => Nat.le_trans (setL_len l i o) (writeL_len ws _)
theorem setL_lt (l : List HObj) {id : Nat} (o : HObj) (h : id ≤ l.length) : id < (setL l id o).length := by simp only [setL]; split <;> simp <;> omega
theorem writeL_lt : ∀ {ws : List (Nat × HObj)} {l : List HObj},(∀ p ∈ ws,p.1 ≤ l.length) → ∀ p ∈ ws,p.1 < (writeL l ws).length
 | [],l,_,p,hp => by simp at hp
 | (i,o) :: ws,l,h,p,hp => by
   simp only [writeL]
   rcases List.mem_cons.1 hp with rfl | hp
   · exact Nat.lt_of_lt_of_le (setL_lt l o (h (i,o) (by simp))) (writeL_len _ _)
   · exact writeL_lt (fun q hq => Nat.le_trans (h q (by simp [hq])) (setL_len _ _ _)) p hp
theorem run_bounds' {l st Rs st'} (h : DRun P l st Rs st') : st.hp.length ≤ st'.hp.length ∧ ∀ R ∈ Rs,∀ p ∈ R.ws,p.1 < st'.hp.length := by
 induction h with
 | nil => exact ⟨Nat.le_refl _,by simp⟩
 | @cons gd o l st R Rs st' hok _ ih =>
   have hids : ∀ p ∈ R.ws,p.1 ≤ st.hp.length := by
    rcases hok.2 with ⟨_,h1,_⟩ | ⟨_,_,h1,_⟩
    · exact sem_ids h1
    · rw [h1]; simp
   refine ⟨Nat.le_trans (writeL_len R.ws st.hp) ih.1,fun R' hR' p hp => ?_⟩
   rcases List.mem_cons.1 hR' with rfl | hR'
   · exact Nat.lt_of_lt_of_le (writeL_lt hids p hp) ih.1
   · exact ih.2 R' hR' p hp
theorem foldW_none {κ β : Type} : ∀ {l : List (Wr κ β)} {X : Nat → Bool} {F : κ → β},(∀ i,X i = false) → foldW l X F = F
 | [],_,_,_ => rfl
 | a :: l,X,F,h => by
   simp only [foldW,h 0]
   exact foldW_none (fun i => h (i + 1))
theorem run_at {l st Rs st'} (h : DRun P l st Rs st') : ∀ i (hi : i < l.length) (hi' : i < Rs.length),∃ new,RecOK P l[i].1 l[i].2 Rs[i] (foldW (Rs.map Rec.F) (fun k => decide (k < i)) (get st.fr)) (foldW (Rs.map Rec.H) (fun k => decide (k < i)) (hpf st.hp)) new ∧
 (foldW (Rs.map Rec.H) (fun k => decide (k < i)) (hpf st.hp)) new = none := by
 induction h with
 | nil => intro i hi; simp at hi
 | @cons gd o l st R Rs st' hok hrun ih =>
   have hids : ∀ p ∈ R.ws,p.1 ≤ st.hp.length := by
    rcases hok.2 with ⟨_,h1,_⟩ | ⟨_,_,h1,_⟩
    · exact sem_ids h1
    · rw [h1]; simp
   intro i hi hi'
   cases i with
   | zero =>
     refine ⟨st.hp.length,?_,?_⟩
     · rw [foldW_none (fun i => by simp),foldW_none (fun i => by simp)]
       exact hok
     · rw [foldW_none (fun i => by simp)]; simp [hpf]
   | succ i =>
     obtain ⟨new,h1,h2⟩ := ih i (by simpa using hi) (by simpa using hi')
     refine ⟨new,?_,?_⟩
     · simp only [List.map_cons,foldW,List.getElem_cons_succ,Nat.zero_lt_succ,decide_true,if_true,Nat.add_lt_add_iff_right]
       rw [recF_app,recH_app,← hpf_write hids]
       exact h1
     · simp only [List.map_cons,foldW,Nat.zero_lt_succ,decide_true,if_true,Nat.add_lt_add_iff_right]
       rw [recH_app,← hpf_write hids]
       exact h2
theorem run_end {l st Rs st'} (h : DRun P l st Rs st') : get st'.fr = foldW (Rs.map Rec.F) (fun _ => true) (get st.fr) ∧ hpf st'.hp = foldW (Rs.map Rec.H) (fun _ => true) (hpf st.hp) := by
 induction h with
 | nil => exact ⟨rfl,rfl⟩
 | @cons gd o l st R Rs st' hok hrun ih =>
   have hids : ∀ p ∈ R.ws,p.1 ≤ st.hp.length := by
    rcases hok.2 with ⟨_,h1,_⟩ | ⟨_,_,h1,_⟩
    · exact sem_ids h1
    · rw [h1]; simp
   simp only [List.map_cons,foldW,if_true]
   rw [recF_app,recH_app,← hpf_write hids]
   exact ih
def AOp.touch (o : AOp) : Bool := o.heapy || (match o with | .box .. | .al .. | .mks .. | .mkm .. => true | _ => false)
def Opd.tmp : Opd → List Nat
 | .t n => [n]
 | .k _ => []
def looksAt (c : Option (Nat × Bool) × AOp) : List Nat := c.2.opds.flatMap Opd.tmp ++ (match c.1 with | some (j,_) => [j] | none => [])
def dstFree (d : Option Nat) (l : List Nat) : Bool := match d with
 | some d => !l.contains d
 | none => true
def apartT (a b : Option (Nat × Bool) × AOp) : Bool := dstFree a.2.dst (looksAt b) && dstFree b.2.dst (looksAt a) && (match a.2.dst,b.2.dst with | some x,some y => x != y | _,_ => true)
def preOf (ops : Array Oper) : List (List Nat) :=
 let b := Region.before ops
 (List.range ops.size).map fun k => (List.range k).filter fun i => (b.getD k 0).testBit i
def zEq : AV → AV → Bool
 | .v (.int k a),.v (.int k' b) => decide (k = k') && a == b
 | .v (.bool a),.v (.bool b) => a == b
 | _,_ => false
theorem zEq_eq {x y : AV} (h : zEq x y = true) : x = y := by
 unfold zEq at h
 split at h
 · simp at h; rw [h.1,h.2]
 · simp at h; rw [h]
 · cases h
def opdEq : Opd → Opd → Bool
 | .t a,.t b => a == b
 | _,_ => false
theorem opdEq_eq {x y : Opd} (h : opdEq x y = true) : x = y := by
 unfold opdEq at h
 split at h
 · simp at h; rw [h]
 · cases h
def exempt (cl : List (Option (Nat × Bool) × AOp)) (i k : Nat) : Bool := match cl[i]?,cl[k]? with
 | some (_,.lku _ ks z false m q),some (_,.mpe _ ks' z' m' q') => decide (i < k) && decide (ks = ks') && zEq z z' && opdEq m m' && opdEq q q' &&
  (List.range k).all fun j => decide (j < i) || (match cl[j]? with | some c => dstFree c.2.dst (m.tmp ++ q.tmp) | none => false)
 | _,_ => false
def unOf (pre : List (List Nat)) (cl : List (Option (Nat × Bool) × AOp)) : List (Nat × Nat) :=
 (List.range cl.length).flatMap fun k => ((List.range k).filter fun i => !(pre.getD k []).contains i && !exempt cl i k && ((cl.getD i (none,.callv 0 (.t 0) [])).2.touch && (cl.getD k (none,.callv 0 (.t 0) [])).2.touch)).map fun i => (i,k)
def drawOK (ops : Array Oper) (cl : List (Option (Nat × Bool) × AOp)) (pre : List (List Nat)) (un : List (Nat × Nat)) : Bool :=
 (List.range ops.size).all fun k => match ops[k]?,cl[k]? with
  | some o,some ck => o.after.toList.all (fun e => !Region.binds .any e || decide (e.on < k)) &&
   (pre.getD k []).all (fun j => o.after.toList.any fun e => Region.binds .any e && (e.on == j || (pre.getD e.on []).contains j)) &&
   (List.range k).all fun i => (pre.getD k []).contains i || (match cl[i]? with
    | some ci => apartT ci ck && (!ci.2.touch || !ck.2.touch || un.contains (i,k) || exempt cl i k)
    | none => false)
  | _,_ => false
theorem sem_quiet {o : AOp} {ev : Opd → AV} {H : Hp} {new : Nat} {r : AV} {ws : List (Nat × HObj)} (ht : o.touch = false) (h : o.sem P ev H new r ws) : ws = [] := by
 cases o with
 | pick => simp only [AOp.sem] at h; split at h <;> first | exact h.2 | exact h.elim
 | bin => simp only [AOp.sem] at h; split at h <;> first | (obtain ⟨_,_,_,h⟩ := h; exact h) | exact h.elim
 | bing => obtain ⟨_,_,_,_,_,_,_,_,h⟩ := h; exact h
 | un => simp only [AOp.sem] at h; split at h <;> first | (obtain ⟨_,_,_,h⟩ := h; exact h) | exact h.elim
 | ext => simp only [AOp.sem] at h; split at h <;> first | (obtain ⟨_,_,_,h⟩ := h; exact h) | exact h.elim
 | mv => exact h.2
 | bld => exact h.2.2
 | mkf => exact h.2
 | fa => simp only [AOp.sem] at h; split at h <;> first | exact h.2 | exact h.elim
 | fld => simp only [AOp.sem] at h; split at h <;> first | exact h.2 | exact h.elim
 | ia => simp only [AOp.sem] at h; split at h <;> first | exact h.2.2.1 | exact h.2.2.2 | exact h.elim
 | iaa => simp only [AOp.sem] at h; split at h <;> first | exact h.2.2 | exact h.elim
 | idx => simp only [AOp.sem] at h; split at h <;> first | exact h.2.2 | exact h.elim
 | ids => simp only [AOp.sem] at h; split at h <;> first | exact h.2.2 | exact h.elim
 | len => simp only [AOp.sem] at h; split at h <;> first | exact h.2 | exact h.elim
 | lns => simp only [AOp.sem] at h; split at h <;> first | exact h.2 | exact h.elim
 | cnv => simp only [AOp.sem] at h; split at h <;> first | exact h.2 | exact h.elim
 | mx => simp only [AOp.sem] at h; split at h <;> first | exact h.2 | exact h.elim
 | nilc => simp only [AOp.sem] at h; split at h <;> first | exact h.2 | exact h.elim
 | slc d sz x lo hi mx =>
   simp only [AOp.sem,semSlc] at h
   split at h
   · obtain ⟨_,_,_,_,_,_,_,_,h⟩ := h; exact h
   · obtain ⟨_,_,_,_,_,_,_,_,_,h⟩ := h; exact h
   · obtain ⟨_,_,_,_,_,_,_,_,_,_,_,h⟩ := h; exact h
   · exact h.elim
 | sls d x lo hi =>
   simp only [AOp.sem] at h
   split at h
   · obtain ⟨_,_,_,_,_,_,_,h⟩ := h; exact h
   · exact h.elim
 | callv => exact h.elim
 | isn => exact h.elim
 | cap => simp only [AOp.sem] at h; split at h <;> first | exact h.2.2 | exact h.2 | exact h.elim
 | eqk => obtain ⟨_,_,_,_,_,_,_,h⟩ := h; exact h
 | _ => simp [AOp.touch,AOp.heapy] at ht
theorem rec_quiet {gd : Option (Nat × Bool)} {o : AOp} {R : Rec} {F H new} (ht : o.touch = false) (h : RecOK P gd o R F H new) : R.ws = [] ∧ R.foot = [] := by
 rcases h.2 with ⟨_,h1,h2⟩ | ⟨_,_,h1,h2⟩
 · refine ⟨sem_quiet ht h1,?_⟩
   have : o.heapy = false := by simp [AOp.touch] at ht; exact ht.1
   rw [h2]; simp [AOp.foot,this]
 · exact ⟨h1,h2⟩
theorem compat_get : ∀ {un : List (Nat × Nat)} {tr : Tr},compat tr un = true → ∀ {i j : Nat},(i,j) ∈ un → ∃ a b,tr[i]? = some a ∧ tr[j]? = some b ∧ disj a.2 b.1 = true ∧ disj a.2 b.2 = true ∧ disj b.2 a.1 = true
 | [],tr,h,i,j,hm => by simp at hm
 | (p, q) :: un, tr, h, i, j, hm => by
   simp only [compat,Bool.and_eq_true] at h
   rcases List.mem_cons.1 hm with e | hm
   · cases e
     have h1 := h.1
     split at h1
     · rename_i ri wi rj wj h2 h3
       simp only [Bool.and_eq_true] at h1
       exact ⟨_,_,h2,h3,h1.1.1,h1.1.2,h1.2⟩
     · cases h1
   · exact compat_get h.2 hm
theorem disj_not {a b : List Nat} (h : disj a b = true) {x : Nat} (hx : x ∈ a) : x ∉ b := by
 have := List.all_eq_true.1 h x hx
 simpa using this
end
end Go.AM

namespace Go.AM
open Go.RowKit
def unl (X : Nat → Bool) : Nat → Nat
 | 0 => 0
 | n + 1 => unl X n + if X n then 0 else 1
theorem unl_set {X : Nat → Bool} {Y : Nat → Bool} {i : Nat} (hx : X i = false) (hy : Y i = true) (hj : ∀ j,j ≠ i → Y j = X j) : ∀ n,i < n → unl Y n < unl X n
 | 0,h => by omega
 | n + 1, h => by
   simp only [unl]
   by_cases e : n = i
   · subst e
     have : unl Y n = unl X n := by
      have : ∀ m,m ≤ n → unl Y m = unl X m := fun m => by
       induction m with
       | zero => intro _; rfl
       | succ m ih => intro hm; simp only [unl]; rw [ih (by omega),hj m (by omega)]
      exact this n (Nat.le_refl _)
     rw [this,hx,hy]; simp
   · rw [hj n e]
     have := unl_set hx hy hj n (by omega)
     omega
theorem unl_zero {X : Nat → Bool} : ∀ {n},unl X n = 0 → ∀ i,i < n → X i = true
 | 0,_,i,h => by omega
 | n + 1, h, i, hi => by
   simp only [unl] at h
   by_cases e : i = n
   · subst e
     cases hx : X i with
     | true => rfl
     | false => rw [hx] at h; simp at h
   · exact unl_zero (n := n) (by omega) i (by omega)
section
variable {P : Program} {N : Nat} {ro : Option Nat} {n : Nat}
theorem compOps_len {ops : Array Oper} : ∀ {l : List Oper} {cl},compOps P N ops l = some cl → cl.length = l.length ∧ ∀ i (h : i < l.length) (h' : i < cl.length),compOp P N l[i] = some cl[i].2 ∧ guardOf ops l[i].guard = some cl[i].1
 | [],cl,h => by simp [compOps] at h; subst h; exact ⟨rfl,fun i h => by simp at h⟩
 | o :: l, cl, h => by
   simp only [compOps] at h
   split at h
   · rename_i ao gd cl' h1 h2 h3
     cases h
     obtain ⟨e1,e2⟩ := compOps_len h3
     refine ⟨by simp [e1],fun i hi hi' => ?_⟩
     cases i with
     | zero => exact ⟨h1,h2⟩
     | succ i => simpa using e2 i (by simpa using hi) (by simpa using hi')
   · cases h
theorem draw_apart {ops : Array Oper} {cl pre un} (h : drawOK ops cl pre un = true) {i k : Nat} (hik : i < k) (hk : k < ops.size) (hk' : k < cl.length) :
 i ∈ pre.getD k [] ∨ (apartT cl[i] cl[k] = true ∧ (exempt cl i k = true ∨ (cl[i].2.touch = true → cl[k].2.touch = true → (i,k) ∈ un))) := by
 have h1 := List.all_eq_true.1 h k (List.mem_range.2 hk)
 have ei : cl[i]? = some cl[i] := List.getElem?_eq_getElem _
 have ek : cl[k]? = some cl[k] := List.getElem?_eq_getElem _
 simp only [Array.getElem?_eq_getElem hk,ek,Bool.and_eq_true] at h1
 have h2 := List.all_eq_true.1 h1.2 i (List.mem_range.2 hik)
 rw [ei] at h2
 simp only [Bool.or_eq_true,Bool.and_eq_true] at h2
 rcases h2 with h2 | ⟨h2,h3⟩
 · exact .inl (by simpa using h2)
 · rcases h3 with h3 | h3
   · refine .inr ⟨h2,.inr fun t1 t2 => ?_⟩
     rw [t1,t2] at h3
     simpa using h3
   · exact .inr ⟨h2,.inl h3⟩
theorem draw_edges {ops : Array Oper} {cl pre un} (h : drawOK ops cl pre un = true) {k : Nat} (hk : k < ops.size) (hk' : k < cl.length) :
 (∀ e ∈ ops[k].after,Region.binds .any e = true → e.on < k) ∧ (∀ j ∈ pre.getD k [],∃ e ∈ ops[k].after,Region.binds .any e = true ∧ (e.on = j ∨ j ∈ pre.getD e.on [])) := by
 have h1 := List.all_eq_true.1 h k (List.mem_range.2 hk)
 have ek : cl[k]? = some cl[k] := List.getElem?_eq_getElem _
 simp only [Array.getElem?_eq_getElem hk,ek,Bool.and_eq_true] at h1
 refine ⟨fun e he hb => ?_,fun j hj => ?_⟩
 · have := List.all_eq_true.1 h1.1.1 e (by simpa using he)
   simpa [hb] using this
 · have := List.all_eq_true.1 h1.1.2 j hj
   obtain ⟨e,he,h2⟩ := List.any_eq_true.1 this
   simp only [Bool.and_eq_true,Bool.or_eq_true,beq_iff_eq] at h2
   exact ⟨e,by simpa using he,h2.1,by simpa using h2.2⟩
structure Fixed (P : Program) (N : Nat) (ops : Array Oper) (cl : List (Option (Nat × Bool) × AOp)) (pre : List (List Nat)) (un : List (Nat × Nat)) (st : St) (Rs : List Rec) (st' : St) : Prop where
 comp : compOps P N ops ops.toList = some cl
 ok : drawOK ops cl pre un = true
 run : DRun P cl st Rs st'
 cm : compat (Rs.map trOf) un = true
variable {ops : Array Oper} {cl : List (Option (Nat × Bool) × AOp)} {pre : List (List Nat)} {un : List (Nat × Nat)} {st : St} {Rs : List Rec} {st' : St}
theorem Fixed.lens (f : Fixed P N ops cl pre un st Rs st') : cl.length = ops.size ∧ Rs.length = ops.size :=
 ⟨by simpa using (compOps_len f.comp).1,by rw [run_len f.run]; simpa using (compOps_len f.comp).1⟩
structure Apart (ex : Bool) (ci ck : Option (Nat × Bool) × AOp) (Ri Rk : Rec) : Prop where
 look : ∀ d,Ri.dst = some d → d ∉ looksAt ck
 look' : ∀ d,Rk.dst = some d → d ∉ looksAt ci
 dst : ∀ d,Ri.dst = some d → Rk.dst ≠ some d
 wr : ∀ x ∈ Ri.ws.map (·.1),x ∉ Rk.foot
 ww : ∀ x ∈ Ri.ws.map (·.1),x ∉ Rk.ws.map (·.1)
 rw : ex = true ∨ ∀ x ∈ Rk.ws.map (·.1),x ∉ Ri.foot
theorem exempt_ws {i k : Nat} {R : Rec} {F : Nat → AV} {H : Hp} {new : Nat} (h : exempt cl i k = true) (hi : i < cl.length) (hR : RecOK P cl[i].1 cl[i].2 R F H new) : R.ws = [] := by
 unfold exempt at h
 rw [List.getElem?_eq_getElem hi] at h
 generalize cl[i] = ci at h hR
 split at h
 · rename_i h1 h2
   cases h1
   rcases hR.2 with ⟨_,h3,_⟩ | ⟨_,_,h3,_⟩
   · simp only [AOp.sem] at h3
     split at h3
     · split at h3
       · obtain ⟨_,_,_,h4,_⟩ := h3; exact h4
       · exact absurd h3.1 (by decide)
       · exact h3.elim
     · exact h3.elim
   · exact h3
 · cases h
theorem Fixed.apart (f : Fixed P N ops cl pre un st Rs st') {i k : Nat} (hik : i < k) (hk : k < cl.length) (hk' : k < Rs.length) (hp : i ∉ pre.getD k []) : Apart (exempt cl i k) cl[i] cl[k] Rs[i] Rs[k] := by
 obtain ⟨l1,l2⟩ := f.lens
 rcases draw_apart f.ok hik (by omega) hk with h | ⟨h1,h2⟩
 · exact absurd h hp
 obtain ⟨ni,oi,_⟩ := run_at f.run i (by omega) (by omega)
 obtain ⟨nk,ok,_⟩ := run_at f.run k hk hk'
 simp only [apartT,Bool.and_eq_true] at h1
 obtain ⟨⟨a1,a2⟩,a3⟩ := h1
 refine ⟨fun d hd => ?_,fun d hd => ?_,fun d hd hd' => ?_,?_,?_,?_⟩
 · rw [← oi.1,hd] at a1; simpa [dstFree] using a1
 · rw [← ok.1,hd] at a2; simpa [dstFree] using a2
 · rw [← oi.1,← ok.1,hd,hd'] at a3; simp at a3
 all_goals
  rcases h2 with h2 | h2
  · have hw := exempt_ws h2 (by omega) oi
    first
     | (rw [hw]; simp; done)
     | exact .inl h2
  cases t1 : cl[i].2.touch with
  | false => obtain ⟨e1,e2⟩ := rec_quiet t1 oi; simp [e1,e2]
  | true =>
    cases t2 : cl[k].2.touch with
    | false => obtain ⟨e1,e2⟩ := rec_quiet t2 ok; simp [e1,e2]
    | true =>
      obtain ⟨a,b,b1,b2,b3,b4,b5⟩ := compat_get f.cm (h2 t1 t2)
      have e1 : (Rs.map trOf)[i]? = some (trOf Rs[i]) := by rw [List.getElem?_map,List.getElem?_eq_getElem (by omega)]; rfl
      have e2 : (Rs.map trOf)[k]? = some (trOf Rs[k]) := by rw [List.getElem?_map,List.getElem?_eq_getElem (by omega)]; rfl
      rw [e1] at b1; rw [e2] at b2
      cases b1; cases b2
      first
       | exact .inr fun x hx => disj_not b5 hx
       | (intro x hx
          first
           | exact disj_not b3 hx
           | exact disj_not b4 hx)
def Clo (pre : List (List Nat)) (ops : Array Oper) (X : Nat → Bool) : Prop := ∀ k,k < ops.size → X k = true → ∀ j ∈ pre.getD k [],X j = true
def frX (Rs : List Rec) (X : Nat → Bool) (st : St) : Nat → AV := foldW (Rs.map Rec.F) X (get st.fr)
def hpX (Rs : List Rec) (X : Nat → Bool) (st : St) : Hp := foldW (Rs.map Rec.H) X (hpf st.hp)
theorem recF_on {R : Rec} {d : Nat} (h : R.F.on d = true) : R.dst = some d := by simpa [Rec.F] using h
theorem recH_on {R : Rec} {d : Nat} (h : R.H.on d = true) : d ∈ R.ws.map (·.1) := by simpa [Rec.H] using h
theorem evF_eq {F F' : Nat → AV} {x : Opd} (h : ∀ d ∈ x.tmp,F' d = F d) : evF F' x = evF F x := by
 cases x with
 | t n => exact h n (by simp [Opd.tmp])
 | k v => rfl
theorem guard_same {gd : Option (Nat × Bool)} {F F' : Nat → AV} (h : ∀ j b,gd = some (j,b) → F' j = F j) : (gsat gd F → gsat gd F') ∧ (gunsat gd F → gunsat gd F') := by
 cases gd with
 | none => exact ⟨id,id⟩
 | some jb => obtain ⟨j,b⟩ := jb; simp only [gsat,gunsat]; rw [h j b rfl]; exact ⟨id,id⟩
theorem exempt_inv {i k : Nat} (h : exempt cl i k = true) : ∃ gi gk d ks z m q d',cl[i]? = some (gi,.lku d ks z false m q) ∧ cl[k]? = some (gk,.mpe d' ks z m q) ∧ i < k ∧ ∀ j,i ≤ j → j < k → ∃ c,cl[j]? = some c ∧ dstFree c.2.dst (m.tmp ++ q.tmp) = true := by
 unfold exempt at h
 split at h
 · rename_i gi d ks z m q gk d' ks' z' m' q' h1 h2
   simp only [Bool.and_eq_true,decide_eq_true_eq] at h
   obtain ⟨⟨⟨⟨⟨hik,e1⟩,e2⟩,e3⟩,e4⟩,e5⟩ := h
   have e2 := zEq_eq e2; have e3 := opdEq_eq e3; have e4 := opdEq_eq e4
   subst e1 e2 e3 e4
   refine ⟨gi,gk,d,ks,z,m,q,d',h1,h2,hik,fun j hj hjk => ?_⟩
   have := List.all_eq_true.1 e5 j (List.mem_range.2 hjk)
   simp only [Bool.or_eq_true,decide_eq_true_eq] at this
   rcases this with h | h
   · omega
   · split at h
     · rename_i c hc; exact ⟨c,hc,h⟩
     · cases h
 · cases h
theorem mfind_end {ks : KS} {kv : Value} {e : Value × Nat × AV} (hself : eqK ks kv e.1 = some true) : ∀ {es : List (Value × Nat × AV)} {n : Nat},mfind ks kv es n = some none → mfind ks kv (es ++ [e]) n = some (some (n + es.length))
 | [],n,h => by simp [mfind,hself]
 | a :: es, n, h => by
   simp only [mfind,List.cons_append] at h ⊢
   split at h
   · cases h
   · rename_i h1
     rw [mfind_end hself h]
     simp; omega
   · cases h
theorem foldW_next {κ β : Type} {l : List (Wr κ β)} {X : Nat → Bool} {F : κ → β} {j : Nat} (hj : j < l.length) : foldW l (fun k => X k && decide (k < j + 1)) F = if X j then l[j].app (foldW l (fun k => X k && decide (k < j)) F) else foldW l (fun k => X k && decide (k < j)) F := by
 split
 · rename_i hx
   refine foldW_insert hj (by simp) (by simp [hx]) (fun k hk => ?_) (fun k hk hlt hxk => ?_)
   · by_cases e : k < j
     · simp [e,show k < j + 1 by omega]
     · simp [e,show ¬ k < j + 1 by omega]
   · simp at hxk; omega
 · rename_i hx
   congr 1
   funext k
   by_cases e : k = j
   · subst e; simp [hx]
   · by_cases e2 : k < j
     · simp [e2,show k < j + 1 by omega]
     · simp [e2,show ¬ k < j + 1 by omega]
theorem Fixed.lku (f : Fixed P N ops cl pre un st Rs st') {X : Nat → Bool} (hX : Clo pre ops X) {i : Nat} (hi : i < cl.length) (hi' : i < Rs.length) (hx : X i = false) (hr : ∀ j ∈ pre.getD i [], X j = true) {k0 : Nat} (hk0 : k0 < Rs.length) (hex : exempt cl i k0 = true)
 (sameF : ∀ d ∈ looksAt cl[i],frX Rs X st d = foldW (Rs.map Rec.F) (fun k => decide (k < i)) (get st.fr) d)
 (ap : ∀ k (hk : k < Rs.length) (hk' : k < cl.length),X k ≠ decide (k < i) → Apart (exempt cl k i) cl[k] cl[i] Rs[k] Rs[i] ∨ Apart (exempt cl i k) cl[i] cl[k] Rs[i] Rs[k]) {new : Nat}
 (h2 : cl[i].2.sem P (evF (foldW (Rs.map Rec.F) (fun k => decide (k < i)) (get st.fr))) (foldW (Rs.map Rec.H) (fun k => decide (k < i)) (hpf st.hp)) new Rs[i].r Rs[i].ws)
 (h3 : Rs[i].foot = cl[i].2.foot (foldW (Rs.map Rec.F) (fun k => decide (k < i)) (get st.fr))) (new' : Nat) :
 cl[i].2.sem P (evF (frX Rs X st)) (hpX Rs X st) new' Rs[i].r Rs[i].ws := by
 obtain ⟨l1,l2⟩ := f.lens
 obtain ⟨gi,gk,d,ks,z,m,q,d',c1,_,_,_⟩ := exempt_inv hex
 have c1' : cl[i] = (gi,.lku d ks z false m q) := by rw [List.getElem?_eq_getElem hi] at c1; exact Option.some.inj c1
 rw [c1'] at h2 h3 ⊢
 have look : ∀ t ∈ m.tmp ++ q.tmp,t ∈ looksAt cl[i] := fun t ht => by
  rw [c1']; simp only [looksAt,AOp.opds,List.mem_append,List.flatMap_cons,List.flatMap_nil,List.append_nil] at ht ⊢; exact .inl ht
 have em : evF (frX Rs X st) m = evF (foldW (Rs.map Rec.F) (fun k => decide (k < i)) (get st.fr)) m := evF_eq fun t ht => sameF t (look t (by simp [ht]))
 have eq' : evF (frX Rs X st) q = evF (foldW (Rs.map Rec.F) (fun k => decide (k < i)) (get st.fr)) q := evF_eq fun t ht => sameF t (look t (by simp [ht]))
 simp only [AOp.sem] at h2 ⊢
 rw [em,eq']
 generalize hFm : evF (foldW (Rs.map Rec.F) (fun k => decide (k < i)) (get st.fr)) m = um at h2 ⊢
 generalize hFq : evF (foldW (Rs.map Rec.F) (fun k => decide (k < i)) (get st.fr)) q = uq at h2 ⊢
 split at h2
 · rename_i x
   split at h2
   · rename_i es clk hTx
     obtain ⟨kv,hkv,hself,hws,hans⟩ := h2
     have footx : x ∈ Rs[i].foot := by rw [h3]; simp [AOp.foot,AOp.heapy,AOp.opds,hFm,AV.ids,AV.ids1]
     have main : ∀ j, i ≤ j → j ≤ Rs.length → (∃ clk', foldW (Rs.map Rec.H) (fun k => X k && decide (k < j)) (hpf st.hp) x = some (.mp es clk')) ∨
      (mfind ks kv es 0 = some none ∧ ∃ b clk',foldW (Rs.map Rec.H) (fun k => X k && decide (k < j)) (hpf st.hp) x = some (.mp (es ++ [(kv,b,z)]) clk')) := by
      intro j hij
      obtain ⟨t,rfl⟩ : ∃ t,j = i + t := ⟨j - i,by omega⟩
      clear hij
      induction t with
      | zero =>
        intro _
        refine .inl ⟨clk,?_⟩
        rw [← hTx]
        refine foldW_agree rfl fun k hk hon => ?_
        simp only [List.length_map] at hk
        simp only [List.getElem_map] at hon
        by_cases hki : k < i
        · by_cases hxk : X k = true
          · simp [hxk,hki]
          · rcases ap k hk (by omega) (by simp [hki,hxk]) with a | a
            · exact absurd footx (a.wr x (recH_on hon))
            · rcases a.rw with a | a
              · obtain ⟨_,_,_,_,_,_,_,_,_,_,hlt,_⟩ := exempt_inv a; omega
              · exact absurd footx (a x (recH_on hon))
        · simp [hki]
      | succ t ih =>
        intro hj
        have ih := ih (by omega)
        have hjl : i + t < Rs.length := by omega
        generalize hjj : i + t = j at ih hjl
        rw [show i + (t + 1) = j + 1 by omega,foldW_next (by simpa using hjl)]
        by_cases hxj : X j = true
        · rw [if_pos hxj]
          by_cases hon : x ∈ Rs[j].ws.map (·.1)
          · have hij : i < j := by
             rcases Nat.eq_or_lt_of_le (show i ≤ j by omega) with e | e
             · subst e; rw [hx] at hxj; cases hxj
             · exact e
            have hpre : i ∉ pre.getD j [] := fun hp => by have := hX j (by omega) hxj i hp; rw [hx] at this; cases this
            have aj := f.apart hij (by omega) hjl hpre
            rcases aj.rw with hexj | hnot
            · obtain ⟨gi2, gj, d2, ks2, z2, m2, q2, d2', b1, b2, _, b4⟩ := exempt_inv hexj
              rw [c1] at b1; cases b1
              have b2' : cl[j]'(by omega) = (gj,.mpe d2' ks z m q) := by rw [List.getElem?_eq_getElem (by omega)] at b2; exact Option.some.inj b2
              obtain ⟨nj,oj,_⟩ := run_at f.run j (by omega) hjl
              rw [b2'] at oj
              have sameT : ∀ t2 ∈ m.tmp ++ q.tmp, foldW (Rs.map Rec.F) (fun k => decide (k < j)) (get st.fr) t2 = foldW (Rs.map Rec.F) (fun k => decide (k < i)) (get st.fr) t2 := fun t2 ht2 => foldW_agree rfl fun k hk honk => by
               simp only [List.length_map] at hk
               simp only [List.getElem_map] at honk
               by_cases k1 : k < i
               · simp [k1,show k < j by omega]
               · by_cases k2 : k < j
                 · obtain ⟨c,hc,hfree⟩ := b4 k (by omega) k2
                   obtain ⟨_,ok,_⟩ := run_at f.run k (by omega) hk
                   have hcc : cl[k]'(by omega) = c := by rw [List.getElem?_eq_getElem (by omega)] at hc; exact Option.some.inj hc
                   rw [← hcc,← ok.1,recF_on honk] at hfree
                   simp [dstFree] at hfree ht2
                   rcases ht2 with h | h
                   · exact absurd h hfree.1
                   · exact absurd h hfree.2
                 · simp [k1,k2]
              have em2 : evF (foldW (Rs.map Rec.F) (fun k => decide (k < j)) (get st.fr)) m = .mp x := by rw [← hFm]; exact evF_eq fun t2 h => sameT t2 (by simp [h])
              have eq2 : evF (foldW (Rs.map Rec.F) (fun k => decide (k < j)) (get st.fr)) q = uq := by rw [← hFq]; exact evF_eq fun t2 h => sameT t2 (by simp [h])
              rcases oj.2 with ⟨_,s2,s3⟩ | ⟨_,_,s2,_⟩
              · have footj : x ∈ Rs[j].foot := by rw [s3]; simp [AOp.foot, AOp.heapy, AOp.opds, em2, AV.ids, AV.ids1]
                have hT : foldW (Rs.map Rec.H) (fun k => decide (k < j)) (hpf st.hp) x = foldW (Rs.map Rec.H) (fun k => X k && decide (k < j)) (hpf st.hp) x := foldW_agree rfl fun k hk honk => by
                 simp only [List.length_map] at hk
                 simp only [List.getElem_map] at honk
                 by_cases k2 : k < j
                 · cases hxk : X k with
                   | true => simp
                   | false =>
                     have hp2 : k ∉ pre.getD j [] := fun hp => by have := hX j (by omega) hxj k hp; rw [hxk] at this; cases this
                     exact absurd footj ((f.apart k2 (by omega) hjl hp2).wr x (recH_on honk))
                 · simp [k2]
                simp only [AOp.sem,em2,eq2] at s2
                rw [hT] at s2
                rcases ih with ⟨clk',e⟩ | ⟨hnone,b,clk',e⟩
                · rw [e] at s2
                  obtain ⟨kv',g1,g2,g3⟩ := s2
                  rw [hkv] at g1; cases g1
                  rcases g3 with ⟨_,_,_,_,_,g⟩ | ⟨g4,_,g⟩
                  · rw [g] at hon; simp at hon
                  · refine .inr ⟨g4,clk',clk' + 1,?_⟩
                    simp [Wr.app,Rec.H,g,Hp.write,Hp.set_same]
                · rw [e] at s2
                  obtain ⟨kv',g1,g2,g3⟩ := s2
                  rw [hkv] at g1; cases g1
                  rcases g3 with ⟨_,_,_,_,_,g⟩ | ⟨g4,_,g⟩
                  · rw [g] at hon; simp at hon
                  · rw [mfind_end (e := (kv,b,z)) hself hnone] at g4; cases g4
              · rw [s2] at hon; simp at hon
            · exact absurd footx (hnot x hon)
          · have hon' : ((Rs.map Rec.H)[j]'(by simpa using hjl)).on x = false := by
             simp only [List.getElem_map,Rec.H]
             simpa using hon
            have : (((Rs.map Rec.H)[j]'(by simpa using hjl)).app (foldW (Rs.map Rec.H) (fun k => X k && decide (k < j)) (hpf st.hp))) x = foldW (Rs.map Rec.H) (fun k => X k && decide (k < j)) (hpf st.hp) x := by
             simp only [Wr.app,hon']; rfl
            rw [this]; exact ih
        · rw [if_neg hxj]; exact ih
     have hfin : hpX Rs X st x = foldW (Rs.map Rec.H) (fun k => X k && decide (k < Rs.length)) (hpf st.hp) x := foldW_agree rfl fun k hk _ => by
      simp only [List.length_map] at hk
      simp [hk]
     rcases main Rs.length (by omega) (Nat.le_refl _) with ⟨clk',e⟩ | ⟨hnone,b,clk',e⟩
     · rw [← hfin] at e
       simp only [e]
       exact ⟨kv,hkv,hself,hws,hans⟩
     · rw [← hfin] at e
       simp only [e]
       rcases hans with ⟨_,_,g,_⟩ | ⟨_,g⟩
       · rw [hnone] at g; cases g
       · exact ⟨kv,hkv,hself,hws,.inl ⟨es.length,(kv,b,z),by rw [mfind_end (e := (kv,b,z)) hself hnone]; simp,by simp,g⟩⟩
   · exact absurd h2.1 (by decide)
   · exact h2.elim
 · exact h2.elim
theorem Fixed.serves (f : Fixed P N ops cl pre un st Rs st') {X : Nat → Bool} (hX : Clo pre ops X) {i : Nat} (hi : i < cl.length) (hi' : i < Rs.length) (hx : X i = false) (hr : ∀ j ∈ pre.getD i [], X j = true) :
 ∃ new,hpX Rs X st new = none ∧ RecOK P cl[i].1 cl[i].2 Rs[i] (frX Rs X st) (hpX Rs X st) new := by
 obtain ⟨l1,l2⟩ := f.lens
 obtain ⟨new,ok,hnew⟩ := run_at f.run i hi hi'
 have ap : ∀ k (hk : k < Rs.length) (hk' : k < cl.length),X k ≠ decide (k < i) → Apart (exempt cl k i) cl[k] cl[i] Rs[k] Rs[i] ∨ Apart (exempt cl i k) cl[i] cl[k] Rs[i] Rs[k] := fun k hk hk' hne => by
  rcases Nat.lt_trichotomy k i with h | h | h
  · refine .inl (f.apart h hi hi' (fun hp => hne ?_))
    rw [hr k hp]; simp [h]
  · subst h; rw [hx] at hne; simp at hne
  · refine .inr (f.apart h hk' hk (fun hp => hne ?_))
    have : X k = true := by
     cases e : X k with
     | true => rfl
     | false => rw [e] at hne; exact absurd (by symm; simp; omega) hne
    have := hX k (by omega) this i hp
    rw [hx] at this; cases this
 have sameF : ∀ d ∈ looksAt cl[i],frX Rs X st d = foldW (Rs.map Rec.F) (fun k => decide (k < i)) (get st.fr) d := fun d hd => by
  refine foldW_agree rfl fun k hk hon => ?_
  simp only [List.length_map] at hk
  simp only [List.getElem_map] at hon
  by_cases e : X k = decide (k < i)
  · exact e
  · rcases ap k hk (by omega) e with a | a
    · exact absurd hd (a.look d (recF_on hon))
    · exact absurd hd (a.look' d (recF_on hon))
 have sameH : ∀ x, (x ∈ Rs[i].ws.map (·.1) ∨ (∀ k, k < Rs.length → exempt cl i k = false) ∧ x ∈ Rs[i].foot) → hpX Rs X st x = foldW (Rs.map Rec.H) (fun k => decide (k < i)) (hpf st.hp) x := fun x hxx => by
  refine foldW_agree rfl fun k hk hon => ?_
  simp only [List.length_map] at hk
  simp only [List.getElem_map] at hon
  by_cases e : X k = decide (k < i)
  · exact e
  · have hon := recH_on hon
    rcases ap k hk (by omega) e with a | a
    · rcases hxx with h | ⟨h0,h⟩
      · exact absurd h (a.ww x hon)
      · exact absurd h (a.wr x hon)
    · rcases hxx with h | ⟨h0,h⟩
      · exact absurd hon (a.ww x h)
      · rcases a.rw with a | a
        · rw [h0 k hk] at a; cases a
        · exact absurd h (a x hon)
 obtain ⟨b1,b2⟩ := run_bounds' f.run
 have hfresh : hpX Rs X st st'.hp.length = none := by
  have : hpX Rs X st st'.hp.length = foldW (Rs.map Rec.H) (fun _ => false) (hpf st.hp) st'.hp.length := foldW_agree rfl fun k hk hon => by
   simp only [List.length_map] at hk
   simp only [List.getElem_map] at hon
   have := recH_on hon
   obtain ⟨p,hp,e⟩ := List.mem_map.1 this
   have := b2 Rs[k] (List.getElem_mem _) p hp
   omega
  rw [this,foldW_none (fun _ => rfl)]
  simp [hpf,b1]
 have hg := guard_same (gd := cl[i].1) (F := foldW (Rs.map Rec.F) (fun k => decide (k < i)) (get st.fr)) (F' := frX Rs X st) (fun j b e => sameF j (by simp [looksAt,e]))
 refine ⟨if new ∈ Rs[i].ws.map (·.1) then new else st'.hp.length,?_,ok.1,?_⟩
 · split
   · rename_i h; rw [sameH new (.inl h)]; exact hnew
   · exact hfresh
 · rcases ok.2 with ⟨h1, h2, h3⟩ | ⟨h1, h2, h3, h4⟩
   · refine .inl ⟨hg.1 h1, ?_, ?_⟩
     · by_cases hex : ∃ k,k < Rs.length ∧ exempt cl i k = true
       · obtain ⟨k,hk,hex⟩ := hex
         exact f.lku hX hi hi' hx hr hk hex sameF ap h2 h3 _
       · refine sem_local h2 (fun x hx => evF_eq fun d hd => sameF d ?_) (fun id hid => sameH id (.inr ⟨fun k hk => by
          cases e : exempt cl i k with
          | false => rfl
          | true => exact absurd ⟨k,hk,e⟩ hex,by rw [h3]; exact hid⟩)) (fun h => by rw [if_pos h])
         simp only [looksAt,List.mem_append,List.mem_flatMap]
         exact .inl ⟨x,hx,hd⟩
     · rw [h3]
       simp only [AOp.foot]
       cases cl[i].2.heapy with
       | false => rfl
       | true =>
         simp only [cond_true]
         have : ∀ (l : List Opd),(∀ x ∈ l,x ∈ cl[i].2.opds) → l.flatMap (fun x => (evF (foldW (Rs.map Rec.F) (fun k => decide (k < i)) (get st.fr)) x).ids) = l.flatMap fun x => (evF (frX Rs X st) x).ids := fun l hl => by
          induction l with
          | nil => rfl
          | cons x l ih =>
            simp only [List.flatMap_cons]
            rw [ih (fun y hy => hl y (by simp [hy])),evF_eq (F' := frX Rs X st) (F := foldW (Rs.map Rec.F) (fun k => decide (k < i)) (get st.fr)) (x := x) fun d hd => sameF d (by
             simp only [looksAt,List.mem_append,List.mem_flatMap]
             exact .inl ⟨x,hl x (by simp),hd⟩)]
         exact this _ (fun x hx => hx)
   · exact .inr ⟨hg.2 h1,h2,h3,h4⟩
theorem Fixed.next (f : Fixed P N ops cl pre un st Rs st') {X Y : Nat → Bool} (hX : Clo pre ops X) {i : Nat} (hi : i < cl.length) (hi' : i < Rs.length) (hx : X i = false) (hy : Y i = true) (hj : ∀ j,j ≠ i → Y j = X j) :
 frX Rs Y st = Rs[i].F.app (frX Rs X st) ∧ hpX Rs Y st = Hp.write (hpX Rs X st) Rs[i].ws := by
 obtain ⟨l1,l2⟩ := f.lens
 have ap : ∀ k (hk : k < Rs.length) (hk' : k < cl.length),i < k → X k = true → Apart (exempt cl i k) cl[i] cl[k] Rs[i] Rs[k] := fun k hk hk' hlt hxk => f.apart hlt hk' hk (fun hp => by
  have := hX k (by omega) hxk i hp
  rw [hx] at this; cases this)
 constructor
 · have := foldW_insert (l := Rs.map Rec.F) (F := get st.fr) (by simpa using hi') hx hy hj (fun k hk hlt hxk key hon => by
    simp only [List.length_map] at hk
    simp only [List.getElem_map] at hon ⊢
    have a := ap k hk (by omega) hlt hxk
    have := a.dst key (recF_on hon)
    simpa [Rec.F] using this)
   simpa [frX] using this
 · have := foldW_insert (l := Rs.map Rec.H) (F := hpf st.hp) (by simpa using hi') hx hy hj (fun k hk hlt hxk key hon => by
    simp only [List.length_map] at hk
    simp only [List.getElem_map] at hon ⊢
    have a := ap k hk (by omega) hlt hxk
    have := a.ww key (recH_on hon)
    simpa [Rec.H] using this)
   rw [List.getElem_map,recH_app] at this
   exact this
theorem FrOK.app {w g F} {a : Act} (h : FrOK w g F a) {R : Rec} {v : Value} (hd : ∀ k,R.dst = some k → k < a.tmps.size) (hr : Rep w g false R.r v) : FrOK w g (R.F.app F) (a.put R.dst v) := by
 obtain ⟨d,r,ws,ft⟩ := R
 cases d with
 | none =>
   have : (Rec.F ⟨none,r,ws,ft⟩).app F = F := by funext t; simp [Wr.app,Rec.F]
   rw [this]; exact h
 | some d =>
   intro t
   have hlt := hd d rfl
   simp only [Wr.app,Rec.F,Act.put]
   by_cases e : d = t
   · subst e; simp [hlt]; exact hr
   · have := h t
     simp only [Array.getD_eq_getD_getElem?] at this ⊢
     rw [Array.getElem?_setIfInBounds_ne e]
     simpa [e] using this
theorem guardVal_sat {gd : Option (Nat × Bool)} {F : Nat → AV} {w g} {a : Act} (hF : FrOK w g F a) : (gsat gd F → guardVal a gd = true) ∧ (gunsat gd F → guardVal a gd = false) := by
 cases gd with
 | none => exact ⟨fun _ => rfl,fun h => h.elim⟩
 | some jb =>
   obtain ⟨j,b⟩ := jb
   have key : ∀ x,F j = .v x → a.tmps.getD j undef = x := fun x hx => by
    have := hF j
    rw [hx] at this
    exact rep_v this
   constructor
   · intro h
     have hv := key _ h
     have hlt : j < a.tmps.size := by
      rcases Nat.lt_or_ge j a.tmps.size with h' | h'
      · exact h'
      · simp [undef,h'] at hv
     have hv' : a.tmps[j]? = some (.bool b) := by simp [hlt] at hv; simp [hlt,hv]
     simp [guardVal,hv']
   · rintro (⟨c,h,hne⟩ | ⟨c,h⟩)
     · have hv := key _ h
       have hlt : j < a.tmps.size := by
        rcases Nat.lt_or_ge j a.tmps.size with h' | h'
        · exact h'
        · simp [undef,h'] at hv
       have hv' : a.tmps[j]? = some (.bool c) := by simp [hlt] at hv; simp [hlt,hv]
       simp [guardVal,hv',hne]
     · have hv := key _ h
       cases ht : a.tmps[j]? with
       | none => simp [guardVal,ht]
       | some y =>
         have : y = .tuple c := by simpa [ht] using hv
         subst this; simp [guardVal,ht]
theorem Fixed.step (f : Fixed P N ops cl pre un st Rs st') {X Y : Nat → Bool} (hX : Clo pre ops X) {i : Nat} (hi : i < ops.size) (hx : X i = false) (hr : ∀ j ∈ pre.getD i [],X j = true) (hy : Y i = true) (hj : ∀ j,j ≠ i → Y j = X j)
 {a : Act} {w : World} {g : G} (hN : a.tmps.size = N) (hF : FrOK w g (frX Rs X st) a) (hok : HeapOK (hpX Rs X st) g w) {K : Act → World → Prop} {Q : Exit → Act → World → Prop}
 (hK : ∀ a' w' g',a'.tmps.size = N → a'.defers = a.defers → FrOK w' g' (frX Rs Y st) a' → HeapOK (hpX Rs Y st) g' w' → Upd (hpX Rs X st) g w (hpX Rs Y st) g' w' → K a' w') :
 wpOpIn (W ro) n P ops Q i K a w := by
 obtain ⟨l1,l2⟩ := f.lens
 obtain ⟨new,hnew,hrec⟩ := f.serves hX (i := i) (by omega) (by omega) hx hr
 obtain ⟨e1,e2⟩ := f.next hX (i := i) (by omega) (by omega) hx hy hj
 obtain ⟨c1,c2⟩ := (compOps_len f.comp).2 i (by simpa using hi) (by omega)
 simp only [Array.getElem_toList] at c1 c2
 obtain ⟨d1,d2⟩ := comp_dst c1
 unfold wpOpIn
 simp only [Array.getElem?_eq_getElem hi]
 rw [wanted_guard c2]
 have hdst : Rs[i].dst = ops[i].dst := hrec.1.trans d1
 rcases hrec.2 with ⟨h1,h2,h3⟩ | ⟨h1,h2,h3,h4⟩
 · rw [(guardVal_sat hF).1 h1]
   simp only [if_true]
   obtain ⟨p1,p2,p3⟩ := snd_op (ro := ro) (n := n) c1 hF hok hnew h2
   refine p1 K Q fun v w' hp => ?_
   obtain ⟨g',q1,q2,q3⟩ := hp
   rw [← e2] at q2 q3
   rw [← hdst]
   refine hK _ w' g' (by rw [put_size]; exact hN) (put_defers _ _ _) ?_ q2 q3
   rw [e1]
   exact FrOK.app (hF.mono q3.tr) (fun k e => by rw [hN]; exact d2 k (by rw [← hdst]; exact e)) q1
 · rw [(guardVal_sat hF).2 h1]
   simp only [Bool.false_eq_true,if_false]
   refine ⟨fun _ _ => trivial,?_⟩
   rw [← hdst]
   have e3 : hpX Rs Y st = hpX Rs X st := by rw [e2,h3]; rfl
   refine hK _ w g (by rw [put_size]; exact hN) (put_defers _ _ _) ?_ (by rw [e3]; exact hok) (by rw [e3]; exact .refl _ _ _)
   rw [e1]
   exact FrOK.app hF (fun k e => by rw [hN]; exact d2 k (by rw [← hdst]; exact e)) (by rw [h2]; exact .v _ _)
theorem ready_spec {listed : Array Bool} {i : Nat} (h : i ∈ Region.ready .any ops listed) : ∃ (hi : i < ops.size),listed.getD i true = false ∧ ∀ e ∈ ops[i].after,Region.binds .any e = true → listed.getD e.on false = true := by
 simp only [Region.ready,List.mem_filter,List.mem_range,Bool.and_eq_true,Bool.not_eq_true'] at h
 obtain ⟨hi,h1,h2⟩ := h
 refine ⟨hi,h1,fun e he hb => ?_⟩
 simp only [Array.getElem?_eq_getElem hi,Option.map_some,Option.getD_some] at h2
 have := (Array.all_eq_true_iff_forall_mem.1 h2) e he
 simpa [hb] using this
theorem ready_nil {listed : Array Bool} (hl : listed.size = ops.size) (he : ∀ k (hk : k < ops.size), ∀ e ∈ ops[k].after, Region.binds .any e = true → e.on < k) (h : Region.ready .any ops listed = []) : ∀ i, i < ops.size → listed.getD i true = true := fun i => by
 induction i using Nat.strongRecOn with
 | _ i ih =>
   intro hi
   cases hx : listed.getD i true with
   | true => rfl
   | false =>
     exfalso
     have : i ∈ Region.ready .any ops listed := by
      simp only [Region.ready,List.mem_filter,List.mem_range,Bool.and_eq_true,Bool.not_eq_true']
      refine ⟨hi,hx,?_⟩
      simp only [Array.getElem?_eq_getElem hi,Option.map_some,Option.getD_some]
      refine Array.all_eq_true_iff_forall_mem.2 fun e hm => ?_
      cases hb : Region.binds .any e with
      | false => rfl
      | true =>
        have hlt := he i hi e hm hb
        have := ih e.on hlt (by omega)
        have hlt' : e.on < listed.size := by omega
        simpa [hlt'] using this
     rw [h] at this; simp at this
theorem ready_done {listed : Array Bool} (h : ∀ i,i < ops.size → listed.getD i true = true) : Region.ready .any ops listed = [] := by
 simp only [Region.ready,List.filter_eq_nil_iff,List.mem_range,Bool.and_eq_true,Bool.not_eq_true']
 intro i hi ⟨h1,_⟩
 rw [h i hi] at h1; cases h1
def lst (listed : Array Bool) : Nat → Bool := fun i => listed.getD i true
theorem Fixed.done (f : Fixed P N ops cl pre un st Rs st') {X : Nat → Bool} (h : ∀ i,i < ops.size → X i = true) : frX Rs X st = get st'.fr ∧ hpX Rs X st = hpf st'.hp := by
 obtain ⟨l1,l2⟩ := f.lens
 obtain ⟨e1,e2⟩ := run_end f.run
 rw [e1,e2]
 constructor
 · funext t; exact foldW_agree rfl fun k hk _ => h k (by simp at hk; omega)
 · funext t; exact foldW_agree rfl fun k hk _ => h k (by simp at hk; omega)
theorem Fixed.all (f : Fixed P N ops cl pre un st Rs st') {w0 : World} {g0 : G} {Q : Exit → Act → World → Prop} {a0 : Act}
 (hQ : ∀ a w g,Sim N st' a w g → Upd (hpf st.hp) g0 w0 (hpf st'.hp) g w → a.defers = a0.defers → Q .normal a w) :
 ∀ (fuel : Nat) (listed : Array Bool) (a : Act) (w : World) (g : G),listed.size = ops.size → Clo pre ops (lst listed) → unl (lst listed) ops.size ≤ fuel → a.tmps.size = N → a.defers = a0.defers → FrOK w g (frX Rs (lst listed) st) a → HeapOK (hpX Rs (lst listed) st) g w →
   Upd (hpf st.hp) g0 w0 (hpX Rs (lst listed) st) g w → wpAnyIn (W ro) n P .any ops Q fuel listed a w := by
 obtain ⟨l1,l2⟩ := f.lens
 have fin : ∀ (listed : Array Bool) (a : Act) (w : World) (g : G),(∀ i,i < ops.size → lst listed i = true) → a.tmps.size = N → a.defers = a0.defers → FrOK w g (frX Rs (lst listed) st) a → HeapOK (hpX Rs (lst listed) st) g w →
  Upd (hpf st.hp) g0 w0 (hpX Rs (lst listed) st) g w → Q .normal a w := fun listed a w g h hN hD hF hok hu => by
  obtain ⟨e1,e2⟩ := f.done h
  rw [e1] at hF; rw [e2] at hok hu
  exact hQ a w g ⟨hN,hF,hok⟩ hu hD
 have ed := fun k (hk : k < ops.size) => (draw_edges f.ok hk (by omega)).1
 intro fuel
 induction fuel with
 | zero =>
   intro listed a w g hl hX hfu hN hD hF hok hu
   have h := unl_zero (X := lst listed) (n := ops.size) (by omega)
   exact ⟨ready_done h,fin listed a w g h hN hD hF hok hu⟩
 | succ fuel ih =>
   intro listed a w g hl hX hfu hN hD hF hok hu
   refine ⟨fun h => fin listed a w g (ready_nil hl ed h) hN hD hF hok hu,fun i hi => ?_⟩
   obtain ⟨hlt,hx,he⟩ := ready_spec hi
   have hget : ∀ j,j < ops.size → (listed.getD j false = true) → lst listed j = true := fun j hj h => by
    have : j < listed.size := by omega
    simpa [lst,this] using h
   have hr : ∀ j ∈ pre.getD i [],lst listed j = true := fun j hj => by
    obtain ⟨e,hm,hb,h⟩ := (draw_edges f.ok hlt (by omega)).2 j hj
    have hon := ed i hlt e hm hb
    have hL := hget e.on (by omega) (he e hm hb)
    rcases h with h | h
    · rw [← h]; exact hL
    · exact hX e.on (by omega) hL j h
   have hi' : i < listed.size := by omega
   have hy : lst (listed.setIfInBounds i true) i = true := by simp [lst,hi']
   have hj : ∀ j,j ≠ i → lst (listed.setIfInBounds i true) j = lst listed j := fun j hne => by
    simp only [lst,Array.getD_eq_getD_getElem?]
    rw [Array.getElem?_setIfInBounds_ne (Ne.symm hne)]
   refine f.step hX hlt hx hr hy hj hN hF hok fun a' w' g' hN' hD' hF' hok' hu' => ?_
   refine ih _ a' w' g' (by simpa using hl) (fun k hk hk1 j hjm => ?_) ?_ hN' (hD'.trans hD) hF' hok' (hu.trans hu')
   · by_cases e : j = i
     · subst e; exact hy
     · rw [hj j e]
       by_cases e' : k = i
       · subst e'; exact hr j hjm
       · rw [hj k e'] at hk1; exact hX k hk hk1 j hjm
   · have := unl_set hx hy hj ops.size hlt
     omega
theorem lst_false (n : Nat) : ∀ i,i < n → lst (Array.replicate n false) i = false := fun i hi => by simp [lst,hi]
theorem draw_sound {id : Nat} {ops : Array Oper} {cl pre un} {st : St} {K : St → Prop} {a : Act} {w : World} {g : G} {Q : Exit → Act → World → Prop} (hm : P.follows .mixedOrders = true)
 (hc : compOps P N ops ops.toList = some cl) (hd : drawOK ops cl pre un = true) (h : dgrps P (grp cl) st [] fun st tr => compat tr un = true ∧ K st) (hs : Sim N st a w g) (hn : Goes N st a w g K (Q .normal)) :
 (Code.region id ops true).wpIn (W ro) n P Q a w := by
 obtain ⟨Rs,st',hrun,hcm,hK⟩ := drun_of_flat (dgrp_sound h)
 simp only [List.nil_append] at hcm
 have f : Fixed P N ops cl pre un st Rs st' := ⟨hc,hd,hrun,hcm⟩
 obtain ⟨l1,l2⟩ := f.lens
 refine wpIn_region_any hm ?_
 obtain ⟨hokd,hud⟩ := hs.2.2.drew
 have e1 : frX Rs (lst (Array.replicate ops.size false)) st = get st.fr := by
  have : frX Rs (lst (Array.replicate ops.size false)) st = foldW (Rs.map Rec.F) (fun _ => false) (get st.fr) := by
   funext t; exact foldW_agree rfl fun k hk _ => lst_false _ k (by simp at hk; omega)
  rw [this,foldW_none (fun _ => rfl)]
 have e2 : hpX Rs (lst (Array.replicate ops.size false)) st = hpf st.hp := by
  have : hpX Rs (lst (Array.replicate ops.size false)) st = foldW (Rs.map Rec.H) (fun _ => false) (hpf st.hp) := by
   funext t; exact foldW_agree rfl fun k hk _ => lst_false _ k (by simp at hk; omega)
  rw [this,foldW_none (fun _ => rfl)]
 refine f.all (g0 := g) (w0 := w) (a0 := a) (fun a' w' g' hs' hu' hD' => hn st' a' w' g' hK hs' hu' hD') ops.size _ a w.drew g (by simp) (fun k hk hk1 => ?_) ?_ hs.1 rfl ?_ ?_ ?_
 · rw [lst_false _ k hk] at hk1; cases hk1
 · have : ∀ m,unl (lst (Array.replicate ops.size false)) m ≤ m := fun m => by
    induction m with
    | zero => exact Nat.le_refl _
    | succ m ih => simp only [unl]; split <;> omega
   exact this _
 · rw [e1]; exact hs.2.1.mono hud.tr
 · rw [e2]; exact hokd
 · rw [e2]; exact hud
end
end Go.AM

namespace Go.AM
open Go.RowKit
def AC.noRf : AC → Bool
 | .seq x y | .cond _ x y => x.noRf && y.noRf
 | .block _ x | .loop x | .scope x => x.noRf
 | .rf .. => false
 | _ => true
def Fits (P : Program) (N : Nat) : Code → AC → Prop
 | .skip,.skip => True
 | .region _ ops d,.rgn gs _ => d = false ∧ ∃ cl,compOps P N ops ops.toList = some cl ∧ gs = grp cl
 | .region _ ops d,.drw gs un _ => d = true ∧ P.follows .mixedOrders = true ∧ ∃ cl pre,compOps P N ops ops.toList = some cl ∧ drawOK ops cl pre un = true ∧ gs = grp cl
 | .seq a b,.seq x y => Fits P N a x ∧ Fits P N b y
 | .cond c a b,.cond d x y => opd c = some d ∧ Fits P N a x ∧ Fits P N b y
 | .block id a,.block id' x => id = id' ∧ Fits P N a x
 | .loop a,.loop x => Fits P N a x
 | .exit id,.exit id' => id = id'
 | .ret,.ret => True
 | .label l,.label l' => l = l'
 | .scope a,.scope x => Fits P N a x
 | .rangeFunc g ps a b,.rf g' qs x y _ => opd g = some g' ∧ qs = ps.toList ∧ (∀ p ∈ qs,p < N) ∧ x.noRf = true ∧ y.noRf = true ∧ Fits P N a x ∧ Fits P N b y
 | _,.dead => True
 | _,_ => False
def comp (P : Program) (N : Nat) : Code → AC
 | .skip => .skip
 | .region _ ops d => match compOps P N ops ops.toList with
   | some cl => bif d then (bif drawOK ops cl (preOf ops) (unOf (preOf ops) cl) && P.follows .mixedOrders then .drw (grp cl) (unOf (preOf ops) cl) [] else .dead) else .rgn (grp cl) []
   | none => .dead
 | .seq a b => .seq (comp P N a) (comp P N b)
 | .cond c a b => match opd c with
   | some d => .cond d (comp P N a) (comp P N b)
   | none => .dead
 | .block id a => .block id (comp P N a)
 | .loop a => .loop (comp P N a)
 | .exit id => .exit id
 | .ret => .ret
 | .label l => .label l
 | .scope a => .scope (comp P N a)
 | .rangeFunc g ps a b => match opd g with
   | some g' => bif ps.toList.all (fun p => decide (p < N)) && (comp P N a).noRf && (comp P N b).noRf then .rf g' ps.toList (comp P N a) (comp P N b) [] else .dead
   | none => .dead
 | _ => .dead
theorem comp_fits {P : Program} {N : Nat} : ∀ (c : Code),Fits P N c (comp P N c)
 | .skip => trivial
 | .region id ops d => by
   simp only [comp]
   split
   · rename_i cl hcl
     cases d with
     | false => exact ⟨rfl,cl,hcl,rfl⟩
     | true =>
       simp only [cond_true]
       cases hk : (drawOK ops cl (preOf ops) (unOf (preOf ops) cl) && P.follows .mixedOrders) with
       | false => exact trivial
       | true =>
         simp only [Bool.and_eq_true] at hk
         exact ⟨rfl,hk.2,cl,preOf ops,hcl,hk.1,rfl⟩
   · exact trivial
 | .seq a b => ⟨comp_fits a,comp_fits b⟩
 | .cond c a b => by
   simp only [comp]
   split
   · rename_i h0; exact ⟨h0,comp_fits a,comp_fits b⟩
   · exact trivial
 | .block id a => ⟨rfl,comp_fits a⟩
 | .loop a => comp_fits a
 | .exit id => rfl
 | .ret => trivial
 | .label l => rfl
 | .rangeFunc g ps a b => by
   simp only [comp]
   split
   · rename_i g' h0
     cases hk : (ps.toList.all (fun p => decide (p < N)) && (comp P N a).noRf && (comp P N b).noRf) with
     | false => exact trivial
     | true =>
       simp only [Bool.and_eq_true] at hk
       exact ⟨h0,rfl,fun p hp => by simpa using List.all_eq_true.1 hk.1.1 p hp,hk.1.2,hk.2,comp_fits a,comp_fits b⟩
   · exact trivial
 | .scope a => comp_fits (P := P) (N := N) a
 | .goto _ => trivial
 | .refuse _ => trivial
def insN (n : Nat) : List Nat → List Nat
 | [] => [n]
 | m :: l => bif n < m then n :: m :: l else bif n == m then m :: l else m :: insN n l
def uniN : List Nat → List Nat → List Nat
 | [],l => l
 | n :: k,l => insN n (uniN k l)
def delN (n : Option Nat) (l : List Nat) : List Nat := match n with
 | some n => l.filter (· != n)
 | none => l
def lvOps : List AOp → List Nat → List Nat
 | [],l => l
 | o :: os,l => uniN (o.opds.flatMap Opd.tmp) (delN o.dst (lvOps os l))
def lvGrps : List Grp → List Nat → List Nat
 | [],l => l
 | ⟨none,os⟩ :: gs,l => lvOps os (lvGrps gs l)
 | ⟨some (j,_),os⟩ :: gs,l => insN j (lvOps os (lvGrps gs l))
def exOf (id : Nat) : List (Nat × List Nat) → List Nat
 | [] => []
 | (i,l) :: r => bif i == id then l else exOf id r
def ann (rt : List Nat) : AC → List (Nat × List Nat) → List Nat → AC × List Nat
 | .skip,_,l => (.skip,l)
 | .rgn gs _,_,l => (.rgn gs l,lvGrps gs l)
 | .drw gs un _,_,l => (.drw gs un l,lvGrps gs l)
 | .seq x y,ex,l => (.seq (ann rt x ex (ann rt y ex l).2).1 (ann rt y ex l).1,(ann rt x ex (ann rt y ex l).2).2)
 | .cond c x y,ex,l => (.cond c (ann rt x ex l).1 (ann rt y ex l).1,uniN c.tmp (uniN (ann rt x ex l).2 (ann rt y ex l).2))
 | .block id x,ex,l => (.block id (ann rt x ((id,l) :: ex) l).1,(ann rt x ((id,l) :: ex) l).2)
 | .loop x,ex,l => (.loop (ann rt x ex (ann rt x ex []).2).1,(ann rt x ex []).2)
 | .exit id,ex,_ => (.exit id,exOf id ex)
 | .ret,_,_ => (.ret,rt)
 | .label i,_,l => (.label i,l)
 | .scope x,ex,l => (.scope (ann rt x ex l).1,(ann rt x ex l).2)
 | .rf g ps x y _,ex,l => (.rf g ps (ann rt x ex (ann rt y ex []).2).1 (ann rt y ex []).1 l,uniN g.tmp (uniN ((ann rt x ex (ann rt y ex []).2).2.filter fun t => !ps.contains t) (uniN rt (uniN (ex.flatMap (·.2)) l))))
 | .dead,_,_ => (.dead,[])
theorem ann_noRf {rt : List Nat} : ∀ {ac : AC} {ex l},(ann rt ac ex l).1.noRf = ac.noRf
 | .skip,ex,l => rfl
 | .rgn ..,ex,l => rfl
 | .drw ..,ex,l => rfl
 | .seq x y,ex,l => by simp only [ann,AC.noRf]; rw [ann_noRf,ann_noRf]
 | .cond _ x y,ex,l => by simp only [ann,AC.noRf]; rw [ann_noRf,ann_noRf]
 | .block _ x,ex,l => by simp only [ann,AC.noRf]; rw [ann_noRf]
 | .loop x,ex,l => by simp only [ann,AC.noRf]; rw [ann_noRf]
 | .exit _,ex,l => rfl
 | .ret,ex,l => rfl
 | .label _,ex,l => rfl
 | .scope x,ex,l => by simp only [ann,AC.noRf]; rw [ann_noRf]
 | .rf ..,ex,l => rfl
 | .dead,ex,l => rfl
theorem ann_fits {P : Program} {N : Nat} {rt : List Nat} : ∀ {ac : AC} {c : Code} {ex l},Fits P N c ac → Fits P N c (ann rt ac ex l).1
 | .skip,c,ex,l,h => by cases c <;> exact h
 | .rgn gs ks,c,ex,l,h => by cases c <;> exact h
 | .drw gs un ks,c,ex,l,h => by cases c <;> exact h
 | .seq x y,c,ex,l,h => by cases c <;> first | exact ⟨ann_fits h.1,ann_fits h.2⟩ | exact h
 | .cond d x y,c,ex,l,h => by cases c <;> first | exact ⟨h.1,ann_fits h.2.1,ann_fits h.2.2⟩ | exact h
 | .block id x,c,ex,l,h => by cases c <;> first | exact ⟨h.1,ann_fits h.2⟩ | exact h
 | .loop x,c,ex,l,h => by cases c <;> first | exact ann_fits (ac := x) h | exact h
 | .exit id,c,ex,l,h => by cases c <;> exact h
 | .ret,c,ex,l,h => by cases c <;> exact h
 | .label i,c,ex,l,h => by cases c <;> exact h
 | .scope x,c,ex,l,h => by cases c <;> first | exact ann_fits (ac := x) h | exact h
 | .rf g ps x y ks,c,ex,l,h => by
   cases c <;> first | exact h.elim | skip
   obtain ⟨h1,h2,h3,h4,h5,h6,h7⟩ := h
   exact ⟨h1,h2,h3,by rw [ann_noRf]; exact h4,by rw [ann_noRf]; exact h5,ann_fits h6,ann_fits h7⟩
 | .dead,c,ex,l,h => by cases c <;> exact h
end Go.AM

namespace Go.AM
open Go.RowKit
section
variable {F : Fence} {n : Nat} {P : Program} {Q : Exit → Act → World → Prop} {a : Act} {w : World}
theorem stepR_scope {b : Frame} {k : List Item} {cs : List Frame} {c : Code} : step P (lone (b.atR a (.code (.scope c) :: k)) cs w) = .next (lone (b.atR a (.code c :: .inScope c :: k)) cs w) :=
 step_lone_go (by simp [stepG,stepG.exec,Frame.atR])
theorem stepR_inScope {b : Frame} {k : List Item} {cs : List Frame} {c : Code} : step P (lone (b.atR a (.inScope c :: k)) cs w) = .next (lone (b.atR a k) cs w) :=
 step_lone_go (by simp [stepG,stepG.exec,Frame.atR])
theorem wpIn_scope_straight {c : Code} (h : c.wpIn F n P (Exit.noGoto Q) a w) : (Code.scope c).wpIn F n P Q a w := by
 intro b k cs hro hb hr
 have h0 : (lone (b.atR a (.code (.scope c) :: k)) cs w).fenced P F := fenced_calm hb hr rfl
 obtain ⟨e,a₁,w₁,hq,harr⟩ := h b (.inScope c :: k) cs hro hb hr
 cases e with
 | normal => exact ⟨.normal,a₁,w₁,hq,.head h0 stepR_scope (StepsIn.trans harr (.one (fenced_calm hb hr rfl) stepR_inScope))⟩
 | exit id =>
   have hx : exitTo id (.inScope c :: k) = exitTo id k := by simp [exitTo]
   exact ⟨.exit id,a₁,w₁,hq,fun k' hk => .head h0 stepR_scope (harr.1 k' (by rw [hx]; exact hk)),
    fun hr' hk => let ⟨k₁,h1,h2⟩ := harr.2 hr' (by rw [hx]; exact hk); ⟨k₁,h1,.head h0 stepR_scope h2⟩⟩
 | goto l => exact hq.elim
 | ret => exact ⟨_,a₁,w₁,hq,.of_steps (.one h0 stepR_scope) harr⟩
 | panic ch => exact ⟨_,a₁,w₁,hq,.of_steps (.one h0 stepR_scope) harr⟩
 | outgrown => exact ⟨_,a₁,w₁,hq,.of_steps (.one h0 stepR_scope) harr⟩
end
theorem HeapOK.allocX {hp g w} (h : HeapOK hp g w) (ob : Obj) : HeapOK hp g (w.alloc ob) ∧ Upd hp g w hp g (w.alloc ob) := by
 have tr : Trans w g (w.alloc ob) g := ⟨fun _ _ x => x,cell_alloc h.ex ob,fun _ _ x => x,fun b arr ty fz hb => ⟨arr,(Below.heap_alloc w ob b (Array.getElem?_eq_some_iff.1 hb).1).trans hb,rfl⟩,rfl,rfl,rfl,by simp,Nat.le_refl _⟩
 refine ⟨h.change (fun _ => False) tr (fun _ _ => rfl) (fun _ _ => rfl) (fun i o c d hi ho hl hr' => Below.heap_alloc _ _ _ (h.lt ho hl hr')) (fun i o c d hi ho hl hr' q hq => hq) (fun _ h => h.elim) (fun _ _ _ _ _ _ _ h => h.elim) (fun b q hs => ?_),tr,fun c hc => .inl hc,fun b q hs => .inl hs,fun b hb _ => Below.heap_alloc _ _ _ hb⟩
 obtain ⟨v,hv⟩ := h.ex b q hs
 exact ⟨v,(tr.cell b q hs).trans hv⟩
theorem HeapOK.mark {hp g w} (h : HeapOK hp g w) {id : Nat} (hn : hp id = none) (L : Loop) : HeapOK (Hp.set hp id .gone) (g.home id (.base L)) w ∧ Upd hp g w (Hp.set hp id .gone) (g.home id (.base L)) w := by
 have tr : Trans w g w (g.home id (.base L)) := ⟨fun _ _ x => x,fun _ _ _ => rfl,
  fun i l' hi => by
   have : i ≠ id := fun e => by subst e; rw [h.dom i hn] at hi; cases hi
   simp [G.home,this,hi],
  fun b arr ty fz hb => ⟨arr,hb,rfl⟩,rfl,rfl,rfl,Nat.le_refl _,Nat.le_refl _⟩
 refine ⟨h.change (fun i => i = id) tr (fun i hi => Hp.set_other _ _ hi) (fun i hi => by simp [G.home,hi]) (fun _ _ _ _ _ _ _ _ => rfl) (fun i o c d hi ho hl hr' q hq => hq) ?_ ?_ h.ex,tr,?_,fun b q hs => .inl hs,fun b hb _ => rfl⟩
 · rintro i rfl
   exact ⟨.gone,.base L,Hp.set_same _ _ _,by simp [G.home],trivial⟩
 · rintro i i' o o' c d d' rfl ho ho' hl hl' hr1 hr2
   rw [Hp.set_same] at ho; cases ho; cases hl
 · rintro c ⟨i,o,d,ho,hl,hr1⟩
   by_cases e : i = id
   · subst e; rw [Hp.set_same] at ho; cases ho; cases hl
   · rw [Hp.set_other _ _ e] at ho
     simp [G.home,e] at hr1
     exact .inl ⟨i,o,d,ho,hl,hr1⟩
abbrev mark (D : Nat) : Deferred := { target := .collected D,args := #[] }
theorem take_mark {hp0 g0 w0 hp g w} (h : HeapOK hp g w) (u : Upd hp0 g0 w0 hp g w) {D : Nat} (hD : w.heap[D]? = some (.deferred (some []))) (hl : ¬ Live hp g D) (hs : w0.heap.size ≤ D) :
 HeapOK hp g (w.putObj D (.deferred none)) ∧ Upd hp0 g0 w0 hp g (w.putObj D (.deferred none)) ∧ Trans w g (w.putObj D (.deferred none)) g := by
 have tr : Trans w g (w.putObj D (.deferred none)) g := ⟨fun _ _ x => x,fun b q _ => cell_putObj hD rfl rfl _,fun _ _ x => x,fun b a1 t1 f1 hb1 => by
  by_cases e : b = D
  · subst e; rw [hD] at hb1; cases hb1
  · exact ⟨a1,(World.putObj_heap_other e).trans hb1,rfl⟩,rfl,rfl,rfl,by simp,Nat.le_refl _⟩
 refine ⟨h.change (fun _ => False) tr (fun _ _ => rfl) (fun _ _ => rfl) (fun i o c d hi ho hlv hr' => World.putObj_heap_other (fun e => hl (e ▸ ⟨i,o,d,ho,hlv,hr'⟩))) (fun i o c d hi ho hl hr' q hq => hq) (fun _ h => h.elim) (fun _ _ _ _ _ _ _ h => h.elim) (fun b q hs => ?_),
  ⟨u.tr.trans tr,u.live,u.S,fun b hb hn => (World.putObj_heap_other (by omega)).trans (u.keep b hb hn)⟩,tr⟩
 obtain ⟨v,hv⟩ := h.ex b q hs
 exact ⟨v,(tr.cell b q hs).trans hv⟩
def DStep (w : World) (a : Act) (hp' : Hp) (g' : G) (w' : World) (a' : Act) : Prop :=
 ∃ ms : List Nat,a'.defers = ms.map mark ++ a.defers ∧ ms.Nodup ∧ ∀ D ∈ ms,w.heap.size ≤ D ∧ w'.heap[D]? = some (.deferred (some [])) ∧ ¬ Live hp' g' D
theorem DStep.nil {w a hp' g' w' a'} (h : a'.defers = a.defers) : DStep w a hp' g' w' a' := ⟨[],by simpa using h,List.nodup_nil,fun D h => by simp at h⟩
theorem DStep.keep {w a hp1 g1 w1 a1 hp2 g2 w2} (h : DStep w a hp1 g1 w1 a1) (u : Upd hp1 g1 w1 hp2 g2 w2) : DStep w a hp2 g2 w2 a1 := by
 obtain ⟨ms,h1,h2,h3⟩ := h
 refine ⟨ms,h1,h2,fun D hD => ?_⟩
 obtain ⟨k1,k2,k3⟩ := h3 D hD
 have hlt : D < w1.heap.size := (Array.getElem?_eq_some_iff.1 k2).1
 refine ⟨k1,(u.keep D hlt k3).trans k2,fun hl => ?_⟩
 rcases u.live D hl with h | h
 · exact k3 h
 · omega
theorem DStep.trans {w a hp1 g1 w1 a1 hp2 g2 w2 a2} (h : DStep w a hp1 g1 w1 a1) (hs : w.heap.size ≤ w1.heap.size) (u : Upd hp1 g1 w1 hp2 g2 w2) (k : DStep w1 a1 hp2 g2 w2 a2) : DStep w a hp2 g2 w2 a2 := by
 have h' := h.keep u
 obtain ⟨ms0,q1,q2,q3⟩ := h
 obtain ⟨ms,h1,h2,h3⟩ := h'
 obtain ⟨ms2,k1,k2,k3⟩ := k
 have hms : ms0 = ms := by
  have : ms0.map mark = ms.map mark := List.append_cancel_right (q1.symm.trans h1)
  have inj : Function.Injective mark := fun x y e => by simpa [mark] using e
  exact (List.map_inj_right (fun x y e => inj e)).1 this
 subst hms
 refine ⟨ms2 ++ ms0,by rw [k1,h1]; simp,?_,fun D hD => ?_⟩
 · rw [List.nodup_append]
   refine ⟨k2,h2,fun x hx y hy e => ?_⟩
   subst e
   have := (k3 x hx).1
   have := (Array.getElem?_eq_some_iff.1 (q3 x hy).2.1).1
   omega
 · rcases List.mem_append.1 hD with hD | hD
   · obtain ⟨c1,c2,c3⟩ := k3 D hD
     exact ⟨by omega,c2,c3⟩
   · exact h3 D hD
section
variable {P : Program} {E : HE} {N : Nat} {ro : Option Nat} {n : Nat}
def CallG (P : Program) (w1 : World) (g1 : G) (f : FuncId) (xs : List AV) (hp : List HObj) (K : AV → List HObj → Prop) : Prop :=
 ∀ (ro : Option Nat) (n : Nat) (w : World) (g : G) (vs : Array Value),HeapOK (hpf hp) g w → Trans w1 g1 w g → vs.size = xs.length → (∀ i (h : i < xs.length),Rep w g false xs[i] (vs.getD i undef)) →
   CallsIn (W ro) n P f vs w fun e w' => ∃ v r hp' g',e = .returned v ∧ K r hp' ∧ Rep w' g' false r v ∧ HeapOK (hpf hp') g' w' ∧ Upd (hpf hp) g w (hpf hp') g' w'
def RS (P : Program) (E : HE) : Prop :=
 ∀ (v : AV) (hp : List HObj) (H : List AV → List HObj → (AV → List HObj → Prop) → Prop) (K0 : List HObj → Prop),E.R v hp H K0 → ∃ f caps,v = .fn (.func f) [] caps ∧ funOK P f = true ∧
   ∀ (w1 : World) (g1 : G),(∀ xs hp' K',H xs hp' K' → YldG P w1 g1 hp.length xs hp' K') → CallG P w1 g1 f (.yl hp.length :: caps) (hp ++ [.lp .ready (hp.length + 1),.gone]) fun _ hp' => K0 hp'
def Lands (N : Nat) (st : St) (a : Act) (w : World) (g : G) (Q : Exit → St → Prop) (R : Exit → Act → World → Prop) : Prop :=
 ∀ e st' a' w' g',Q e st' → Sim N st' a' w' g' → Upd (hpf st.hp) g w (hpf st'.hp) g' w' → DStep w a (hpf st'.hp) g' w' a' → R e a' w'
theorem foldl_put_size (ps : List Nat) (vs : List Value) : ∀ (t : Array Value),((ps.zip vs).foldl (fun tmps (t,a) => tmps.setIfInBounds t a) t).size = t.size := by
 induction ps generalizing vs with
 | nil => intro t; rfl
 | cons p ps ih =>
   intro t
   cases vs with
   | nil => rfl
   | cons v vs => simp [ih]
theorem FrOK.putPs {w g} : ∀ {ps : List Nat} {xs : List AV} {vs : List Value} {fr : List (Nat × AV)} {t : Array Value} {df : List Deferred},(∀ p ∈ ps,p < t.size) → xs.length = ps.length → vs.length = ps.length → FrOK w g (get fr) { tmps := t,defers := df } →
 (∀ i (h : i < xs.length),Rep w g false xs[i] (vs.getD i undef)) → FrOK w g (get (AM.putPs ps xs fr)) { tmps := (ps.zip vs).foldl (fun tmps (t,a) => tmps.setIfInBounds t a) t,defers := df }
 | [],xs,vs,fr,t,df,hp,h1,h2,hF,hr => by
   have : xs = [] := List.eq_nil_of_length_eq_zero (by simpa using h1)
   subst this
   exact hF
 | p :: ps,[],vs,fr,t,df,hp,h1,h2,hF,hr => by simp at h1
 | p :: ps,x :: xs,[],fr,t,df,hp,h1,h2,hF,hr => by simp at h2
 | p :: ps,x :: xs,v :: vs,fr,t,df,hp,h1,h2,hF,hr => by
   simp only [AM.putPs,List.zip_cons_cons,List.foldl_cons]
   refine FrOK.putPs (fun q hq => by simpa using hp q (by simp [hq])) (by simpa using h1) (by simpa using h2) ?_ (fun i hi => by have := hr (i + 1) (by simpa using hi); simpa using this)
   have h0 := hr 0 (by simp)
   have := FrOK.put (d := some p) (r := x) (v := v) hF (fun k e => by cases e; exact hp _ (by simp)) (by simpa using h0)
   exact this
theorem lp_at {hp g w} (hok : HeapOK hp g w) {id mk : Nat} {s : LpSt} (ho : hp id = some (.lp s mk)) {L : Loop} (hL : g.ρ mk = some (.base L)) : ∃ c,g.ρ id = some (.blk c 0) ∧ w.heap[c]? = some (.loop { L with state := s.state,pending := s.pend }) ∧ ∀ o,¬ g.S c o := by
 obtain ⟨l,h1,h2⟩ := hok.rep id _ ho
 cases l with
 | virg => exact h2.elim
 | base L => exact h2.elim
 | blk c d =>
   obtain ⟨L',k0,k1,rfl,k3⟩ := h2
   rw [hL] at k0; cases k0
   exact ⟨c,h1,k1,k3⟩
theorem lp_put {hp : List HObj} {g w} (hok : HeapOK (hpf hp) g w) {id mk : Nat} {s s' : LpSt} (ho : hpf hp id = some (.lp s mk)) {L : Loop} (hL : g.ρ mk = some (.base L)) {c : Nat} (hc : g.ρ id = some (.blk c 0)) :
 HeapOK (hpf (setL hp id (.lp s' mk))) g (w.putObj c (.loop { L with state := s'.state,pending := s'.pend })) ∧ Upd (hpf hp) g w (hpf (setL hp id (.lp s' mk))) g (w.putObj c (.loop { L with state := s'.state,pending := s'.pend })) := by
 obtain ⟨c',k1,k2,k3⟩ := lp_at hok ho hL
 rw [hc] at k1; cases k1
 rw [hpf_set (Nat.le_of_lt (hpf_lt ho))]
 exact hok.putO ho rfl rfl hc k2 rfl rfl (fun tr hh => ⟨L,tr.ρ _ _ hL,hh,rfl,k3⟩)
end
end Go.AM

namespace Go.AM
open Go.RowKit
section
variable {P : Program} {E : HE} {N : Nat} {ro : Option Nat} {n : Nat}
theorem hpf_app2 (l : List HObj) (x y : HObj) : hpf (l ++ [x,y]) = Hp.set (Hp.set (hpf l) (l.length + 1) y) l.length x := by
 funext i
 simp only [hpf,Hp.set]
 by_cases e : i = l.length
 · subst e; simp
 · rw [if_neg e]
   by_cases e2 : i = l.length + 1
   · subst e2; simp
   · rw [if_neg e2]
     rcases Nat.lt_or_ge i l.length with h | h
     · rw [List.getElem?_append_left h]
     · rw [List.getElem?_eq_none (by simp; omega),List.getElem?_eq_none (by omega)]
theorem yld_of {w1 : World} {g1 : G} {g' : Operand} {ps : Array Tmp} {assign body : Code} {x y : AC} {a : Act} {fr : List (Nat × AV)} {id : Nat} {L : Loop} {c0 : Nat}
 (hsx : ∀ {st : St} {Q : Exit → St → Prop} {a : Act} {w : World} {g : G} {R : Exit → Act → World → Prop} {ro : Option Nat} {n : Nat},AWP P E x st Q → Trans w1 g1 w g → Sim N st a w g → Lands N st a w g Q R → assign.wpIn (W ro) n P R a w)
 (hsy : ∀ {st : St} {Q : Exit → St → Prop} {a : Act} {w : World} {g : G} {R : Exit → Act → World → Prop} {ro : Option Nat} {n : Nat},AWP P E y st Q → Trans w1 g1 w g → Sim N st a w g → Lands N st a w g Q R → body.wpIn (W ro) n P R a w)
 (hL : g1.ρ (id + 1) = some (.base L)) (hc0 : g1.ρ id = some (.blk c0 0)) (hLa : L.assign = assign) (hLb : L.body = body) (hLp : L.params = ps) (hLt : L.tmps = a.tmps) (hps : ∀ p ∈ ps.toList,p < N) (hN : a.tmps.size = N)
 (hF : FrOK w1 g1 (get fr) a) {xs : List AV} {hp : List HObj} {K : AV → List HObj → Prop}
 (hid : hpf hp id = some (.lp .ready (id + 1))) (hlen : xs.length = ps.toList.length)
 (h : AWP P E x { fr := putPs ps.toList xs fr,hp := hp } (Exit.th (fun st1 => hpf st1.hp id = some (.lp .ready (id + 1)) ∧ AWP P E y { fr := st1.fr,hp := setL st1.hp id (.lp .busy (id + 1)) } (RoundQ id K)) (fun _ _ => False))) :
 YldG P w1 g1 id xs hp K := by
 intro ro n w g c vs hok htr hc hvs hrep
 have hLg := htr.ρ _ _ hL
 have hcg := htr.ρ _ _ hc0
 rw [hc] at hcg
 simp only [Option.some.injEq,Loc.blk.injEq,and_true] at hcg
 subst hcg
 obtain ⟨c',k1,k2,k3⟩ := lp_at hok hid hLg
 rw [hc] at k1
 simp only [Option.some.injEq,Loc.blk.injEq,and_true] at k1
 subst k1
 have k2' : w.heap[c]? = some (.loop { L with state := .ready,pending := none }) := k2
 have hy0 := run_yield (P := P) (args := vs) k2' (by rw [hvs,hlen,hLp]; simp)
 refine ⟨L.fn,_,L.assign,L.body,hy0,roundIn_of_wpIn (by trivial) ?_⟩
 rw [hLa,hLb]
 show assign.wpIn (W (some c)) n P _ _ w
 have ht : (ps.zip vs).foldl (fun tmps (t,a) => tmps.setIfInBounds t a) a.tmps = (ps.toList.zip vs.toList).foldl (fun tmps (t,a) => tmps.setIfInBounds t a) a.tmps := by
  rw [← Array.foldl_toList,Array.toList_zip]
 have hsim : Sim N { fr := putPs ps.toList xs fr,hp := hp } { tmps := (L.params.zip vs).foldl (fun tmps (t,a) => tmps.setIfInBounds t a) L.tmps,defers := [] } w g := by
  refine ⟨?_,?_,hok⟩
  · rw [hLp,hLt,ht,foldl_put_size]; exact hN
  · rw [hLp,hLt,ht]
    refine FrOK.putPs (df := []) (fun p hp => by rw [hN]; exact hps p hp) hlen (by simp [hvs,hlen]) (fun i => (hF i).mono htr) (fun i hi => ?_)
    have := hrep i hi
    simpa [show i < vs.size by omega] using this
 refine hsx h htr hsim ?_
 intro e st1 a1 w2 g2 hq hs1 hu1 hd1
 cases e with
 | normal =>
   obtain ⟨hid1,hb⟩ := hq
   have hL2 := hu1.tr.ρ _ _ hLg
   have hc2 := hu1.tr.ρ _ _ hc
   obtain ⟨c',j1,j2,j3⟩ := lp_at hs1.2.2 hid1 hL2
   rw [hc2] at j1
   simp only [Option.some.injEq,Loc.blk.injEq,and_true] at j1
   subst j1
   have hbr := run_beginRound (P := P) (r := { L with state := .ready,pending := none }) j2 rfl
   obtain ⟨s1,s2⟩ := lp_put (s' := .busy) hs1.2.2 hid1 hL2 hc2
   refine ⟨_,hbr,?_⟩
   show body.wpIn (W (some c)) n P _ a1 _
   have hsim2 : Sim N { fr := st1.fr,hp := setL st1.hp id (.lp .busy (id + 1)) } a1 (w2.putObj c (.loop { L with state := .busy,pending := none })) g2 := ⟨hs1.1,fun i => (hs1.2.1 i).mono s2.tr,s1⟩
   refine hsy hb ((htr.trans hu1.tr).trans s2.tr) hsim2 ?_
   intro e3 st3 a3 w3 g3 hq3 hs3 hu3 hd3
   have hL3 := hu3.tr.ρ _ _ hL2
   have hc3 := hu3.tr.ρ _ _ hc2
   have fin : ∀ (jump : Option Code) (s' : LpSt) (b : Bool),hpf st3.hp id = some (.lp .busy (id + 1)) → K (B b) (setL st3.hp id (.lp s' (id + 1))) → b = jump.isNone → s'.state = (if jump.isNone then .ready else .done) → s'.pend = jump →
    ∃ v w',(Instr.endRound c jump).run P w3 = .ok v w' ∧ ∃ v' r hp' g',Ending.returned v = .returned v' ∧ K r hp' ∧ Rep w' g' false r v' ∧ HeapOK (hpf hp') g' w' ∧ Upd (hpf hp) g w (hpf hp') g' w' := fun jump s' b hb3 hK hbj hs' hp' => by
    obtain ⟨c',i1,i2,i3⟩ := lp_at hs3.2.2 hb3 hL3
    rw [hc3] at i1
    simp only [Option.some.injEq,Loc.blk.injEq,and_true] at i1
    subst i1
    have her := run_endRound (P := P) (r := { L with state := .busy,pending := none }) jump i2
    obtain ⟨u1,u2⟩ := lp_put (s' := s') hs3.2.2 hb3 hL3 hc3
    refine ⟨_,_,her,_,B b,_,g3,rfl,hK,by rw [hbj]; exact .v _ _,?_,?_⟩
    · rw [← hs',← hp']; exact u1
    · rw [← hs',← hp']; exact ((hu1.trans s2).trans hu3).trans u2
   cases e3 with
   | normal => exact fin none .ready true hq3.1 hq3.2 rfl rfl rfl
   | ret => exact fin (some .ret) (.done none) false hq3.1 hq3.2 rfl rfl rfl
   | exit i => exact fin (some (.exit i)) (.done (some i)) false hq3.1 hq3.2 rfl rfl rfl
   | _ => exact hq3.elim
 | _ => exact hq.elim
theorem fits_sound {w1 : World} {g1 : G} (hY : YS P E w1 g1) (hR : RS P E) : ∀ {ac : AC} {c : Code} {st : St} {Q : Exit → St → Prop} {a : Act} {w : World} {g : G} {R : Exit → Act → World → Prop} {ro : Option Nat} {n : Nat},
 Fits P N c ac → (ro = none ∨ ac.noRf = true) → AWP P E ac st Q → Trans w1 g1 w g → Sim N st a w g → Lands N st a w g Q R → c.wpIn (W ro) n P R a w
 | .skip,c,st,Q,a,w,g,R,ro,n,hf,hr,h,ht,hs,hl => by
   cases c <;> first | exact hf.elim | skip
   exact wpIn_skip (hl _ st a w g h hs (.refl _ _ _) (.nil rfl))
 | .rgn gs ks,c,st,Q,a,w,g,R,ro,n,hf,hr,h,ht,hs,hl => by
   cases c <;> first | exact hf.elim | skip
   rename_i id ops d
   obtain ⟨rfl,cl,hc,rfl⟩ := hf
   refine wpIn_region ?_
   rw [List.range_eq_range']
   have := aflat_sound (ro := ro) (n := n) (ops := ops) (Q := R) hY 0 (l := ops.toList) (by simp) hc (grp_sound h) ht hs (fun st' a' w' g' hK hs' hu hd => hl _ _ a' w' g' hK (hs'.keep ks) hu (.nil hd))
   simpa using this
 | .drw gs un ks,c,st,Q,a,w,g,R,ro,n,hf,hr,h,ht,hs,hl => by
   cases c <;> first | exact hf.elim | skip
   rename_i id ops d
   obtain ⟨rfl,hm,cl,pre,hc,hd,rfl⟩ := hf
   exact draw_sound hm hc hd h hs (fun st' a' w' g' hK hs' hu hd => hl _ _ a' w' g' hK (hs'.keep ks) hu (.nil hd))
 | .seq x y,c,st,Q,a,w,g,R,ro,n,hf,hr,h,ht,hs,hl => by
   cases c <;> first | exact hf.elim | skip
   rename_i c1 c2
   have hr1 : ro = none ∨ x.noRf = true := hr.imp (fun h => h) (fun h => by simp [AC.noRf] at h; exact h.1)
   have hr2 : ro = none ∨ y.noRf = true := hr.imp (fun h => h) (fun h => by simp [AC.noRf] at h; exact h.2)
   refine wpIn_seq (fits_sound hY hR hf.1 hr1 h ht hs fun e st' a' w' g' hq hs' hu hd => ?_)
   cases e with
   | normal => exact fits_sound hY hR hf.2 hr2 hq (ht.trans hu.tr) hs' (fun e st2 a2 w2 g2 q2 s2 u2 d2 => hl e st2 a2 w2 g2 q2 s2 (hu.trans u2) (hd.trans hu.tr.size u2 d2))
   | _ => exact hl _ _ _ _ _ hq hs' hu hd
 | .cond d x y,c,st,Q,a,w,g,R,ro,n,hf,hr,h,ht,hs,hl => by
   cases c <;> first | exact hf.elim | skip
   rename_i d' c1 c2
   have hr1 : ro = none ∨ x.noRf = true := hr.imp (fun h => h) (fun h => by simp [AC.noRf] at h; exact h.1)
   have hr2 : ro = none ∨ y.noRf = true := hr.imp (fun h => h) (fun h => by simp [AC.noRf] at h; exact h.2)
   obtain ⟨hd,h1,h2⟩ := hf
   simp only [AWP] at h
   split at h
   · rename_i t ht'
     have := ev_rep hs.2.1 hd
     rw [ht'] at this
     have hv : a.eval d' = .bool t := rep_v this
     exact wpIn_cond_split hv (fun e => fits_sound hY hR h1 hr1 (h.1 e) ht hs hl) (fun e => fits_sound hY hR h2 hr2 (h.2 e) ht hs hl)
   · exact h.elim
 | .block id x,c,st,Q,a,w,g,R,ro,n,hf,hr,h,ht,hs,hl => by
   cases c <;> first | exact hf.elim | skip
   obtain ⟨rfl,hf⟩ := hf
   refine wpIn_block (fits_sound hY hR hf hr h ht hs fun e st' a' w' g' hq hs' hu hd => ?_)
   cases e with
   | exit id' =>
     simp only [Exit.blk] at hq
     simp only [Exit.inBlock]
     split
     · rename_i e; rw [if_pos e] at hq; exact hl _ _ _ _ _ hq hs' hu hd
     · rename_i e; rw [if_neg e] at hq; exact hl _ _ _ _ _ hq hs' hu hd
   | _ => exact hl _ _ _ _ _ hq hs' hu hd
 | .loop x,c,st,Q,a,w,g,R,ro,n,hf,hr,h,ht,hs,hl => by
   cases c <;> first | exact hf.elim | skip
   rename_i c
   obtain ⟨α,I,C,μ,a0,h0,hle,hround⟩ := h
   have hf : Fits P N c x := hf
   obtain ⟨g2,hs1,hu1⟩ := hle N a w g hs
   let Inv : Nat → Act → World → Prop := fun m a' w' => ∃ b g',C b ∧ μ b = m ∧ Sim N (I b) a' w' g' ∧ Upd (hpf st.hp) g w (hpf (I b).hp) g' w' ∧ DStep w a (hpf (I b).hp) g' w' a'
   have loop : ∀ (m : Nat) (a' : Act) (w' : World),Inv m a' w' → (Code.loop c).wpIn (W ro) n P R a' w' := fun m => by
    intro a' w' hI
    refine wpIn_loop_ghost Inv m hI ?_
    intro m a' w' ⟨b,g',hb,hm,hs',hu',hd'⟩
    refine fits_sound hY hR hf hr (hround b hb) (ht.trans hu'.tr) hs' fun e st2 a2 w2 g2 q2 s2 u2 d2 => ?_
    cases e with
    | normal =>
      obtain ⟨b',hb',hlt,hle'⟩ := q2
      obtain ⟨g3,hs3,hu3⟩ := hle' N a2 w2 g2 s2
      exact ⟨μ b',by omega,b',g3,hb',rfl,hs3,(hu'.trans u2).trans hu3,(hd'.trans hu'.tr.size u2 d2).keep hu3⟩
    | _ => exact hl _ _ _ _ _ q2 s2 (hu'.trans u2) (hd'.trans hu'.tr.size u2 d2)
   exact loop (μ a0) a w ⟨a0,g2,h0,rfl,hs1,hu1,.nil rfl⟩
 | .exit id,c,st,Q,a,w,g,R,ro,n,hf,hr,h,ht,hs,hl => by
   cases c <;> first | exact hf.elim | skip
   cases hf
   exact wpIn_exit (hl _ st a w g h hs (.refl _ _ _) (.nil rfl))
 | .ret,c,st,Q,a,w,g,R,ro,n,hf,hr,h,ht,hs,hl => by
   cases c <;> first | exact hf.elim | skip
   exact wpIn_ret (hl _ st a w g h hs (.refl _ _ _) (.nil rfl))
 | .label i,c,st,Q,a,w,g,R,ro,n,hf,hr,h,ht,hs,hl => by
   cases c <;> first | exact hf.elim | skip
   exact wpIn_label (hl _ st a w g h hs (.refl _ _ _) (.nil rfl))
 | .scope x,c,st,Q,a,w,g,R,ro,n,hf,hr,h,ht,hs,hl => by
   cases c <;> first | exact hf.elim | skip
   refine wpIn_scope_straight (fits_sound hY hR (ac := x) hf hr h ht hs fun e st' a' w' g' hq hs' hu hd => ?_)
   cases e with
   | goto l => exact hq.elim
   | _ => exact hl _ _ _ _ _ hq hs' hu hd
 | .rf gg qs x y ks, c, st, Q, a, w, g, R, ro, n, hf, hr, h, ht, hs, hl => by
   cases c <;> first | exact hf.elim | skip
   rename_i g' ps assign body
   obtain ⟨hg,rfl,hps,nx,ny,hx,hy⟩ := hf
   have hro : ro = none := hr.resolve_right (by simp [AC.noRf])
   subst hro
   obtain ⟨K0,hK0,hend⟩ := h
   obtain ⟨f,caps,hv,hfun,hcall⟩ := hR _ _ _ _ hK0
   obtain ⟨id,hidd⟩ : ∃ id,id = st.hp.length := ⟨_,rfl⟩
   rw [← hidd] at hcall hend
   have eg := ev_rep hs.2.1 hg
   rw [hv] at eg
   generalize hgv : a.eval g' = gv at eg
   cases eg with
   | fn _ _ _ _ as bs la lb ra rb =>
     have las : as = [] := List.eq_nil_of_length_eq_zero (by simpa using la)
     subst las
     refine wpIn_rangeFunc ?_
     intro fn hfn
     obtain ⟨rec,hrec⟩ : ∃ rec : Loop,rec = { state := .ready,pending := none,fn,tmps := a.tmps,params := ps,assign,body,defers := w.heap.size } := ⟨_,rfl⟩
     obtain ⟨hok0,hu0⟩ := hs.2.2.allocX (.deferred (some []))
     have hn1 : hpf st.hp (id + 1) = none := by simp [hpf,hidd]
     obtain ⟨hokA,huA⟩ := hok0.mark hn1 rec
     have hn2 : Hp.set (hpf st.hp) (id + 1) .gone id = none := by rw [Hp.set_other _ _ (by omega)]; simp [hpf,hidd]
     have hsz : (w.alloc (.deferred (some []))).heap.size = w.heap.size + 1 := by simp
     obtain ⟨hokB,huB⟩ := hokA.allocO hn2 (.loop rec) (.lp .ready (id + 1)) (fun tr => ⟨rec,tr.ρ _ _ (by simp [G.home]),by rw [alloc_new,hrec]; rfl,rfl,fun q h => noS_new hok0 q h⟩)
     have hp2 : hpf (st.hp ++ [.lp .ready (id + 1),.gone]) = Hp.set (Hp.set (hpf st.hp) (id + 1) .gone) id (.lp .ready (id + 1)) := by rw [hidd]; exact hpf_app2 _ _ _
     rw [← hp2] at hokB huB
     obtain ⟨W1,hW1⟩ : ∃ W1,W1 = (w.alloc (.deferred (some []))).alloc (.loop rec) := ⟨_,rfl⟩
     rw [← hW1] at hokB huB
     obtain ⟨gB,hgB⟩ : ∃ gB,gB = (g.home (id + 1) (.base rec)).home id (.blk (w.alloc (.deferred (some []))).heap.size 0) := ⟨_,rfl⟩
     rw [← hgB] at hokB huB
     have hLB : gB.ρ (id + 1) = some (.base rec) := by rw [hgB]; simp [G.home]
     have hcB : gB.ρ id = some (.blk (w.heap.size + 1) 0) := by rw [hgB]; simp [G.home]
     have huw := (hu0.trans huA).trans huB
     have htw := ht.trans huw.tr
     have hrounds : ∀ xs hp' K',(hpf hp' id = some (.lp .ready (id + 1)) ∧ xs.length = ps.toList.length ∧
      AWP P E x { fr := putPs ps.toList xs st.fr,hp := hp' } (Exit.th (fun st1 => hpf st1.hp id = some (.lp .ready (id + 1)) ∧ AWP P E y { fr := st1.fr,hp := setL st1.hp id (.lp .busy (id + 1)) } (RoundQ id K')) (fun _ _ => False))) → YldG P W1 gB id xs hp' K' := fun xs hp' K' ⟨q1,q2,q3⟩ => by
      have hY' : YS P E W1 gB := fun i xs hp K hh ro n w g c vs k1 k2 k3 k4 k5 => hY i xs hp K hh ro n w g c vs k1 (htw.trans k2) k3 k4 k5
      exact yld_of (g' := g') (a := a) (fun {st Q a w g R ro n} f3 f4 f5 f6 => fits_sound hY hR hx (.inr nx) f3 (htw.trans f4) f5 f6) (fun {st Q a w g R ro n} f3 f4 f5 f6 => fits_sound hY hR hy (.inr ny) f3 (htw.trans f4) f5 f6) hLB hcB (by rw [hrec]) (by rw [hrec]) (by rw [hrec]) (by rw [hrec]) hps hs.1 (fun i => (hs.2.1 i).mono huw.tr) q1 q2 q3
     have hc := hcall W1 gB hrounds
     refine ⟨w.heap.size + 1,[mark w.heap.size],W1,{ target := .fn (.func f) bs.toArray,args := #[.func (.yield (w.heap.size + 1)) #[] #[]] },W1,f,#[.func (.yield (w.heap.size + 1)) #[] #[]] ++ bs.toArray,W1,?_,?_,fun _ _ => trivial,?_,fun h => by simp [Fence.wide] at h,?_⟩
     · rw [hW1,hrec]; exact run_enterLoop_outer _ _ _ _ _
     · simp only [resolve,hgv]
       simp [go_sem]
     · simp [invoke,run_callFunc hfun]
     · have hargs : ∀ i (h : i < (AV.yl id :: caps).length), Rep W1 gB false (AV.yl id :: caps)[i] ((#[Value.func (.yield (w.heap.size + 1)) #[] #[]] ++ bs.toArray).getD i undef) := fun i hi => by
        cases i with
        | zero => simpa using Rep.yl (w := W1) (g := gB) id (w.heap.size + 1) hcB
        | succ i =>
          have h2 := (rb i (by simpa using hi)).mono huw.tr
          simp only [List.getElem_cons_succ]
          simp only [Array.getD_eq_getD_getElem?,List.getD_eq_getElem?_getD] at h2 ⊢
          rw [Array.getElem?_append_right (by simp)]
          simpa using h2
       have hcc := hc none (n - 1) W1 gB (#[Value.func (.yield (w.heap.size + 1)) #[] #[]] ++ bs.toArray) hokB (.refl _ _) (by simp [lb]) hargs
       refine hcc.mono ?_
       · rintro e w2 ⟨v,r,hp',g2,rfl,hK,hrr,hok2,hu2⟩
         have he := hend hp' hK
         have hL2 := hu2.tr.ρ _ _ hLB
         have hc2 := hu2.tr.ρ _ _ hcB
         have hDB : W1.heap[w.heap.size]? = some (.deferred (some [])) := by
          rw [hW1]
          exact (Below.heap_alloc _ _ _ (by simp)).trans (alloc_new _ _)
         have hliveB : ¬ Live (hpf (st.hp ++ [.lp .ready (id + 1), .gone])) gB w.heap.size := by
          rintro ⟨i,o,d,ho,hl,hr⟩
          rw [hp2] at ho
          by_cases e : i = id
          · subst e; rw [hcB] at hr; simp at hr
          · rw [Hp.set_other _ _ e] at ho
            by_cases e2 : i = id + 1
            · subst e2; rw [Hp.set_same] at ho; cases ho; cases hl
            · rw [Hp.set_other _ _ e2] at ho
              rw [hgB] at hr
              simp [G.home,e,e2] at hr
              exact absurd (hs.2.2.lt ho hl hr) (Nat.lt_irrefl _)
         have hds : DStep w a (hpf (st.hp ++ [.lp .ready (id + 1),.gone])) gB W1 { a with defers := [mark w.heap.size] ++ a.defers } :=
          ⟨[w.heap.size],rfl,by simp,fun D hD => by simp at hD; subst hD; exact ⟨Nat.le_refl _,hDB,hliveB⟩⟩
         have fin : ∀ (s : LpSt) (mk : Nat) (Qe : Exit) (jump : Option Code),hpf hp' id = some (.lp s mk) → s.state ≠ .busy → s.pend = jump → (∀ g4 w4,Sim N { fr := st.fr,hp := setL hp' id .gone } { a with defers := [mark w.heap.size] ++ a.defers } w4 g4 → Upd (hpf st.hp) g w (hpf (setL hp' id .gone)) g4 w4 → DStep w a (hpf (setL hp' id .gone)) g4 w4 { a with defers := [mark w.heap.size] ++ a.defers } →
          (match jump with
           | none => R .normal { a with defers := [mark w.heap.size] ++ a.defers } w4
           | some c => c.wpIn (W none) n P R { a with defers := [mark w.heap.size] ++ a.defers } w4)) →
          ∃ jump w₄,(Instr.endLoop (w.heap.size + 1)).run P w2 = .ok jump w₄ ∧
          (match jump with
           | none => R .normal { a with defers := [mark w.heap.size] ++ a.defers } w₄
           | some c => c.wpIn (W none) n P R { a with defers := [mark w.heap.size] ++ a.defers } w₄) := fun s mk Qe jump hlp hst hpe hgo => by
          subst hpe
          have hmk : ∃ L',g2.ρ mk = some (.base L') ∧ w2.heap[w.heap.size + 1]? = some (.loop { L' with state := s.state,pending := s.pend }) := by
           obtain ⟨l,h1,h2⟩ := hok2.rep id _ hlp
           rw [hc2] at h1; cases h1
           obtain ⟨L',m0,m1,m2,m3⟩ := h2
           exact ⟨L',m0,m1⟩
          obtain ⟨L',hL',hlp2⟩ := hmk
          have hel := run_endLoop (P := P) (r := { L' with state := s.state,pending := s.pend }) hlp2 hst
          have hover : ∃ s' : LpSt,s'.state = .exhausted ∧ s'.pend = s.pend := by
           cases s with
           | ready => exact ⟨.over none,rfl,rfl⟩
           | busy => exact absurd rfl hst
           | done j =>
             cases j with
             | none => exact ⟨.over (some none),rfl,rfl⟩
             | some i => exact ⟨.over (some (some i)),rfl,rfl⟩
           | over j => exact ⟨.over j,rfl,rfl⟩
          obtain ⟨s',e1,e2⟩ := hover
          obtain ⟨u1,u2⟩ := lp_put (s' := s') hok2 hlp hL' hc2
          rw [e1,e2] at u1 u2
          have hidlt : id < hp'.length := hpf_lt hlp
          have hlp' : hpf (setL hp' id (.lp s' mk)) id = some (.lp s' mk) := by rw [hpf_set (Nat.le_of_lt hidlt)]; exact Hp.set_same _ _ _
          obtain ⟨v1,v2⟩ := u1.drop hlp'
          have hset : Hp.set (hpf (setL hp' id (.lp s' mk))) id .gone = hpf (setL hp' id .gone) := by
           rw [hpf_set (Nat.le_of_lt hidlt),hpf_set (Nat.le_of_lt hidlt),Hp.set_set]
          rw [hset] at v1 v2
          have hu4 := ((huw.trans hu2).trans u2).trans v2
          refine ⟨_,_,hel,?_⟩
          exact hgo g2 _ ⟨hs.1,fun i => (hs.2.1 i).mono hu4.tr,v1⟩ hu4 (((hds.keep hu2).keep u2).keep v2)
         simp only [RfEnd] at he
         show ∃ jump w₄,_ ∧ _
         split at he
         · rename_i hlp
           exact fin .ready _ .normal none hlp (by simp [LpSt.state]) rfl (fun g4 w4 s4 u4 d4 => hl _ _ _ _ g4 he (s4.keep ks) u4 d4)
         · rename_i hlp
           exact fin (.done none) _ .ret (some .ret) hlp (by simp [LpSt.state]) rfl (fun g4 w4 s4 u4 d4 => wpIn_ret (hl _ _ _ _ g4 he s4 u4 d4))
         · rename_i i _ hlp
           exact fin (.done (some i)) _ (.exit i) (some (.exit i)) hlp (by simp [LpSt.state]) rfl (fun g4 w4 s4 u4 d4 => wpIn_exit (hl _ _ _ _ g4 he s4 u4 d4))
         · exact he.elim
 | .dead,c,st,Q,a,w,g,R,ro,n,hf,hr,h,ht,hs,hl => h.elim
end
end Go.AM

namespace Go.AM
open Go.RowKit
section
variable {P : Program} {E : HE} {N : Nat} {ro : Option Nat} {n : Nat}
def argFr : Nat → List AV → List (Nat × AV)
 | _,[] => []
 | k,x :: xs => (k,x) :: argFr (k + 1) xs
theorem argFr_get : ∀ (xs : List AV) (k t : Nat),get (argFr k xs) t = if k ≤ t then xs.getD (t - k) .any else .any
 | [],k,t => by simp [argFr,get]
 | x :: xs, k, t => by
   simp only [argFr,get]
   split
   · rename_i e; subst e; simp
   · rename_i e
     rw [argFr_get xs (k + 1) t]
     by_cases h : k + 1 ≤ t
     · rw [if_pos h,if_pos (by omega)]
       obtain ⟨d,rfl⟩ : ∃ d,t = k + 1 + d := ⟨t - (k + 1),by omega⟩
       rw [show k + 1 + d - (k + 1) = d by omega,show k + 1 + d - k = d + 1 by omega]
       rfl
     · rw [if_neg h,if_neg (by omega)]
def resTmps : List ResultVar → Option (List Nat)
 | [] => some []
 | .tmp t :: r => (resTmps r).map (t :: ·)
 | _ => none
def resAV (ts : List Nat) (fr : List (Nat × AV)) : AV := match ts with
 | [t] => get fr t
 | _ => .tup (ts.map (get fr))
abbrev RC := List (Nat × Option (Bool × Nat))
def resCs (P : Program) : List ResultVar → Option RC
 | [] => some []
 | .tmp t :: r => (resCs P r).map ((t,none) :: ·)
 | .cell a t :: r => match tInfo P t,resCs P r with
   | some i,some l => some ((a,some i) :: l)
   | _,_ => none
def resC (hp : Hp) (fr : List (Nat × AV)) : RC → List AV → Prop
 | [],[] => True
 | (t,none) :: r,x :: xs => x = get fr t ∧ resC hp fr r xs
 | (a,some (agg,sz)) :: r,x :: xs => semLd hp x [] agg sz (get fr a) ∧ resC hp fr r xs
 | _,_ => False
def tupOf : List AV → AV
 | [x] => x
 | xs => .tup xs
theorem run_resC {hp g w} (hok : HeapOK hp g w) {fr : List (Nat × AV)} {a : Act} (hF : FrOK w g (get fr) a) : ∀ {rs : List ResultVar} {rc : RC} {xs : List AV} (f : ResultVar → Sem Value),
 (∀ t,f (.tmp t) = pure (a.tmps.getD t undef)) → (∀ b t,f (.cell b t) = (do loadVar t (← asAddr (a.tmps.getD b undef)))) → resCs P rs = some rc → resC hp fr rc xs →
 ∃ vs : List Value,(rs.mapM f).run P w = .ok vs w ∧ vs.length = xs.length ∧ ∀ i (h : i < xs.length),Rep w g false xs[i] (vs.getD i undef)
 | [],rc,xs,f,h1,h2,h,hx => by
   simp [resCs] at h; subst h
   cases xs with
   | nil => exact ⟨[],rfl,rfl,fun i hi => by simp at hi⟩
   | cons _ _ => exact hx.elim
 | .tmp t :: rs,rc,xs,f,h1,h2,h,hx => by
   simp only [resCs,Option.map_eq_some_iff] at h
   obtain ⟨l,h',rfl⟩ := h
   cases xs with
   | nil => exact hx.elim
   | cons x xs =>
     obtain ⟨rfl,hx⟩ := hx
     obtain ⟨vs,k1,k2,k3⟩ := run_resC hok hF f h1 h2 h' hx
     refine ⟨a.tmps.getD t undef :: vs,?_,by simp [k2],fun i hi => ?_⟩
     · rw [List.mapM_cons,h1]
       simp only [Sem.run_bind,Sem.run_pure,Result.andThen_ok,k1]
     · cases i with
       | zero => exact hF t
       | succ i => simpa using k3 i (by simpa using hi)
 | .cell b t :: rs, rc, xs, f, h1, h2, h, hx => by
   simp only [resCs] at h
   split at h
   · rename_i i l hi hl
     cases h
     obtain ⟨agg,sz⟩ := i
     cases xs with
     | nil => exact hx.elim
     | cons x xs =>
       obtain ⟨hld,hx⟩ := hx
       obtain ⟨vs,k1,k2,k3⟩ := run_resC hok hF f h1 h2 hl hx
       have e1 := hF b
       have main : ∃ v, ((do loadVar t (← asAddr (a.tmps.getD b undef)) : Sem Value)).run P w = .ok v w ∧ Rep w g false x v := by
        simp only [semLd] at hld
        split at hld
        · rename_i cs off hu
          rw [hu] at e1
          obtain ⟨c,q,hv,hrow⟩ := row_of_ptr e1
          obtain ⟨v,j1,j2⟩ := run_loadVar hi hrow hld.2
          exact ⟨v,by rw [hv]; simp [asAddr,j1],j2⟩
        · rename_i id off hu
          split at hld
          · rename_i cs hid
            rw [hu] at e1
            obtain ⟨c,q,hv,hrow,_⟩ := row_of_ref e1 hok hid
            obtain ⟨v,j1,j2⟩ := run_loadVar hi hrow hld.2
            exact ⟨v,by rw [hv]; simp [asAddr,j1],j2⟩
          · exact hld.elim
        · exact hld.elim
       obtain ⟨v,m1,m2⟩ := main
       refine ⟨v :: vs,?_,by simp [k2],fun i hi => ?_⟩
       · rw [List.mapM_cons,h2]
         simp only [Sem.run_bind,Result.andThen_ok] at m1 ⊢
         rw [m1]
         simp only [Result.andThen_ok,k1,Sem.run_pure]
       · cases i with
         | zero => exact m2
         | succ i => simpa using k3 i (by simpa using hi)
   · cases h
theorem run_resultsC {hp g w} (hok : HeapOK hp g w) {fr : List (Nat × AV)} {a : Act} (hF : FrOK w g (get fr) a) {fn : Func} {rc : RC} {xs : List AV} (h : resCs P fn.results.toList = some rc) (hx : resC hp fr rc xs) :
 ∃ v,(results fn a.tmps).run P w = .ok v w ∧ Rep w g false (tupOf xs) v := by
 simp only [results]
 rw [Array.mapM_eq_mapM_toList]
 simp only [Sem.run_bind,Sem.run_pure,map_eq_pure_bind]
 obtain ⟨vs,k1,k2,k3⟩ := run_resC hok hF (fun x => match x with | .tmp t => pure (a.tmps.getD t undef) | .cell b t => do loadVar t (← asAddr (a.tmps.getD b undef))) (fun _ => rfl) (fun _ _ => rfl) h hx
 have gen : xs.length ≠ 1 → ∃ v,(Result.ok (if h : vs.toArray.size = 1 then vs.toArray[0] else Value.tuple vs.toArray) w : Result Value) = .ok v w ∧ Rep w g false (.tup xs) v := fun hne => by
  refine ⟨.tuple vs.toArray,?_,.tup _ _ _ k2 k3⟩
  have : ¬ vs.toArray.size = 1 := by simp; omega
  rw [dif_neg this]
 have key : ∃ v,(Result.ok (if h : vs.toArray.size = 1 then vs.toArray[0] else Value.tuple vs.toArray) w : Result Value) = .ok v w ∧ Rep w g false (tupOf xs) v := by
  match xs,k2,k3,gen with
  | [],k2,k3,gen => exact gen (by simp)
  | [x], k2, k3, _ =>
    obtain ⟨v,rfl⟩ : ∃ v,vs = [v] := by
     cases vs with
     | nil => simp at k2
     | cons v vs => cases vs with
       | nil => exact ⟨v,rfl⟩
       | cons _ _ => simp at k2
    exact ⟨v,by simp,k3 0 (by simp)⟩
  | x :: y :: xs,k2,k3,gen => exact gen (by simp)
 obtain ⟨v,h1,h2⟩ := key
 refine ⟨v,?_,h2⟩
 refine (congrArg (fun r => Result.andThen (Result.andThen r (fun a w' => Result.ok a.toArray w')) (fun (a : Array Value) w' => Result.ok (if h : a.size = 1 then a[0] else Value.tuple a) w')) k1).trans ?_
 simp only [Result.andThen_ok,Sem.run_pure]
 exact h1
def RetC (rc : RC) (K : AV → List HObj → Prop) : Exit → St → Prop
 | .normal,st | .ret,st => ∃ xs,resC (hpf st.hp) st.fr rc xs ∧ K (tupOf xs) st.hp
 | _,_ => False
theorem leaves_marks {fn : Func} {tmps : Array Value} {R : Ending → World → Prop} : ∀ (ms : List Nat) (w : World),ms.Nodup → (∀ D ∈ ms,w.heap[D]? = some (.deferred (some []))) →
 (∃ v,(results fn tmps).run P (ms.foldl (fun w D => w.putObj D (.deferred none)) w) = .ok v (ms.foldl (fun w D => w.putObj D (.deferred none)) w) ∧ R (.returned v) (ms.foldl (fun w D => w.putObj D (.deferred none)) w)) →
 LeavesInM (W ro) n P fn tmps R (ms.map mark) .returning w
 | [],w,hn,hD,h => h
 | D :: ms,w,hn,hD,h => by
   refine ⟨by simp,.inl ⟨D,_,rfl,run_takeDeferred (hD D (by simp)),?_⟩⟩
   rw [List.nodup_cons] at hn
   exact leaves_marks ms _ hn.2 (fun D' hD' => (World.putObj_heap_other (fun e => hn.1 (by rw [← e]; exact hD'))).trans (hD D' (by simp [hD']))) h
theorem take_marks {hp0 g0 w0 hp g} : ∀ (ms : List Nat) (w : World),ms.Nodup → (∀ D ∈ ms,w0.heap.size ≤ D ∧ w.heap[D]? = some (.deferred (some [])) ∧ ¬ Live hp g D) → HeapOK hp g w → Upd hp0 g0 w0 hp g w →
 HeapOK hp g (ms.foldl (fun w D => w.putObj D (.deferred none)) w) ∧ Upd hp0 g0 w0 hp g (ms.foldl (fun w D => w.putObj D (.deferred none)) w) ∧ Trans w g (ms.foldl (fun w D => w.putObj D (.deferred none)) w) g
 | [],w,hn,hD,h,u => ⟨h,u,.refl _ _⟩
 | D :: ms,w,hn,hD,h,u => by
   rw [List.nodup_cons] at hn
   obtain ⟨k1,k2,k3⟩ := hD D (by simp)
   obtain ⟨h1,u1,t1⟩ := take_mark h u k2 k3 k1
   obtain ⟨h2,u2,t2⟩ := take_marks ms _ hn.2 (fun D' hD' => by
    obtain ⟨q1,q2,q3⟩ := hD D' (by simp [hD'])
    exact ⟨q1,(World.putObj_heap_other (fun e => hn.1 (by rw [← e]; exact hD'))).trans q2,q3⟩) h1 u1
   exact ⟨h2,u2,t1.trans t2⟩
theorem callG_of {w1 : World} {g1 : G} (hY : YS P E w1 g1) (hR : RS P E) {f : FuncId} {fn : Func} {c : Code} {ac : AC} {rc : RC} {xs : List AV} {hp : List HObj} {K : AV → List HObj → Prop} (hf : P.funcs[f]? = some fn) (hb : fn.body = some c) (hc : Fits P fn.ntmps c ac)
 (hr : resCs P fn.results.toList = some rc) (hl : xs.length ≤ fn.ntmps) (h : AWP P E ac { fr := argFr 0 xs,hp := hp } (RetC rc K)) : CallG P w1 g1 f xs hp K := by
 intro ro n w g vs hok htr hvs hrep
 have go : CallsIn (W none) n P f vs w fun e w' => ∃ v r hp' g', e = .returned v ∧ K r hp' ∧ Rep w' g' false r v ∧ HeapOK (hpf hp') g' w' ∧ Upd (hpf hp) g w (hpf hp') g' w' := by
  refine callsIn_of_wp_marks hf hb trivial (fits_sound hY hR hc (.inl rfl) h htr (g := g) ?_ ?_) rfl
  · refine ⟨by simp [hvs]; omega,fun t => ?_,hok⟩
    show Rep w g false (get (argFr 0 xs) t) _
    rw [argFr_get]
    simp only [Nat.zero_le,if_true,Nat.sub_zero]
    by_cases ht : t < xs.length
    · have e1 : xs.getD t .any = xs[t] := by simp [ht]
      rw [e1]
      have := hrep t ht
      simp only [Array.getD_eq_getD_getElem?] at this ⊢
      rw [Array.getElem?_append_left (by omega)]
      exact this
    · have e1 : xs.getD t .any = .any := by simp [Nat.le_of_not_lt ht]
      rw [e1]; exact .any _ _
  · intro e st' a' w' g' hq hs hu hd
    obtain ⟨ms,d1,d2,d3⟩ := hd
    simp only [List.append_nil] at d1
    have fin : (∃ xs,resC (hpf st'.hp) st'.fr rc xs ∧ K (tupOf xs) st'.hp) → LeavesInM (W none) n P fn a'.tmps (fun e w' => ∃ v r hp' g',e = .returned v ∧ K r hp' ∧ Rep w' g' false r v ∧ HeapOK (hpf hp') g' w' ∧ Upd (hpf hp) g w (hpf hp') g' w') a'.defers .returning w' := fun ⟨ys,hy,hK⟩ => by
     rw [d1]
     obtain ⟨k1,k2,k3⟩ := take_marks ms w' d2 d3 hs.2.2 hu
     refine leaves_marks ms w' d2 (fun D hD => (d3 D hD).2.1) ?_
     obtain ⟨v,j1,j2⟩ := run_resultsC (P := P) k1 (fun i => (hs.2.1 i).mono k3) hr hy
     exact ⟨v,j1,v,_,_,g',rfl,hK,j2,k1,k2⟩
    cases e with
    | normal => exact fin hq
    | ret => exact fin hq
    | _ => exact hq.elim
 exact go
def noY : Nat → List AV → List HObj → (AV → List HObj → Prop) → Prop := fun _ _ _ _ => False
def noR : AV → List HObj → (List AV → List HObj → (AV → List HObj → Prop) → Prop) → (List HObj → Prop) → Prop := fun _ _ _ _ => False
def formOf (P : Program) (fn : Func) (ts : List Nat) : Option AC := fn.body.map fun c => (ann ts (comp P fn.ntmps c) [] ts).1
def R1 (P : Program) : AV → List HObj → (List AV → List HObj → (AV → List HObj → Prop) → Prop) → (List HObj → Prop) → Prop := fun v hp H K0 =>
 ∃ f caps fn ac ts rc,v = .fn (.func f) [] caps ∧ funOK P f = true ∧ P.funcs[f]? = some fn ∧ formOf P fn ts = some ac ∧ resCs P fn.results.toList = some rc ∧ caps.length + 1 ≤ fn.ntmps ∧
   AWP P ⟨fun id xs hp' K => id = hp.length ∧ H xs hp' K,noR⟩ ac { fr := argFr 0 (.yl hp.length :: caps),hp := hp ++ [.lp .ready (hp.length + 1),.gone] } (RetC rc fun _ hp' => K0 hp')
def E1 (P : Program) : HE := ⟨noY,R1 P⟩
theorem rs_none {Y} : RS P ⟨Y,noR⟩ := fun _ _ _ _ h => h.elim
theorem rs_E1 : RS P (E1 P) := by
 rintro v hp H K0 ⟨f,caps,fn,ac,ts,rc,rfl,hfun,hf,hc,hr,hl,h⟩
 refine ⟨f,caps,rfl,hfun,fun w1 g1 hH => ?_⟩
 simp only [formOf,Option.map_eq_some_iff] at hc
 obtain ⟨c,hb,rfl⟩ := hc
 exact callG_of (E := ⟨fun id xs hp' K => id = hp.length ∧ H xs hp' K,noR⟩) (fun id xs hp' K ⟨e,hh⟩ => by subst e; exact hH xs hp' K hh) rs_none hf hb (ann_fits (comp_fits c)) hr (by simp; omega) h
theorem ys_E1 {w1 g1} : YS P (E1 P) w1 g1 := fun _ _ _ _ h => h.elim
theorem callW_of {f : FuncId} {fn : Func} {ac : AC} {ts : List Nat} {rc : RC} {xs : List AV} {hp : List HObj} {K : AV → List HObj → Prop} (hf : P.funcs[f]? = some fn) (hc : formOf P fn ts = some ac)
 (hr : resCs P fn.results.toList = some rc) (hl : xs.length ≤ fn.ntmps) (h : AWP P (E1 P) ac { fr := argFr 0 xs,hp := hp } (RetC rc K)) : CallW P f xs hp K := by
 simp only [formOf,Option.map_eq_some_iff] at hc
 obtain ⟨c,hb,rfl⟩ := hc
 exact fun ro n w g vs hok hvs hrep => callG_of (E := E1 P) (w1 := w) (g1 := g) ys_E1 rs_E1 hf hb (ann_fits (comp_fits c)) hr hl h ro n w g vs hok (.refl _ _) hvs hrep
theorem resTmps_C : ∀ {rs : List ResultVar} {ts : List Nat},resTmps rs = some ts → resCs P rs = some (ts.map (·,none))
 | [],ts,h => by simp [resTmps] at h; subst h; rfl
 | .tmp t :: r,ts,h => by
   simp only [resTmps,Option.map_eq_some_iff] at h
   obtain ⟨ts',h',rfl⟩ := h
   simp [resCs,resTmps_C h']
 | .cell a t :: r,ts,h => by cases h
theorem resC_tmps {hp : Hp} {fr : List (Nat × AV)} : ∀ (ts : List Nat) (xs : List AV),resC hp fr (ts.map (·,none)) xs ↔ xs = ts.map (get fr)
 | [],[] => by simp [resC]
 | [],x :: xs => by simp [resC]
 | t :: ts,[] => by simp [resC]
 | t :: ts,x :: xs => by simp [resC,resC_tmps ts xs]
theorem resAV_tup (ts : List Nat) (fr : List (Nat × AV)) : tupOf (ts.map (get fr)) = resAV ts fr := by
 match ts with
 | [] => rfl
 | [t] => rfl
 | t :: u :: r => rfl
def RetQ (ts : List Nat) (K : AV → List HObj → Prop) : Exit → St → Prop
 | .normal,st | .ret,st => K (resAV ts st.fr) st.hp
 | _,_ => False
theorem retC_tmps {ts : List Nat} {K : AV → List HObj → Prop} : RetC (ts.map (·,none)) K = RetQ ts K := by
 have key : ∀ st : St,(∃ xs,resC (hpf st.hp) st.fr (ts.map (·,none)) xs ∧ K (tupOf xs) st.hp) = K (resAV ts st.fr) st.hp := fun st => propext ⟨fun ⟨xs,h1,h2⟩ => by
  rw [resC_tmps] at h1; subst h1; rw [resAV_tup] at h2; exact h2,fun h => ⟨_,(resC_tmps _ _).2 rfl,by rw [resAV_tup]; exact h⟩⟩
 funext e st
 cases e <;> first | exact key st | rfl
theorem callW_form {f : FuncId} {fn : Func} {ac : AC} {ts : List Nat} {xs : List AV} {hp : List HObj} {K : AV → List HObj → Prop} (hf : P.funcs[f]? = some fn) (hc : formOf P fn ts = some ac) (hr : resTmps fn.results.toList = some ts)
 (hl : xs.length ≤ fn.ntmps) (h : AWP P (E1 P) ac { fr := argFr 0 xs,hp := hp } (RetQ ts K)) : CallW P f xs hp K :=
 callW_of hf hc (resTmps_C hr) hl (by rw [retC_tmps]; exact h)
def G.bare (g : G) : G := { S := g.S,ρ := fun _ => none }
theorem HeapOK.bare {hp g w} (h : HeapOK hp g w) : HeapOK (fun _ => none) g.bare w :=
 ⟨fun _ _ => rfl,fun _ _ h => (by cases h),fun _ _ _ _ _ _ _ h => (by cases h),h.ex,h.tab⟩
theorem Upd.bare {g w hp' g' w'} (h0 : HeapOK (fun _ => none) g w) (h : Upd (fun _ => none) g w hp' g' w') : Upd (fun _ => none) g w (fun _ => none) g'.bare w' :=
 ⟨⟨h.tr.S,h.tr.cell,fun id l hl => (by rw [h0.dom id rfl] at hl; cases hl),h.tr.shp,h.tr.os,h.tr.tape,h.tr.output,h.tr.size,h.tr.drawn⟩,fun c ⟨_,_,_,h,_⟩ => (by cases h),h.S,h.keep⟩
theorem Rep.bare {w g v x} (h : Rep w g true x v) : Rep w g.bare true x v := by
 generalize hp : true = p at h
 induction h with
 | v p x => exact .v _ x
 | any p x => exact .any _ x
 | sl p full n cs a cap vs hn hf hc hr ih => exact .sl _ full n cs a cap vs hn hf hc (fun i h => ih i h rfl)
 | agg p cs vs hl hr ih => exact .agg _ cs vs hl (fun i h => ih i h hp)
 | tup p cs vs hl hr ih => exact .tup _ cs vs hl (fun i h => ih i h hp)
 | ptr p cs off b o vs hc hr ih => exact .ptr _ cs off b o vs hc (fun i h => ih i h rfl)
 | ref => cases hp
 | ms => cases hp
 | msz => cases hp
 | fn p f as bs xs ys hl hl' hr hr' ih ih' => exact .fn _ f as bs xs ys hl hl' (fun i h => ih i h hp) (fun i h => ih' i h hp)
 | mp => cases hp
 | mc => cases hp
 | mcz => cases hp
 | yl => cases hp
def Out (r : AV) (x : AV) (hp : List HObj) : Prop := ∃ is,purify (hpf hp) x = some (r,is)
theorem pure_of {f : FuncId} {xs : List AV} {r : AV} (h : CallW P f xs [] (Out r)) : PureOK P f xs r := by
 intro ro n w g vs hok hvs hrep
 have e0 : hpf [] = fun _ => none := by funext i; simp [hpf]
 refine (h ro n w g vs (by rw [e0]; exact hok) hvs (fun i hi => (hrep i hi).of)).mono ?_
 rintro e w' ⟨v,x,hp',g',rfl,⟨is,hpur⟩,hx,hok',hu⟩
 rw [e0] at hu
 have q := purify_rep hok' (ids := is) hpur (fun i hi => hi) hx
 obtain ⟨k1,k2⟩ := hok'.giveAll is (purify_ids hpur)
 exact ⟨v,_,rfl,q.bare,k1.bare,(hu.trans k2).bare hok⟩
end
end Go.AM
