/-
  KxW1: texts joined: Nt23. Own work.
-/
import Derived.Test.YtopelhnmgjkneaaGreatDoorKn7
set_option linter.all false
set_option linter.unusedSimpArgs false
set_option linter.unusedVariables false
set_option linter.unusedSectionVars false

namespace Go.AM
open Go.RowKit
def qwy (c : UInt8) : List (List UInt8) → List UInt8
 | []=>[]
 | [x]=>x
 | x::y::l=>x++c::qwy c (y::l)
theorem qwx (c : UInt8) : ∀ s : List UInt8,qwy c (qM c s) = s
 | []=>rfl
 | b::r=>by
   have ih:=qwx c r
   unfold qM
   by_cases hb:b=c
   · rw [if_pos hb]
     cases hs:qM c r with
     | nil=>exact absurd hs (Jz c r)
     | cons x xs =>
       rw [hs] at ih
       show []++c::qwy c (x::xs)=_
       rw [ih,hb];rfl
   · rw [if_neg hb]
     cases hs:qM c r with
     | nil=>exact absurd hs (Jz c r)
     | cons x xs =>
       rw [hs] at ih
       cases xs with
       | nil =>
         have ih:x=r:=ih
         show b::x=b::r
         rw [ih]
       | cons y ys =>
         have ih:x++c::qwy c (y::ys)=r:=ih
         show b::x++c::qwy c (y::ys)=b::r
         rw [←ih];rfl
theorem qws {c : UInt8} : ∀ {x : List UInt8} {l : List (List UInt8)},qwy c (x :: l) = x ++ l.flatMap (fun y => c :: y)
 | x,[]=>by simp [qwy]
 | x,y::l=>by
   show x++c::qwy c (y::l)=_
   rw [qws,List.flatMap_cons];simp
theorem qwt : ∀ {l : List (List UInt8)} {ws : List Wd},zg l = some ws → ws.map qjf = l
 | [],ws,h=>by simp [zg] at h;subst h;rfl
 | s::l, ws, h=>by
   simp only [zg] at h
   split at h
   · rename_i w ws' h1 h2
     cases h
     rw [List.map_cons,qle h1,qwt h2]
   · cases h
theorem qwA {l:List (List UInt8)} {x:Ln} (h:qhF l=some x):qp2 x=qwy 32 l:=by
 unfold qhF at h
 split at h
 · cases h
 · rename_i a l
   split at h
   · rename_i ha
     split at h
     · cases h
     · rename_i n ws
       split at h
       · cases hw:zg ws with
         | none=>rw [hw] at h;cases h
         | some w =>
           rw [hw] at h
           cases h
           have hb:=qwt hw
           rw [qws,←hb,ha]
           unfold qp2
           simp only [show ¬ (1:Int)=2 by decide,show ¬ (1:Int)=5 by decide,show ¬ (1:Int)=6 by decide,show ¬ (1:Int)=4 by decide,if_false,if_true,List.flatMap_cons,List.flatMap_map]
           simp
       · cases h
   · split at h
     · rename_i ha
       split at h
       · rename_i w
         cases hw:zg [w] with
         | none=>rw [hw] at h;cases h
         | some ws =>
           rw [hw] at h
           cases h
           have hb:=qwt hw
           rw [qws,←hb,ha]
           unfold qp2
           simp only [show ¬ (3:Int)=2 by decide,show ¬ (3:Int)=5 by decide,show ¬ (3:Int)=6 by decide,show ¬ (3:Int)=4 by decide,show ¬ (3:Int)=1 by decide,if_false,List.flatMap_map]
       · cases h
     · split at h
       · rename_i ha
         split at h
         · rename_i n
           split at h
           · rename_i hn
             cases h
             rw [qws,ha]
             unfold qp2
             simp only [show ¬ (4:Int)=2 by decide,show ¬ (4:Int)=5 by decide,show ¬ (4:Int)=6 by decide,if_false,if_true,qmK hn]
             simp
           · cases h
         · cases h
       · split at h
         · rename_i hl
           subst hl
           split at h
           · rename_i ha;cases h;rw [ha];rfl
           · split at h
             · rename_i ha;cases h;rw [ha];rfl
             · split at h
               · rename_i ha;cases h;rw [ha];rfl
               · cases h
         · cases h
theorem qwB {s:List UInt8} (h:jc s=0):qp2 (zd s)=s:=by
 unfold jc at h
 unfold zd
 split at h
 · rename_i hs
   rw [if_pos hs]
   cases hp:WY s with
   | none=>rw [hp] at h;cases h
   | some x=>exact (qwA hp).trans (qwx 32 s)
 · cases h
theorem qwC {s:List UInt8} (h:jc s=0):qnh (zd s)=0∧qni (zd s)=s:=by
 have hb:=qwB h
 have ho:Xi (zd s)=true:=by
  unfold Xi
  rw [hb,h]
  simp only [Bool.and_eq_true,decide_eq_true_eq,and_true]
  exact (WB h).len
 unfold qnh qni
 rw [ho]
 exact ⟨rfl,hb⟩
end Go.AM
