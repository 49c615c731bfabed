/-
  Pt2: texts joined: Am10b Am10c Am10d Am11 Am12 Am13 Am14 Am15 Am16 Am17 Am17b Am17c. Own work.
-/
import Derived.Test.YtlahcgdnieenpaaGreatDoorPt1
import Derived.Laws.StructEq
import Derived.ChangeKeysEq
import Derived.RangeFuncOwn
import Derived.Lib.ConvBytes
import Derived.Laws.AppendOwn
import Derived.Laws.BytesArg
import Derived.OrdersIn
import Derived.Sort.LoopGhostIn
set_option linter.all false
set_option linter.unusedSimpArgs false
set_option linter.unusedVariables false
set_option linter.unusedSectionVars false

namespace Go.AM
def qmu:=@Nat.le_of_lt
def qmA:=@if_true
def qmE:=@decide_eq_true_eq
def qmH:=@List.flatMap_cons
def qmL:=@List.map_congr_left
def qmO:=@List.mem_range
def qmP:=@List.cons_append
def qmW:=@Array.getElem?_eq_getElem
def qmZ:=@Bool.not_eq_true'
def qm1:=@List.getElem?_eq_none
def qm2:=@Bool.or_eq_true
def qm5:=@List.length_cons
def qnf:=@Go.World.putObj_heap_other
def qnh:=@List.length_eraseIdx
def qnk:=@List.drop_drop
def qnn:=@List.getElem?_map
def qnq:=@Option.some.inj
def qnr:=@List.getElem_set_ne
def qns:=@List.nodup_append
def qnB:=@Bool.eq_iff_iff
def qnC:=@List.length_singleton
def qnG:=@List.any_eq_true
def qnH:=@congrArg
def qnI:=@List.filterMap_cons
def qnM:=@List.mem_append_right
def qnR:=@List.mem_append_left
def qnT:=@Nat.lt_trichotomy
def qoa:=@LawfulBEq.eq_of_beq
def qob:=@List.mem_flatMap
def qod:=@Nat.add_lt_add_iff_right
def qoj:=@List.cons.injEq
def qok:=@List.filterMap_nil
def qop:=@List.filter_eq_nil_iff
def qox:=@Array.getElem_toList
def qoz:=@List.range'_succ
def qoD:=@Option.getD_some
def qoE:=@beq_self_eq_true
def qoF:=@Bool.not_true
def qoK:=@Nat.eq_or_lt_of_le
def qoL:=@Nat.sub_zero
def qoM:=@and_true
def qoS:=@List.getElem?_set
def qoV:=@Array.mem_filter
def qoW:=@List.flatMap_nil
def qo1:=@Nat.zero_lt_succ
def qo4:=@Go.Lib.bytesWorld_at_old
def qo8:=@List.find?_cons
def qo9:=@List.mem_filter
def qpa:=@List.range_eq_range'
def qpd:=@Nat.succ_mul
def qpk:=@decide_true
def qpo:=@List.findIdx?_cons
def qpp:=@List.zip_cons_cons
def qpq:=@cond_true
def qpx:=@Array.mem_append
def qpB:=@List.isEmpty_iff
def qpC:=@Nat.add_comm
def qpG:=@Go.wpIn_loop_ghost
def qpH:=@Go.wpIn_region_any
def qpL:=@Go.wpIn_rangeFunc
end Go.AM
namespace Go.AM
open Go.RowKit
variable {f:FuncId} {p u:Hp} {ks:KS} {w:List (Nat×HObj)} {l:List HObj} {s:List Nat} {L:Loop} {k c C j d N i:Nat} {O:Obj} {o:Oper} {x m y:Operand} {P:Program} {t e kt:TypeId} {a b:Value}
def jl:Option TypeDesc->Bool
 | some (.struct _) | some (.array _ _)=>true
 | _=>false
def Ix:Nat->List Leaf->List Leaf
 | 0,_=>[]
 | n+1,l=>l++Ix n l
def Kt (P:Program) (t:TypeId):Option (List Leaf)->Option (List Leaf)
 | some l=>if (qW P t).map (·.2)=some l.length then some l else none
 | none=>none
def WG (L:TypeId->Option (List Leaf)):List Field->Nat->Option (List Leaf)
 | [],_=>some []
 | f::s,off=>match L f.type with
   | some l => if f.offset = off ∧ f.name ≠ "_" then (WG L s (off + l.length)).map (l ++ ·) else none
   | none=>none
def Zb (P:Program):Nat->TypeId->Option (List Leaf)
 | 0,_=>none
 | n+1,t=>Kt P t (match P.underlying t with
   | some (.int _)=>some [.int]
   | some .bool=>some [.bool]
   | some .string=>some [.str]
   | some (.array k e)=>(Zb P n e).map (Ix k)
   | some (.struct f)=>if P.stoodInHeld t then none else WG (Zb P n) f.toList 0
   | _=>none)
abbrev Vm (P:Program) (n:Nat):List Field->Nat->Option (List Leaf):=WG (Zb P n)
theorem jj:∀ {L u:List Leaf} {X Y:List Value} {z:Bool},qo (L++u) X Y=some z ->
 ∃ Z,qo L (X.take L.length) (Y.take L.length)=some Z/\(Z=false->z=false)/\(Z=true->qo u (X.drop L.length) (Y.drop L.length)=some z)
 | [],u,X,Y,z,h=>⟨true,by simp [qo],by simp,fun _=>by simpa using h⟩
 | l::L,u,[],Y,z,h=>by simp [qo] at h
 | l::L,u,x::X,[],z,h=>by simp [qo] at h
 | l::L,u,x::X,y::Y,z,h=>by
   simp only [qmP,qo] at h;simp only [qm5,List.take_succ_cons,List.drop_succ_cons,qo];cases hl:Qb l x y with
   | none=>rw [hl] at h;cases h
   | some b =>
     rw [hl] at h;cases b with
     | false=>cases h;exact ⟨false,rfl,fun _=>rfl,by simp⟩
     | true=>exact jj h
theorem HK {P:Program} {l:Leaf} (d:Nat) (w:World) (h:(l = .int/\∃ k,P.underlying t=some (.int k))\/(l = .bool/\P.underlying t=some .bool)\/(l = .str/\P.underlying t=some .string))
 {z:Bool} (u:Qb l a b=some z):(Op.equalIn (d+1) t a b).run P w = .ok z w:=by
 rcases h with ⟨rfl,k,v⟩ | ⟨rfl,v⟩ | ⟨rfl,v⟩
 . cases a <;> cases b <;> simp only [Qb,reduceCtorEq] at u;split at u
   . rename_i e;subst e;simp at u;subst u;simp [Op.equalIn,CC v]
   cases u
 . cases a <;> cases b <;> simp only [Qb,reduceCtorEq] at u;simp at u;subst u;simp [Op.equalIn,CC v]
 cases a <;> cases b <;> simp only [Qb,reduceCtorEq] at u;simp at u;subst u;simp [Op.equalIn,CC v]
def Vt (P:Program) (d:Nat) (t:TypeId) (l:List Leaf):Prop :=
 ∃ agg,qW P t=some (agg,l.length)/\∀ (w:World) (x y:Array Value) (off:Nat) (z:Bool),qo l ((x.toList.drop off).take l.length) ((y.toList.drop off).take l.length)=some z ->
   ∃ a b,(part t x off).run P w = .ok a w/\(part t y off).run P w = .ok b w/\(Op.equalIn d t a b).run P w = .ok z w/\eqK (jl (P.underlying t),l) a b=some z
theorem Py {P:Program} {l:Leaf} (d:Nat) (h:(l = .int/\∃ k,P.underlying t=some (.int k))\/(l = .bool/\P.underlying t=some .bool)\/(l = .str/\P.underlying t=some .string)) (i:qW P t=some (false,1)) :
 Vt P (d+1) t [l]:=by
 refine ⟨false,i,fun w x Y off z u=>?_⟩;have p:P.plainKey t=true:=by unfold Program.plainKey;rcases h with ⟨_,k,v⟩ | ⟨_,v⟩ | ⟨_,v⟩ <;> rw [v]
 cases hx:(x.toList.drop off).take 1 with
 | nil=>simp only [qnC] at u;rw [hx] at u;simp [qo] at u
 | cons a as =>
   cases hy:(Y.toList.drop off).take 1 with
   | nil=>simp only [qnC] at u;rw [hx,hy] at u;simp [qo] at u
   | cons b o =>
     have e:x[off]?=some a:=by have:=qnH (·[0]?) hx;simpa using this
     have E:Y[off]?=some b:=by have:=qnH (·[0]?) hy;simpa using this
     have s:as=[]:=by have:=qnH List.length hx;simp at this;exact qmk (by omega)
     have j:o=[]:=by have:=qnH List.length hy;simp at this;exact qmk (by omega)
     subst s j;simp only [qnC] at u;rw [hx,hy] at u
     have f:Qb l a b=some z:=by
      simp only [qo] at u;split at u
      . rename_i y;rw [y];simpa using u
      . rename_i y;rw [y];exact u
      cases u
     have q:jl (P.underlying t)=false:=by rcases h with ⟨_,k,v⟩ | ⟨_,v⟩ | ⟨_,v⟩ <;> rw [v] <;> rfl
     exact ⟨a,b,run_part_plain w p e,run_part_plain w p E,HK d w h f,by rw [q];exact f⟩
theorem Xv {P:Program} {s:Nat} (h:qW P t=some (true,s)) (w:World) (x:Array Value) (o:Nat):(part t x o).run P w = .ok (.agg (x.extract o (o+s))) w:=by simp [part,JX h,ql h]
theorem Ut {P:Program} {d:Nat} {e:TypeId} {l:List Leaf} (q:Vt P d e l) (c:P.cellsOf e=l.length) (x y:Array Value) (w:World):∀ (k j:Nat) (z:Bool),
 qo (Ix k l) (x.toList.drop (j*l.length)) (y.toList.drop (j*l.length))=some z->(Op.eqItems d e (P.cellsOf e) x y (List.range' j k)).run P w = .ok z w
 | 0,j,z,h=>by simp only [Ix] at h;cases hx:x.toList.drop (j*l.length) <;> cases hy:y.toList.drop (j*l.length) <;> rw [hx,hy] at h <;> simp [qo] at h;subst h;simp [Op.eqItems]
 | k+1,j,z,h=>by
   simp only [Ix] at h;obtain ⟨Z,u,v,o⟩:=jj h;obtain ⟨agg,_,p⟩:=q;obtain ⟨a,b,g,s,m,_⟩:=p w x y (j*l.length) Z u;simp only [qoz,Op.eqItems,qng,c,g,s,m,qmR];cases Z with
   | false=>simp [v rfl]
   | true =>simp only [qoF,qmM,qnc];have:=o rfl;rw [qnk,qnk,<-qpd] at this;rw [<-c];exact Ut ⟨agg,‹_›,p⟩ c x y w k (j+1) z this
theorem Gm {P:Program} {a s} (h:qW P e=some (a,s)):P.cellsOf e=s/\∃ i,P.info? e=some i/\i.size=s:=by
 unfold qW at h;cases hd:P.underlying e with
 | none=>simp [hd] at h
 | some d =>
   cases hi:P.info? e with
   | none=>simp [hd,hi] at h
   | some i =>simp [hd,hi] at h;exact ⟨by simp [Program.cellsOf,hi,h.2],i,rfl,h.2⟩
theorem HN {P:Program} {d:Nat} (x y:Array Value) (w:World) {n:Nat} (i:∀ t l,Zb P n t=some l->Vt P d t l):∀ (s:List Field) (off:Nat) (l:List Leaf) (z:Bool),Vm P n s off=some l ->
 qo l (x.toList.drop off) (y.toList.drop off)=some z->(Op.eqFields d x y s).run P w = .ok z w
 | [],off,l,z,h,u=>by simp [Vm,WG] at h;subst h;cases hx:x.toList.drop off <;> cases hy:y.toList.drop off <;> rw [hx,hy] at u <;> simp [qo] at u;subst u;simp [Op.eqFields]
 | f::s,off,l,z,h,u=>by
   simp only [Vm,WG] at h;split at h
   . rename_i e v;split at h
     . rename_i c;obtain ⟨rfl,o⟩:=c;simp only [RL] at h;obtain ⟨L,j,rfl⟩:=h;obtain ⟨Z,k,K,q⟩:=jj u;obtain ⟨agg,_,p⟩:=i _ _ v;obtain ⟨a,b,g,m,r,_⟩:=p w x y f.offset Z k;simp only [Op.eqFields,o,ne_eq,not_false_eq_true,qmA,qng,g,m,r,qmR];cases Z with
       | false=>simp [K rfl]
       | true =>have:=q rfl;rw [qnk,qnk] at this;simpa using HN x y w i s _ L z j this
     cases h
   cases h
theorem OQ {P:Program} {f:Array Field} (h:P.underlying t=some (.struct f)):P.fieldsOf t=f:=by simp [Program.fieldsOf,h]
def UW (P:Program) (d:Nat) (t:TypeId) (k:KS):Prop :=
 ∀ (w:World) (a b:Value) (z:Bool),eqK k a b=some z->(Op.equalIn d t a b).run P w = .ok z w
theorem Vn {P:Program} (d:Nat):∀ (n:Nat) (t:TypeId) (s:List Leaf),Zb P n t=some s->Vt P (d+n) t s/\UW P (d+n) t (jl (P.underlying t),s)
 | 0,t,s,h=>by simp [Zb] at h
 | n+1,t,s,h=>by
   simp only [Zb] at h
   generalize r:(match P.underlying t with
    | some (.int _)=>some [Leaf.int]
    | some .bool=>some [.bool]
    | some .string=>some [.str]
    | some (.array k e)=>(Zb P n e).map (Ix k)
    | some (.struct O)=>if P.stoodInHeld t then none else Vm P n O.toList 0
    | _=>none)=raw at h
   cases raw with
   | none=>simp [Kt] at h
   | some l =>
     simp only [Kt] at h;split at h
     . rename_i o;cases h;obtain ⟨p,v,m⟩:=RL.1 o;obtain ⟨agg,J⟩:=p;simp only at m;subst m;have X:∀ t s,Zb P n t=some s->Vt P (d+n) t s:=fun t s h=>(Vn (P:=P) d n t s h).1
       have g:agg=jl (P.underlying t):=by
        unfold qW at v;cases hd:P.underlying t with
        | none=>simp [hd] at v
        | some D =>
          cases N:P.info? t with
          | none=>simp [hd,N] at v
          | some i =>simp [hd,N] at v;rw [<-v.1];cases D <;> rfl
       have A:jl (P.underlying t)=true->(∀ (w:World) (x y:Array Value) (z:Bool),qo s x.toList y.toList=some z->(Op.equalIn (d+n+1) t (.agg x) (.agg y)).run P w = .ok z w) ->
        Vt P (d+(n+1)) t s/\UW P (d+(n+1)) t (jl (P.underlying t),s):=fun M V=>by
        rw [M] at g ⊢;subst g;refine ⟨⟨true,v,fun w x y off z u=>?_⟩,fun w a b z u=>?_⟩
        . have e:∀ (x:Array Value),(x.extract off (off+s.length)).toList=(x.toList.drop off).take s.length:=fun x=>by simp [List.extract_eq_take_drop,List.take_drop]
          rw [<-e,<-e] at u;exact ⟨_,_,Xv v w x off,Xv v w y off,V w _ _ z u,by rw [M];exact u⟩
        unfold eqK at u;split at u
        . rename_i q;cases q;exact V w _ _ z u
        . rename_i q;cases q
        cases u
       have L:∀ (lf:Leaf),s=[lf]->jl (P.underlying t)=false->((lf = .int/\∃ k,P.underlying t=some (.int k))\/(lf = .bool/\P.underlying t=some .bool)\/(lf = .str/\P.underlying t=some .string)) ->
        Vt P (d+(n+1)) t s/\UW P (d+(n+1)) t (jl (P.underlying t),s):=fun lf C M T=>by
        rw [M] at g ⊢;subst C g;refine ⟨Py (d+n) T v,fun w a b z u=>HK (d+n) w T ?_⟩;simpa [eqK] using u
       cases hu:P.underlying t with
       | none=>rw [hu] at r;simp at r
       | some D =>
         rw [hu] at r A L;cases D with
         | int k=>simp at r;exact L .int r.symm rfl (.inl ⟨rfl,k,rfl⟩)
         | bool=>simp at r;exact L .bool r.symm rfl (.inr (.inl ⟨rfl,rfl⟩))
         | string=>simp at r;exact L .str r.symm rfl (.inr (.inr ⟨rfl,rfl⟩))
         | array k e =>simp only [RL] at r;obtain ⟨E,Y,rfl⟩:=r;refine A rfl fun w x y z u=>?_;obtain ⟨j,c,Q⟩:=X _ _ Y;obtain ⟨Z,i,N,_⟩:=Gm c;rw [run_equalIn_array w (d+n) x y hu N,qpa];exact Ut ⟨j,c,Q⟩ Z x y w k 0 z (by simpa using u)
         | struct O =>
           simp only at r;split at r
           . cases r
           rename_i R;refine A rfl fun w x y z u=>?_;have f:=OQ hu;rw [run_equalIn_struct w (d+n) t x y (by rw [f];exact hu) (by simpa using R),f];exact HN x y w X O.toList 0 s z r (by simpa using u)
         | _=>simp at r
     cases h
def GV (P:Program) (t:TypeId):Option KS:=(Zb P 8 t).map fun l=>(jl (P.underlying t),l)
theorem EC {k:KS} (h:GV P t=some k) (w:World) {a b:Value} {z:Bool} (v:eqK k a b=some z):(Op.equal t a b).run P w = .ok z w:=by simp only [GV,RL] at h;obtain ⟨l,u,rfl⟩:=h;exact (Vn 9992 8 t l u).2 w a b z v
theorem IS {a b:ByteArray} (h:(a==b)=true):a=b:=by
 cases a with | mk x=>cases b with | mk y =>
 have:(x==y)=true:=h;rw [qoa this]
theorem TA (a:ByteArray):(a==a)=true:=by
 cases a with | mk x =>
 show (x==x)=true;simp
theorem KB {l:Leaf} (h:Qb l a b=some true):a=b:=by
 cases l <;> cases a <;> cases b <;> simp only [Qb,reduceCtorEq] at h
 . split at h
   . rename_i e;subst e;simp at h;rw [h]
   cases h
 . simp at h;rw [h]
 simp only [xl] at h;rw [IS h]
theorem Vc:∀ {L:List Leaf} {X Y:List Value},qo L X Y=some true->X=Y
 | [],[],[],_=>rfl
 | [],_::_,_,h=>by simp [qo] at h
 | [],[],_::_,h=>by simp [qo] at h
 | _::_,[],_,h=>by simp [qo] at h
 | _::_,_::_,[],h=>by simp [qo] at h
 | l::L,x::X,y::Y,h=>by
   simp only [qo] at h;split at h
   . rename_i u;rw [KB u,Vc h]
   . cases h
   cases h
theorem RU {k:KS} (h:eqK k a b=some true):a=b:=by
 unfold eqK at h;split at h
 . have:=Vc h;rename_i x y;rw [show x=y from Array.toList_inj.1 this]
 . exact KB h
 cases h
theorem VZ {l:Leaf} (h:Qb l a b=some true) (n:Nat):Instr.sameBits n a b=true:=by have e:=KB h;subst e;cases l <;> cases a <;> simp only [Qb,reduceCtorEq] at h <;> simp [Instr.sameBits,TA]
theorem Xw:∀ {L:List Leaf} {X Y:List Value},qo L X Y=some true->∀ n,((X.zip Y).all fun (x,y)=>Instr.sameBits n x y)=true
 | [],[],[],_,n=>rfl
 | [],_::_,_,h,n=>by simp [qo] at h
 | [],[],_::_,h,n=>by simp [qo] at h
 | _::_,[],_,h,n=>by simp [qo] at h
 | _::_,_::_,[],h,n=>by simp [qo] at h
 | l::L,x::X,y::Y,h,n=>by
   simp only [qo] at h;split at h
   . rename_i u;have:=Xw h n;simp [qmC,VZ u n,this]
   . cases h
   cases h
theorem Xu {k:KS} (h:eqK k a b=some true) {P:Program} (w:World):(Instr.keyThatStays a b).run P w = .ok b w:=by
 have:Instr.sameBits 10000 a b=true:=by
  unfold eqK at h;split at h
  . rename_i X Y;have s:=Xw h 9999;have e:=Vc h;show (X.size==Y.size&&((X.toList.zip Y.toList).all fun (x,y)=>Instr.sameBits 9999 x y))=true;rw [s,show X=Y from Array.toList_inj.1 e];simp
  . exact VZ h _
  cases h
 simp [Instr.keyThatStays,this]
theorem jM:∀ {l L:List Leaf} {x:List Value},qo (l++L) x x=some true->qo l (x.take l.length) (x.take l.length)=some true/\qo L (x.drop l.length) (x.drop l.length)=some true:=fun {l L x} h=>by
 obtain ⟨z,u,v,j⟩:=jj h;cases z with
 | false=>exact absurd (v rfl) (by simp)
 | true=>exact ⟨u,j rfl⟩
theorem VY {P:Program} {bb:Bool} {d:Nat} {e:TypeId} {l:List Leaf} {D:Nat} (m:Vt P D e l) (c:∀ (w:World) (v:Value),eqK (jl (P.underlying e),l) v v=some true->(Instr.checkKey bb d e v).run P w = .ok () w) {q:Nat} (s:q=l.length) (y:∀ w,(sizeOf e).run P w = .ok q w) (x:Array Value) (w:World):∀ (k j:Nat),
 qo (Ix k l) (x.toList.drop (j*l.length)) (x.toList.drop (j*l.length))=some true ->
 (forIn (List.range' j k) PUnit.unit (fun i _=>do Instr.checkKey bb d e (<-part e x (i*(<-sizeOf e)));pure (ForInStep.yield PUnit.unit)):Sem PUnit).run P w = .ok PUnit.unit w
 | 0,j,h=>by simp
 | k+1,j,h=>by simp only [Ix] at h;obtain ⟨g,z⟩:=jM h;obtain ⟨agg,_,p⟩:=m;obtain ⟨a,b,r,t,n,o⟩:=p w x x (j*l.length) true g;have u:a=b:=RU o;subst u;rw [qnk,<-qpd] at z;have f:=VY ⟨agg,‹_›,p⟩ c s y x w k (j+1) z;subst s;simp only [qoz,List.forIn_cons,qng,y,qmR,r,c w a o,qow];exact f
theorem YN {P:Program} {bb:Bool} {d D:Nat} (x:Array Value) (w:World) {n:Nat} (i:∀ t l,Zb P n t=some l->Vt P D t l) (c:∀ t l,Zb P n t=some l->∀ (w:World) (v:Value),eqK (jl (P.underlying t),l) v v=some true->(Instr.checkKey bb d t v).run P w = .ok () w) :
 ∀ (s:List Field) (off:Nat) (l:List Leaf),Vm P n s off=some l->qo l (x.toList.drop off) (x.toList.drop off)=some true ->
 (forIn s PUnit.unit (fun f _=>do
  if f.name ≠ "_" then Instr.checkKey bb d f.type (← part f.type x f.offset); pure (ForInStep.yield PUnit.unit)
  else pure (ForInStep.yield PUnit.unit)):Sem PUnit).run P w = .ok PUnit.unit w
 | [],off,l,h,z=>by simp
 | f::s,off,l,h,z=>by
   simp only [Vm,WG] at h;split at h
   . rename_i r j;split at h
     . rename_i q;obtain ⟨rfl,g⟩:=q;simp only [RL] at h;obtain ⟨L,o,rfl⟩:=h;obtain ⟨K,k⟩:=jM z;obtain ⟨agg,_,p⟩:=i _ _ j;obtain ⟨a,b,m,e,M,y⟩:=p w x x f.offset true K;have u:a=b:=RU y;subst u;rw [qnk] at k;have:=YN x w i c s _ L o k;simp only [List.forIn_cons,g,ne_eq,not_false_eq_true,qmA,qng,m,qmR,c _ _ j w a y,qow];exact this
     cases h
   cases h
theorem Xt {P:Program} (bb:Bool) (d:Nat):∀ (n:Nat) (t:TypeId) (L:List Leaf),Zb P n t=some L->∀ (w:World) (v:Value),eqK (jl (P.underlying t),L) v v=some true->(Instr.checkKey bb (d+n) t v).run P w = .ok () w
 | 0,t,L,h=>by simp [Zb] at h
 | n+1,t,L,h=>by
   intro w v u;have y:=fun t L h=>(Vn (P:=P) 0 n t L h).1;have c:=Xt (P:=P) bb d n;simp only [Zb] at h
   generalize r:(match P.underlying t with
    | some (.int _)=>some [Leaf.int]
    | some .bool=>some [.bool]
    | some .string=>some [.str]
    | some (.array k e)=>(Zb P n e).map (Ix k)
    | some (.struct f)=>if P.stoodInHeld t then none else Vm P n f.toList 0
    | _=>none)=raw at h
   cases raw with
   | none=>simp [Kt] at h
   | some l =>
     simp only [Kt] at h;split at h
     . cases h;cases hu:P.underlying t with
       | none=>rw [hu] at r;simp at r
       | some D =>
         rw [hu] at r u;have o:jl (some D)=true->∃ x:Array Value,v = .agg x/\qo L x.toList x.toList=some true:=fun b=>by rw [b] at u;cases v <;> simp [eqK] at u;exact ⟨_,rfl,u⟩
         cases D with
         | int k=>simp [Instr.checkKey,CC hu]
         | bool=>simp [Instr.checkKey,CC hu]
         | string=>simp [Instr.checkKey,CC hu]
         | array k e =>simp only [RL] at r;obtain ⟨q,z,rfl⟩:=r;obtain ⟨x,rfl,j⟩:=o rfl;obtain ⟨a,i,p⟩:=y _ _ z;have:=VY (bb:=bb) (d:=d+n) (P:=P) ⟨a,i,p⟩ (c _ _ z) rfl (fun w=>ql i w) x w k 0 (by simpa using j);show (Instr.checkKey bb ((d+n)+1) t (.agg x)).run P w=_;simp only [Instr.checkKey,qng,CC hu,qmR];simp only [Std.Legacy.Range.forIn_eq_forIn_range',Std.Legacy.Range.size,qoL,Nat.add_one_sub_one,Nat.div_one];rw [this];rfl
         | struct f =>
           simp only at r;split at r
           . cases r
           obtain ⟨x,rfl,j⟩:=o rfl;have:=YN (bb:=bb) (d:=d+n) (P:=P) x w y c f.toList 0 L r (by simpa using j);show (Instr.checkKey bb ((d+n)+1) t (.agg x)).run P w=_;simp only [Instr.checkKey,qng,CC hu,qmR];rw [<-Array.forIn_toList];rw [this];rfl
         | _=>simp at r
     cases h
theorem ZW {P:Program} {k:KS} (h:GV P t=some k) (b:Bool) (w:World) {v:Value} (j:eqK k v v=some true):(Instr.checkKey b 10000 t v).run P w = .ok () w:=by simp only [GV,RL] at h;obtain ⟨l,u,rfl⟩:=h;exact Xt b 9992 8 t l u w v j
theorem Zs {P:Program} {t:TypeId} {K:KS} (h:GV P t=some K) (w:World) (k:Value):∀ (E:List MapEntry) (s:List (Value×Nat×AV)) (i:Nat) (r:Option Nat),E.map (·.key)=s.map (·.1)->zO K k s i=some r ->
 (Instr.findAsking t k E i).run P w = .ok (r.map fun j=>(j,((E[j - i]?).map (·.val)).getD undef)) w/\∀ j,r=some j->i<=j/\j<i+s.length
 | [],s,i,r,u,hm=>by
   have:s=[]:=by cases s <;> simp_all
   subst this;simp [zO] at hm;subst hm;exact ⟨by simp [Instr.findAsking],fun j h=>by cases h⟩
 | e::E,[],i,r,u,hm=>by simp at u
 | e::E,x::s,i,r,u,hm=>by
   simp only [wI,qoj] at u;obtain ⟨v,o⟩:=u;simp only [zO] at hm;split at hm
   . rename_i z;cases hm;have:=EC h w (a:=k) (b:=e.key) (by rw [v];exact z);refine ⟨by simp [Instr.findAsking,this],fun j y=>?_⟩;cases y;simp
   . rename_i z;have:=EC h w (a:=k) (b:=e.key) (by rw [v];exact z);obtain ⟨g,q⟩:=Zs h w k E s (i+1) r o hm;refine ⟨?_,fun j y=>by have:=q j y;simp;omega⟩;simp only [Instr.findAsking,qng,this,qmR,qmM,qnc,g];cases hr:r with
     | none=>rfl
     | some j =>have:=q j hr;simp only [qm6];rw [show j - i=(j - (i+1))+1 by omega];simp
   cases hm
theorem Hl {P:Program} {t:TypeId} {K:KS} {d:TypeDesc} (h:GV P t=some K) (b:P.underlying t=some d) (k:Value):∀ (E:List MapEntry) (s:List (Value×Nat×AV)) (i:Nat) (R:Option Nat),E.map (·.key)=s.map (·.1)->zO K k s i=some R ->
 ∀ r,Instr.findNow d k E i=some r->r=R.map fun j=>(j,((E[j - i]?).map (·.val)).getD undef)
 | [],s,i,R,v,hm,r,u=>by
   have:s=[]:=by cases s <;> simp_all
   subst this;simp [zO] at hm;subst hm;simp [Instr.findNow] at u;subst u;rfl
 | e::E,[],i,R,v,hm,r,u=>by simp at v
 | e::E,x::s,i,R,v,hm,r,u=>by
   have L:∀ j,R=some j->i<=j:=fun j w=>((Zs h (World.settled P default) k (e::E) (x::s) i R v hm).2 j w).1;simp only [wI,qoj] at v;obtain ⟨m,g⟩:=v
   have a:∀ z,Instr.sameNow d k e.key=some z->eqK K k x.1=some z:=fun z y=>by
    rw [<-m]
    have f:∃ l,K=(false,[l])/\((l = .int/\∃ q,d = .int q)\/(l = .bool/\d = .bool)\/(l = .str/\d = .string)):=by
     simp only [GV,RL] at h;obtain ⟨M,o,rfl⟩:=h;simp only [Zb,b,Kt] at o;unfold Instr.sameNow at y;split at y <;> first | (cases y;done) | skip
     all_goals
      simp only at o;split at o
      . cases o
        first | exact ⟨.int,by rw [b];rfl,.inl ⟨rfl,_,rfl⟩⟩ | exact ⟨.str,by rw [b];rfl,.inr (.inr ⟨rfl,rfl⟩)⟩ | exact ⟨.bool,by rw [b];rfl,.inr (.inl ⟨rfl,rfl⟩)⟩
      cases o
    obtain ⟨l,rfl,c⟩:=f;rcases c with ⟨rfl,q,rfl⟩ | ⟨rfl,rfl⟩ | ⟨rfl,rfl⟩ <;> (cases hkk:k <;> cases hek:e.key <;> rw [hkk,hek] at y <;> simp only [Instr.sameNow,reduceCtorEq] at y <;> simpa [eqK,Qb] using y)
   simp only [Instr.findNow] at u;simp only [zO] at hm;split at u
   . rename_i p;rw [a _ p] at hm;cases hm;cases u;simp
   . rename_i p;rw [a _ p] at hm;have:=Hl h b k E s (i+1) R g hm r u;rw [this];cases hr':R with
     | none=>rfl
     | some j =>have n:=((Zs h (World.settled P default) k E s (i+1) R g hm).2 j hr').1;simp only [qm6];rw [show j - i=(j - (i+1))+1 by omega];simp
   cases u
theorem Qg {P:Program} {K:KS} (h:GV P t=some K) (w:World) (k:Value) (e:List MapEntry) (E:List (Value×Nat×AV)) (R:Option Nat) (v:e.map (·.key)=E.map (·.1)) (m:zO K k E 0=some R) :
 (Instr.findKey t k e).run P w = .ok (R.map fun j=>(j,((e[j]?).map (·.val)).getD undef)) w/\∀ j,R=some j->j<E.length:=by
 have u:∃ d,P.underlying t=some d:=by
  cases u:P.underlying t with
  | none=>simp [GV,Zb,u,Kt] at h
  | some d=>exact ⟨d,rfl⟩
 obtain ⟨d,u⟩:=u;obtain ⟨z,y⟩:=Zs h w k e E 0 R v m;refine ⟨?_,fun j o=>by have:=y j o;omega⟩;simp only [Instr.findKey,qng,CC u,qmR];cases hf:Instr.findNow d k e 0 with
 | none=>simpa using z
 | some r =>have:=Hl h u k e E 0 R v m r hf;simp [this]
theorem Ea {K:KS} {k:Value}:∀ {E:List (Value×Nat×AV)} {i j:Nat},zO K k E i=some (some j)->∃ e,E[j - i]?=some e/\i<=j/\eqK K k e.1=some true
 | [],i,j,h=>by simp [zO] at h
 | x::E,i,j,h=>by
   simp only [zO] at h;split at h
   . rename_i z;cases h;exact ⟨x,by simp,Qs _,z⟩
   . obtain ⟨e,u,y,v⟩:=Ea h;exact ⟨e,by rw [show j - i=(j - (i+1))+1 by omega];simpa using u,by omega,v⟩
   cases h
theorem Kr {w:World} {o:Obj} (h:w.heap[c]?=some o) (n:o.isCells=false) (u:O.isCells=false) (a:Addr):(w.putObj c O).cell? a=w.cell? a:=by
 have l:c<w.heap.size:=(qms.1 h).1;by_cases e:a.block=c
 . unfold World.cell?;rw [e,World.putObj_heap_same l,h];cases O <;> cases o <;> first | rfl | (simp [Obj.isCells] at n u)
 exact World.cell?_of_block (qnf e)
theorem HeapOK.putO {hp g w} (h:HeapOK hp g w) {id:Nat} {o o':HObj} {x5 ob:Obj} (ho:hp id=some o) (hl:o.live=true) (y3:o'.live=true) (hρ:g.ρ id=some (.blk c 0))
 (y:w.heap[c]?=some x5) (x2:x5.isCells=false) (x8:ob.isCells=false) (x4:Trans w g (w.putObj c ob) g->(w.putObj c ob).heap[c]?=some ob->HRep (w.putObj c ob) g o' (.blk c 0)) :
 HeapOK (Hp.set hp id o') g (w.putObj c ob)/\Upd hp g w (Hp.set hp id o') g (w.putObj c ob):=by
 have x7:c<w.heap.size:=(qms.1 y).1
 have tr:Trans w g (w.putObj c ob) g:=⟨fun _ _ x=>x,fun b q _=>Kr y x2 x8 _,fun _ _ x=>x,fun b a1 t1 f1 K=>by
  by_cases e:b=c
  . subst e;rw [y] at K;cases K;simp [Obj.isCells] at x2
  exact ⟨a1,(qnf e).trans K,rfl⟩,rfl,rfl,rfl,by simp,Qs _⟩
 refine ⟨h.change (fun i=>i=id) tr (fun i hi=>Hp.set_other _ _ hi) (fun _ _=>rfl) (fun i o2 c' d' hi y0 A y1=>qnf (fun e=>hi (h.inj i id o2 _ c d' 0 y0 ho A hl (by rw [<-e];exact y1) hρ))) (fun _ _ _ _ _ _ _ _ _ hq=>hq) ?_ ?_ ?_,tr,?_,fun b q hs => .inl hs,fun b y2 x9=>qnf (fun e=>x9 (e ▸ ⟨id,_,0,ho,hl,hρ⟩))⟩
 . rintro i rfl;exact ⟨_,_,Hp.set_same _ _ _,hρ,x4 tr (World.putObj_heap_same x7)⟩
 . rintro i i' o1 o2 c1 d1 x6 rfl x0 X x1 A O x3;by_cases e:i'=i
   . exact e.symm
   rw [Hp.set_other _ _ e] at X;exact h.inj i i' _ o2 c1 d1 x6 ho X hl A O x3
 . intro b q hs;obtain ⟨v,hv⟩:=h.ex b q hs;exact ⟨v,(tr.cell b q hs).trans hv⟩
 rintro c1 ⟨i,o1,d1,x0,x1,O⟩;by_cases e:i=id
 . subst e;exact .inl ⟨i,_,d1,ho,hl,O⟩
 rw [Hp.set_other _ _ e] at x0;exact .inl ⟨i,o1,d1,x0,x1,O⟩
theorem HeapOK.allocO {hp g w} (h:HeapOK hp g w) {id:Nat} (hn:hp id=none) (ob:Obj) (o:HObj) (x2:Trans w g (w.alloc ob) (g.home id (.blk w.heap.size 0))->HRep (w.alloc ob) (g.home id (.blk w.heap.size 0)) o (.blk w.heap.size 0)) :
 HeapOK (Hp.set hp id o) (g.home id (.blk w.heap.size 0)) (w.alloc ob)/\Upd hp g w (Hp.set hp id o) (g.home id (.blk w.heap.size 0)) (w.alloc ob):=by
 have tr:=Trans.alloc_home h ob hn (.blk w.heap.size 0);refine ⟨h.change (fun i=>i=id) tr (fun i K=>Hp.set_other _ _ K) (fun i K=>by simp [G.home,K]) (fun i o c d K X A x1=>qne _ _ _ (h.lt X A x1)) (fun i o c d K X A x1 q hq=>hq) ?_ ?_ ?_,tr,?_,fun b q hs => .inl hs,fun b hb _=>qne _ _ _ hb⟩
 . rintro i rfl;exact ⟨_,.blk w.heap.size 0,Hp.set_same _ _ _,by simp [G.home],x2 tr⟩
 . rintro i i' o1 o' c d d' rfl X x0 A x3 y O;simp only [G.home] at y O;simp at y;obtain ⟨rfl,rfl⟩:=y;by_cases e:i'=i
   . exact e.symm
   rw [Hp.set_other _ _ e] at x0;simp [e] at O;exact absurd (h.lt x0 x3 O) (qny _)
 . intro b q hs;obtain ⟨v,hv⟩:=h.ex b q hs;exact ⟨v,(tr.cell b q hs).trans hv⟩
 rintro c ⟨i,o1,d,X,A,y⟩;by_cases e:i=id
 . subst e;simp [G.home] at y;exact .inr (by omega)
 rw [Hp.set_other _ _ e] at X;simp [G.home,e] at y;exact .inl ⟨i,o1,d,X,A,y⟩
theorem WL {p g w} (h:HeapOK p g w):∀ q,¬ g.S w.heap.size q:=fun q s=>by obtain ⟨v,u⟩:=h.ex _ _ s;exact absurd (qoi _ _ u) (qny _)
section
variable {P:Program} {o:Oper} {a:Act} {w:World} {g:G} {hp:Hp} {F:Nat->AV} {new:Nat} {r:AV} {ws:List (Nat×HObj)} {ro:Option Nat} {n:Nat}
theorem Zm {P:Program} {w:World} {l:Nat} {e c} (h:w.heap[l]?=some (.map e c)):(setObj l O).run P w = .ok () (w.putObj l O):=by simp [setObj,Sem.run,h,World.putObj]
theorem qU {P:Program} {w:World} {l:Nat} {e c} (h:w.heap[l]?=some (.map e c)):(getObj l).run P w = .ok (.map e c) w:=by simp [getObj,Sem.run,h]
theorem VR (k:HeapOK hp g w) {id:Nat} {s:List (Value×Nat×AV)} {v:Value} (M:hp id=some (.mp s C)) (N:Rep w g false (.mp id) v) :
 ∃ c E,v = .map (some c)/\g.ρ id=some (.blk c 0)/\w.heap[c]?=some (.map E C)/\E.size=s.length/\(∀ o,¬ g.S c o)/\E.toList.map (·.key)=s.map (·.1) /\
   ∀ i (h:i<s.length),∃ e,E[i]?=some e/\e.key=s[i].1/\e.born=s[i].2.1/\Rep w g false s[i].2.2 e.val:=by
 cases N with
 | mp _ c d q =>obtain ⟨l,y,f⟩:=k.rep id _ M;rw [q] at y;cases y;obtain ⟨E,b,j,rfl,m,z⟩:=f;refine ⟨c,E,rfl,q,b,j,m,?_,z⟩;refine qm4 (by simp [j]) fun i L u=>?_;simp at L u;obtain ⟨e,t,p,_⟩:=z i u;obtain ⟨_,x⟩:=qms.1 t;simp [x,p]
theorem Sk (k:HeapOK hp g w) {id:Nat} {Φ:List (Value×Nat×AV)->Nat->Prop} (L:hp id=some (.mpp Φ)) {v:Value} (V:Rep w g false (.mp id) v) :
 ∃ E C,Φ E C/\HeapOK (Hp.set hp id (.mp E C)) g w/\Upd hp g w (Hp.set hp id (.mp E C)) g w:=by
 cases V with
 | mp _ c d R =>
   obtain ⟨l,N,m⟩:=k.rep id _ L;rw [R] at N;cases N;obtain ⟨E,C,X,m⟩:=m;refine ⟨E,C,X,⟨fun i u=>?_,fun i o u=>?_,fun i Y o o' c d D u f t p z M=>?_,k.ex,k.tab⟩,⟨.refl w g,fun c T=>?_,fun _ _ h => .inl h,fun _ _ _=>rfl⟩⟩
   . by_cases e:i=id
     . subst e;rw [Hp.set_same] at u;cases u
     rw [Hp.set_other _ _ e] at u;exact k.dom i u
   . by_cases e:i=id
     . subst e;rw [Hp.set_same] at u;cases u;exact ⟨_,R,m⟩
     rw [Hp.set_other _ _ e] at u;exact k.rep i o u
   . have s:∀ {j b},Hp.set hp id (.mp E C) j=some b->b.live=true->∃ O,hp j=some O/\O.live=true:=fun {j b} Q q=>by
      by_cases e:j=id
      . subst e;exact ⟨_,L,rfl⟩
      rw [Hp.set_other _ _ e] at Q;exact ⟨b,Q,q⟩
     obtain ⟨x,Z,J⟩:=s u t;obtain ⟨y,K,A⟩:=s f p;exact k.inj i Y x y c d D Z K J A z M
   obtain ⟨i,o,d,u,q,z⟩:=T;by_cases e:i=id
   . subst e;exact .inl ⟨i,_,d,L,rfl,z⟩
   rw [Hp.set_other _ _ e] at u;exact .inl ⟨i,o,d,u,q,z⟩
theorem tF {d} (z:o.op = .makeMap t none) (k:HeapOK hp g w) (j:hp new=none) (s:(AOp.mkm d).sem P (evF F) hp new r ws):VRun P o a w (Post hp g w r ws):=by obtain ⟨rfl,rfl⟩:=s;obtain ⟨y,b⟩:=k.allocO j (.map #[] 0) (.mp [] 0) (fun T=>⟨#[],zk _ _,rfl,rfl,fun q h=>WL k q h,fun i u=>by simp at u⟩);refine .of (v := .map (some w.heap.size)) (w':=w.alloc (.map #[] 0)) ?_ ⟨_,.mp _ _ 0 (by simp [G.home]),y,b⟩;simp [execOp,z,Instr.makeMap,newObj,Sem.run]
theorem Vs {y:Opd} (h:opd x=some y) (u:FrOK w g F a) {k:Value} (v:(evF F y).val=some k):a.eval x=k:=PL v (qr u h)
theorem tB {k:Operand} {A:Bool} {Z:Value} {y1 y2:Opd} {d} (T:o.op = .lookup t m k A) (V:P.underlying t=some (.map kt e)) (q:GV P kt=some ks) (hz:∀ w,(zeroValue e).run P w = .ok Z w)
 (h1:opd m=some y1) (h2:opd k=some y2) (hF:FrOK w g F a) (u:HeapOK hp g w) (b:(AOp.lku d ks (AV.ofValue Z) A y1 y2).sem P (evF F) hp new r ws):VRun P o a w (Post hp g w r ws):=by
 have Y:=qr hF h1;simp only [AOp.sem] at b;split at b
 . rename_i id D;split at b
   . rename_i R C L;obtain ⟨K,O,l,rfl,b⟩:=b;rw [D] at Y;obtain ⟨c,E,Q,hρ,p,x2,x1,y,s⟩:=VR u L Y;have N:=Vs h2 hF O;have h:=ZW q E.isEmpty w l;rcases b with ⟨i,x,hm,hx,rfl⟩ | ⟨hm,rfl⟩
     . obtain ⟨f,x0⟩:=Qg q w K E.toList R _ y hm;obtain ⟨hi,rfl⟩:=qml.1 hx;obtain ⟨en,X,q2,q3,q4⟩:=s i hi;have z:((E.toList[i]?).map (·.val)).getD undef=en.val:=by simp [X]
       cases A with
       | false =>refine .of (v:=en.val) (w':=w) ?_ (.nil u q4);simp [execOp,T,Q,N,Instr.lookup,CC V,qU p,h,f,z,X]
       | true =>
         refine .of (v := .tuple #[en.val,.bool true]) (w':=w) ?_ (.nil u ?_)
         . simp [execOp,T,Q,N,Instr.lookup,CC V,qU p,h,f,z,X]
         exact .tup _ _ [en.val,.bool true] rfl (fun j M=>by
          match j,M with
          | 0,_=>exact q4
          | 1,_=>exact .v _ _)
     obtain ⟨f,_⟩:=Qg q w K E.toList R _ y hm;cases A with
     | false =>refine .of (v:=Z) (w':=w) ?_ (.nil u (Qp _ _ _ _));simp [execOp,T,Q,N,Instr.lookup,CC V,qU p,h,f,hz]
     | true =>
       refine .of (v := .tuple #[Z,.bool false]) (w':=w) ?_ (.nil u ?_)
       . simp [execOp,T,Q,N,Instr.lookup,CC V,qU p,h,f,hz]
       exact .tup _ _ [Z,.bool false] rfl (fun j M=>by
        match j,M with
        | 0,_=>exact Qp _ _ _ _
        | 1,_=>exact .v _ _)
   . rename_i Φ L;obtain ⟨rfl,K,O,l,rfl,b⟩:=b;rw [D] at Y;obtain ⟨R,C,hΦ,J,_⟩:=Sk u L Y;have b:=b R C hΦ;obtain ⟨c,E,Q,hρ,p,x2,x1,y,s⟩:=VR J (Hp.set_same _ _ _) Y;have N:=Vs h2 hF O;have h:=ZW q E.isEmpty w l;rcases b with ⟨i,x,hm,hx,rfl⟩ | ⟨hm,rfl⟩
     . obtain ⟨f,x0⟩:=Qg q w K E.toList R _ y hm;obtain ⟨hi,rfl⟩:=qml.1 hx;obtain ⟨en,X,q2,q3,q4⟩:=s i hi;have z:((E.toList[i]?).map (·.val)).getD undef=en.val:=by simp [X]
       refine .of (v := .tuple #[en.val,.bool true]) (w':=w) ?_ (.nil u ?_)
       . simp [execOp,T,Q,N,Instr.lookup,CC V,qU p,h,f,z,X]
       exact .tup _ _ [en.val,.bool true] rfl (fun j M=>by
        match j,M with
        | 0,_=>exact q4
        | 1,_=>exact .v _ _)
     obtain ⟨f,_⟩:=Qg q w K E.toList R _ y hm;refine .of (v := .tuple #[Z,.bool false]) (w':=w) ?_ (.nil u ?_)
     . simp [execOp,T,Q,N,Instr.lookup,CC V,qU p,h,f,hz]
     exact .tup _ _ [Z,.bool false] rfl (fun j M=>by
      match j,M with
      | 0,_=>exact Qp _ _ _ _
      | 1,_=>exact .v _ _)
   exact b.elim
 exact b.elim
theorem Ds {w':World} {s:List (Value×Nat×AV)} {E:Array MapEntry} (z:E.size=s.length) (T:Trans w g w' g)
 (t:∀ i (h:i<s.length),∃ e,E[i]?=some e/\e.key=s[i].1/\e.born=s[i].2.1/\Rep w g false s[i].2.2 e.val) (k:Value) (c:Nat) (x:AV) (v:Value) (j:Rep w g false x v) :
 (E.push { key:=k,val:=v,born:=c }).size=(s++[(k,c,x)]).length /\
 ∀ i (h:i<(s++[(k,c,x)]).length),∃ e,(E.push { key:=k,val:=v,born:=c })[i]?=some e/\e.key=(s++[(k,c,x)])[i].1/\e.born=(s++[(k,c,x)])[i].2.1/\Rep w' g false (s++[(k,c,x)])[i].2.2 e.val:=by
 refine ⟨by simp [z],fun i u=>?_⟩;simp at u;by_cases e:i<s.length
 . obtain ⟨en,q,Q,y,b⟩:=t i e;refine ⟨en,?_,by rw [qmz e];exact ⟨Q,y,b.mono T⟩⟩;rw [Array.getElem?_push,if_neg (by omega)];exact q
 have:i=s.length:=by omega
 subst this;refine ⟨{ key:=k,val:=v,born:=c },by rw [Array.getElem?_push,if_pos (by omega)],?_⟩;simp;exact j.mono T
theorem RT {w':World} {s:List (Value×Nat×AV)} {t:Array MapEntry} (y:t.size=s.length) (T:Trans w g w' g)
 (u:∀ i (h:i<s.length),∃ e,t[i]?=some e/\e.key=s[i].1/\e.born=s[i].2.1/\Rep w g false s[i].2.2 e.val) {E:Value×Nat×AV} (d:s[j]?=some E) (x:AV) (v:Value) (p:Rep w g false x v)
 {f:MapEntry->MapEntry} (l:∀ e,e.key=E.1->f e={ key:=E.1,val:=v,born:=e.born }) :
 (t.modify j f).size=(s.set j (E.1,E.2.1,x)).length /\
 ∀ i (h:i<(s.set j (E.1,E.2.1,x)).length),∃ e,(t.modify j f)[i]?=some e/\e.key=(s.set j (E.1,E.2.1,x))[i].1/\e.born=(s.set j (E.1,E.2.1,x))[i].2.1/\Rep w' g false (s.set j (E.1,E.2.1,x))[i].2.2 e.val:=by
 refine ⟨by simp [y],fun i b=>?_⟩;simp at b;obtain ⟨z,m,q,Q,c⟩:=u i b;rw [qo2];by_cases e:j=i
 . subst e;have:s[j]=E:=by have:=(qml.1 d).2;exact this
   rw [this] at q Q;refine ⟨f z,by rw [if_pos rfl,m];rfl,?_⟩;rw [l z q];simp;exact ⟨Q,p.mono T⟩
 rw [if_neg e];refine ⟨z,m,?_⟩;simp [qnr e];exact ⟨q,Q,c.mono T⟩
theorem SH (h:w.heap[c]?=some O):w.putObj c O=w:=by
 have l:c<w.heap.size:=(qms.1 h).1;simp only [World.putObj]
 have:w.heap.setIfInBounds c O=w.heap:=by
  apply qnW;intro j;by_cases e:j=c
  . subst e;rw [h];simp [l]
  rw [qmK (qmG e)]
 rw [this]
theorem KW (k:HeapOK hp g w) {id:Nat} {s es':List (Value×Nat×AV)} {clk':Nat} (z:hp id=some (.mp s C)) (y:g.ρ id=some (.blk c 0)) {E ents':Array MapEntry} (b:w.heap[c]?=some (.map E C)) (u:∀ o,¬ g.S c o)
 (v:Trans w g (w.putObj c (.map ents' clk')) g->ents'.size=es'.length/\∀ i (h:i<es'.length),∃ e,ents'[i]?=some e/\e.key=es'[i].1/\e.born=es'[i].2.1/\Rep (w.putObj c (.map ents' clk')) g false es'[i].2.2 e.val) :
 HeapOK (Hp.write hp [(id,.mp es' clk')]) g (w.putObj c (.map ents' clk'))/\Upd hp g w (Hp.write hp [(id,.mp es' clk')]) g (w.putObj c (.map ents' clk')) :=
 k.putO z rfl rfl y b rfl rfl (fun t j=>⟨ents',j,(v t).1,rfl,u,(v t).2⟩)
theorem CH {k v:Operand} {y1 y2 Y:Opd} (M:o.op = .insert t m k v\/o.op = .mapUpdate t m k v) (hu:P.underlying t=some (.map kt e)) (z:GV P kt=some ks)
 (h1:opd m=some y1) (h2:opd k=some y2) (h3:opd v=some Y) (N:FrOK w g F a) (q:HeapOK hp g w) (s:(AOp.ins ks y1 y2 Y).sem P (evF F) hp new r ws):∃ w',(execOp a.eval o).run P w = .ok .skip w'/\Post hp g w r ws undef w':=by
 have J:=qr N h1;have A:=qr N h3;simp only [AOp.sem] at s;split at s
 . rename_i id Q;split at s
   . rename_i es C j;obtain ⟨K,R,l,rfl,s⟩:=s;rw [Q] at J;obtain ⟨c,E,hv,hρ,f,L,p,y,h⟩:=VR q j J;have hk:=Vs h2 N R;have u:=ZW z false w l
     have fin:∀ {ws w'},(Instr.mapUpdate t (a.eval m) (a.eval k) (a.eval v)).run P w = .ok () w'->HeapOK (Hp.write hp ws) g w'/\Upd hp g w (Hp.write hp ws) g w'->∃ w',(execOp a.eval o).run P w = .ok .skip w'/\Post hp g w .any ws undef w':=fun {ws w'} hr hh =>
      ⟨w',by rcases M with M | M <;> simp [execOp,M,hr],g,.any _ _,hh.1,hh.2⟩
     rcases s with ⟨i,x,hm,X,rfl⟩ | ⟨hm,rfl⟩
     . obtain ⟨O,x0⟩:=Qg z w K E.toList es _ y hm;obtain ⟨hi,Z⟩:=qml.1 X;obtain ⟨en,q1,q2,q3,q4⟩:=h i hi;rw [Z] at q2;obtain ⟨x',b,_,d⟩:=Ea hm;simp at b;rw [X] at b;cases b;have T:=RU d;subst T;have V:=Xu (P:=P) d w;refine fin (w':=w.putObj c (.map (E.modify i fun e=>{ e with key:=x.1,val:=a.eval v }) C)) ?_ (KW q j hρ f p (fun D=>RT L D h X (evF F Y) (a.eval v) A (fun e he=>rfl)));simp [hv,hk,Instr.mapUpdate,CC hu,qU f,u,O,q1,q2,V,Zm f]
     obtain ⟨O,_⟩:=Qg z w K E.toList es _ y hm;refine fin (w':=w.putObj c (.map (E.push { key:=K,val:=a.eval v,born:=C }) (C+1))) ?_ (KW q j hρ f p (fun D=>Ds L D h K C (evF F Y) (a.eval v) A));simp [hv,hk,Instr.mapUpdate,CC hu,qU f,u,O,Zm f]
   exact s.elim
 exact s.elim
theorem tH {k:Operand} {Z:Value} {y1 y2:Opd} {d} (ho:o.op = .mapEntry t m k) (hu:P.underlying t=some (.map kt e)) (f:GV P kt=some ks) (hz:∀ w,(zeroValue e).run P w = .ok Z w)
 (h1:opd m=some y1) (h2:opd k=some y2) (hF:FrOK w g F a) (l:HeapOK hp g w) (q:(AOp.mpe d ks (AV.ofValue Z) y1 y2).sem P (evF F) hp new r ws):VRun P o a w (Post hp g w r ws):=by
 have e1:=qr hF h1;simp only [AOp.sem] at q;split at q
 . rename_i id X;split at q
   . rename_i es C R;obtain ⟨K,Y,M,q⟩:=q;rw [X] at e1;obtain ⟨c,E,hv,hρ,O,x0,J,y,s⟩:=VR l R e1;have hk:=Vs h2 hF Y;have z:=ZW f false w M
     have T:∀ {w':World} {x:AV} {u:Value} {b:Nat},Rep w' g false x u->Rep w' g false (.tup [x,I b]) (.tuple #[u,.int .i64 b]):=fun {w' x u b} h => .tup _ _ [u,.int .i64 b] rfl (fun j hj=>by
      match j,hj with
      | 0,_=>exact h
      | 1,_=>exact .v _ _)
     rcases q with ⟨i,x,hm,hx,rfl,rfl⟩ | ⟨hm,rfl,rfl⟩
     . obtain ⟨V,x2⟩:=Qg f w K E.toList es _ y hm;obtain ⟨hi,x1⟩:=qml.1 hx;obtain ⟨en,q1,q2,q3,q4⟩:=s i hi;rw [x1] at q2 q3 q4;obtain ⟨x',N,_,Q⟩:=Ea hm;simp at N;rw [hx] at N;cases N;have D:=RU Q;subst D;have A:=Xu (P:=P) Q w
       have L:E.modify i (fun e=>{ e with key:=x.1 })=E:=by
        apply qnW;intro j;rw [qo2];by_cases e:i=j
        . subst e;rw [if_pos rfl,q1];simp [<-q2]
        rw [if_neg e]
       have v:(Instr.mapEntry t (a.eval m) (a.eval k)).run P w = .ok (.tuple #[en.val,.int .i64 (en.born:Nat)]) w:=by simp [hv,hk,Instr.mapEntry,CC hu,qU O,z,V,q1,q2,A,Zm O,L,SH O,goInt]
       refine .of (by simp [execOp,ho,v];rfl) (.nil l ?_);rw [q3];exact T q4
     obtain ⟨V,_⟩:=Qg f w K E.toList es _ y hm;have p:=KW (ents':=E.push { key:=K,val:=Z,born:=C }) (clk':=C+1) l R hρ O J (fun tr=>Ds x0 tr s K C (AV.ofValue Z) Z (Qp _ _ _ _));have v:(Instr.mapEntry t (a.eval m) (a.eval k)).run P w = .ok (.tuple #[Z,.int .i64 (C:Nat)]) (w.putObj c (.map (E.push { key:=K,val:=Z,born:=C }) (C+1))):=by simp [hv,hk,Instr.mapEntry,CC hu,qU O,z,V,hz,Zm O,goInt]
     exact .of (by simp [execOp,ho,v]) ⟨g,T (Qp _ _ _ _),p.1,p.2⟩
   exact q.elim
 exact q.elim
theorem Xl {b:Nat}:∀ {E:List MapEntry} {s:List (Value×Nat×AV)} {i:Nat},E.map (·.born)=s.map (·.2.1)->s.findIdx? (fun x=>x.2.1==b)=some i->E.findIdx? (fun e=>(e.born:Int)==(b:Int))=some i
 | [],s,i,h,f=>by
   have:s=[]:=by cases s <;> simp_all
   subst this;simp at f
 | e::E,[],i,h,f=>by simp at h
 | e::E,x::s,i,h,f=>by
   simp only [wI,qoj] at h;rw [qpo] at f ⊢;have:((e.born:Int)==(b:Int))=(x.2.1==b):=by rw [h.1,qnB];simp;omega
   rw [this];by_cases c:(x.2.1==b)=true
   . rw [if_pos c] at f ⊢;exact f
   rw [if_neg c] at f ⊢;simp only [RL] at f ⊢;obtain ⟨j,u,rfl⟩:=f;exact ⟨j,Xl h.2 u,rfl⟩
theorem ti {s v:Operand} {D J Y:Opd} (ho:o.op = .entryStore t m s v)
 (h1:opd m=some D) (h2:opd s=some J) (l:opd v=some Y) (L:FrOK w g F a) (k:HeapOK hp g w) (u:(AOp.est D J Y).sem P (evF F) hp new r ws):∃ Z,(execOp a.eval o).run P w = .ok .skip Z/\Post hp g w r ws undef Z:=by
 have V:=qr L h1;have X:=qr L h2;have K:=qr L l;simp only [AOp.sem] at u;split at u
 . rename_i id O;split at u
   . rename_i A C j;obtain ⟨i,x,T,N,hx,rfl,rfl⟩:=u;rw [O] at V;rw [T] at X;have f:=zZ X;obtain ⟨c,E,hv,hρ,M,q,R,Q,h⟩:=VR k j V;have b:E.toList.map (·.born)=A.map (·.2.1):=by refine qm4 (by simp [q]) fun i hi z=>?_;simp at hi z;obtain ⟨e,l,_,h4,_⟩:=h i z;obtain ⟨_,h5⟩:=qms.1 l;simp [h5,h4]
     have y:=Xl b N;have d:E.findIdx? (fun e=>(e.born:Int)==(x.2.1:Int))=some i:=by rw [show E=E.toList.toArray by simp,List.findIdx?_toArray];exact y
     have p:=KW (ents':=E.modify i fun e=>{ e with val:=a.eval v }) (clk':=C) k j hρ M R (fun tr=>RT q tr h hx (evF F Y) (a.eval v) K (fun e he=>by rw [<-he]));refine ⟨_,?_,g,.any _ _,p.1,p.2⟩;simp [execOp,ho,hv,f,Instr.entryStore,qU M,asInt,asIntOf,d,Zm M]
   exact u.elim
 exact u.elim
theorem te {c:Call} {x y} {A:Array TypeId} {y1 y2:Opd} (ho:o.op = .call c) (hc:c={ callee := .builtin .delete,args:=#[x,y],argTypes:=A }) (u:A[0]?=some t) (hu:P.underlying t=some (.map kt e)) (b:GV P kt=some ks)
 (h1:opd x=some y1) (h2:opd y=some y2) (hF:FrOK w g F a) (m:HeapOK hp g w) (q:(AOp.del ks y1 y2).sem P (evF F) hp new r ws):VRun P o a w (Post hp g w r ws):=by
 have N:=qr hF h1;subst hc;simp only [AOp.sem] at q;split at q
 . rename_i id R;split at q
   . rename_i O C L;obtain ⟨kv,T,f,rfl,q⟩:=q;rw [R] at N;obtain ⟨c,E,hv,hρ,d,Y,X,k,s⟩:=VR m L N;have hk:=Vs h2 hF T;have z:=ZW b E.isEmpty w f;rcases q with ⟨i,hm,rfl⟩ | ⟨hm,rfl⟩
     . obtain ⟨Q,V⟩:=Qg b w kv E.toList O _ k hm;have l:=V i rfl
       have p:=KW (es':=O.eraseIdx i) (ents':=E.eraseIdxIfInBounds i) (clk':=C) m L hρ d X (fun tr=>by
        have M:i<E.size:=by omega
        have e0:E.eraseIdxIfInBounds i=(E.toList.eraseIdx i).toArray:=by simp [Array.eraseIdxIfInBounds,M];apply Array.ext';simp
        refine ⟨by rw [e0];simp [qnh,Y,l],fun j hj=>?_⟩;rw [qnh,if_pos l] at hj;have N:(E.eraseIdxIfInBounds i)[j]?=if j<i then E.toList[j]? else E.toList[j+1]?:=by rw [e0,qo5,List.getElem?_eraseIdx]
        rw [N];by_cases h:j<i
        . obtain ⟨en,Z,D,J,K⟩:=s j (by omega);refine ⟨en,by rw [if_pos h];simpa using Z,?_⟩;simp only [List.getElem_eraseIdx,h,dite_true];exact ⟨D,J,K.mono tr⟩
        obtain ⟨en,Z,D,J,K⟩:=s (j+1) (by omega);refine ⟨en,by rw [if_neg h];simpa using Z,?_⟩;simp only [List.getElem_eraseIdx,h,dite_false];exact ⟨D,J,K.mono tr⟩)
       refine .of (v := .tuple #[]) ?_ ⟨g,.any _ _,p.1,p.2⟩;simp [execOp,ho,resolve,invoke,builtin,hv,hk,Builtin.delete_,u,CC hu,qU d,z,Q,Zm d]
     obtain ⟨Q,_⟩:=Qg b w kv E.toList O _ k hm;refine .of (v := .tuple #[]) (w':=w) ?_ (.nil m (.any _ _));simp [execOp,ho,resolve,invoke,builtin,hv,hk,Builtin.delete_,u,CC hu,qU d,z,Q,Zm d,SH d]
   exact q.elim
 exact q.elim
theorem LH {O:BinOp} {u v:Value} (j:¬ (u = .nilIface/\v = .nilIface)) (h:P.eqGuardType P.depth t=false):(eqGuard O t x y u v).run P w = .ok () w:=by
 have k:(match u,v with
  | .nilIface,.nilIface=>(do
    if (x matches .const _) || (y matches .const _) then return
    if ← Op.eqGuardIn Op.maxDepth t u v then unsupported (.noEntry "binop/eql: two nil values of an interface type with methods, neither of them the literal nil") : Sem Unit)
  | .agg _,.agg _=>(do
    if !(<-program).eqGuardType (<-program).depth t then return
    if ← Op.eqGuardIn Op.maxDepth t u v then unsupported (.noEntry "binop/eql: two nil values of an interface type with methods, in a part of a struct or an array"))
  | _,_=>pure ()).run P w = .ok () w:=by
  split
  . exact absurd ⟨rfl,rfl⟩ j
  . simp [run_program,h]
  rfl
 unfold eqGuard
 cases O <;> first
  | rfl
  | (simp only [qoF,qmM,qnc];exact k)
theorem CG {O t x y T} {k:KS} {V Z:Opd} {d} {neg:Bool} (R:o.op = .binOp O t x y T) (i:O=if neg then .neq else .eql) (p:GV P t=some k) (f:(k.1 || k.2==[.bool])=true) (m:P.eqGuardType P.depth t=false) (q:opd x=some V) (s:opd y=some Z) (N:FrOK w g F a) (c:HeapOK hp g w)
 (A:(AOp.eqk d neg k V Z).sem P (evF F) hp new r ws):VRun P o a w (Post hp g w r ws):=by
 obtain ⟨u,v,z,hu,hv,h,rfl,rfl⟩:=A;have E:=Vs q N hu;have M:=Vs s N hv;have e:=EC p w h
 have Q:∀ O,(eqGuard O t x y u v).run P w = .ok () w:=fun O=>by
  have K:¬ (u = .nilIface/\v = .nilIface):=fun ⟨q,s⟩=>by
   subst q s;obtain ⟨b,L⟩:=k;cases b
   . cases L with
     | nil=>simp [eqK] at h
     | cons l L=>cases L with
       | nil=>cases l <;> simp [eqK,Qb] at h
       | cons _ _=>simp [eqK] at h
   simp [eqK] at h
  exact LH K m
 refine .of (v := .bool (neg != z)) (w':=w) ?_ (.nil c (.v _ _));have x0:(Op.equalIn Op.maxDepth t u v).run P w = .ok z w:=e
 have j:((∃ X,u = .agg X)/\∃ Y,v = .agg Y)\/((∃ b,u = .bool b)/\∃ b,v = .bool b):=by
  obtain ⟨b,L⟩:=k;cases b with
  | true=>cases u <;> cases v <;> simp [eqK] at h;exact .inl ⟨⟨_,rfl⟩,_,rfl⟩
  | false =>
    have:L=[.bool]:=by simpa using f
    subst this;cases u <;> cases v <;> simp [eqK,Qb] at h;exact .inr ⟨⟨_,rfl⟩,_,rfl⟩
 have D:binOp .eql t u v=(do pure (Value.bool (<-Op.equal t u v))):=by rcases j with ⟨⟨X,rfl⟩,Y,rfl⟩ | ⟨⟨b,rfl⟩,C,rfl⟩ <;> rfl
 have J:binOp .neq t u v=(do pure (Value.bool (!(<-Op.equal t u v)))):=by rcases j with ⟨⟨X,rfl⟩,Y,rfl⟩ | ⟨⟨b,rfl⟩,C,rfl⟩ <;> rfl
 cases neg <;> subst i
 . have:(binOp .eql t u v).run P w = .ok (.bool z) w:=by rw [D];simp [e]
   simp [execOp,R,E,M,Q,this]
 have:(binOp .neq t u v).run P w = .ok (.bool !z) w:=by rw [J];simp [e]
 simp [execOp,R,E,M,Q,this]
end
section
variable {P:Program} {o:Oper} {a:Act} {w:World} {g:G} {hp:Hp} {F:Nat->AV} {new:Nat} {r:AV} {ws:List (Nat×HObj)} {ro:Option Nat} {n:Nat} {K:AV->List (Nat×HObj)->Prop}
def cf (hp:Hp) (g:G) (w:World) (K:AV->List (Nat×HObj)->Prop) (v:Value) (w':World):Prop:=∃ r ws,K r ws/\Post hp g w r ws v w'
theorem tJ {y:Opd} {d} (Z:o.op = .range t x) (D:P.underlying t=some (.map kt e)) (J:opd x=some y) (A:FrOK w g F a) (u:HeapOK hp g w) (m:hp new=none)
 (j:(AOp.rng d y).many (evF F) hp new K):VRun P o a w (cf hp g w K):=by
 have E:=qr A J;simp only [AOp.many] at j;split at j
 . rename_i id i;split at j
   . rename_i p C s;rw [i] at E;obtain ⟨c,f,R,T,L,O,N,b,z⟩:=VR u s E;have l:id≠new:=fun e=>by subst e;rw [s] at m;cases m
     obtain ⟨V,X⟩:=u.allocO m (.mapIter (some c) C #[] C) (.it id C [] C) (fun Y=>⟨c,zk _ _,Y.ρ _ _ T,rfl,fun q h=>WL u q h⟩);refine .of (v := .pointer (some ⟨w.heap.size,0,none⟩)) (w':=w.alloc (.mapIter (some c) C #[] C)) ?_ ⟨_,_,j,_,?_,V,X⟩
     . simp [execOp,Z,R,Instr.range,CC D,qU L,newObj,Sem.run]
     exact .ref _ _ _ _ (by simp [G.home])
   . rename_i Φ s;rw [i] at E;obtain ⟨p,C,hΦ,k,Q⟩:=Sk u s E;have j:=j p C hΦ;obtain ⟨c,f,R,T,L,O,N,b,z⟩:=VR k (Hp.set_same _ _ _) E;have l:id≠new:=fun e=>by subst e;rw [s] at m;cases m
     have M:Hp.set hp id (.mp p C) new=none:=by rw [Hp.set_other _ _ (qmG l)];exact m
     obtain ⟨V,X⟩:=k.allocO M (.mapIter (some c) C #[] C) (.it id C [] C) (fun Y=>⟨c,zk _ _,Y.ρ _ _ T,rfl,fun q h=>WL k q h⟩);refine .of (v := .pointer (some ⟨w.heap.size,0,none⟩)) (w':=w.alloc (.mapIter (some c) C #[] C)) ?_ ⟨_,_,j,_,?_,V,Q.trans X⟩
     . simp [execOp,Z,R,Instr.range,CC D,qU L,newObj,Sem.run]
     exact .ref _ _ _ _ (by simp [G.home])
   exact j.elim
 exact j.elim
theorem iG (k:HeapOK hp g w) {id m s L:Nat} {u:List Nat} {j:List (Value×Nat×AV)} {v:Value} (N:hp id=some (.it m s u L)) (x:hp m=some (.mp j C)) (O:Rep w g false (.ref id 0) v) :
 ∃ c M E,v = .pointer (some ⟨c,0,none⟩)/\g.ρ id=some (.blk c 0)/\w.heap[c]?=some (.mapIter (some M) s u.toArray L)/\(∀ o,¬ g.S c o)/\g.ρ m=some (.blk M 0)/\w.heap[M]?=some (.map E C)/\E.size=j.length /\
   ∀ i (h:i<j.length),∃ e,E[i]?=some e/\e.key=j[i].1/\e.born=j[i].2.1/\Rep w g false j[i].2.2 e.val:=by
 cases O with
 | ref _ _ c d q =>obtain ⟨l,y,p⟩:=k.rep id _ N;rw [q] at y;cases y;obtain ⟨M,f,z,rfl,t⟩:=p;obtain ⟨V,E,X,b,Q,R,Y,Z,T⟩:=VR k x (.mp _ M 0 z);rw [z] at b;cases b;exact ⟨c,M,E,rfl,q,f,t,z,Q,R,T⟩
theorem tI {y:Opd} {d} (ho:o.op = .next x false) (h1:opd x=some y) (hF:FrOK w g F a) (A:HeapOK hp g w)
 (X:(AOp.nxt d y).many (evF F) hp new K):VRun P o a w (cf hp g w K):=by
 have e1:=qr hF h1;simp only [AOp.many] at X;split at X
 . rename_i id y8;split at X
   . rename_i m s seen l y0;split at X
     . rename_i b M y5;obtain ⟨y7,x0,x1⟩:=X;rw [y8] at e1;obtain ⟨c,mb,E,hv,hρ,hb,y9,z2,y3,z1,t⟩:=iG A y0 y5 e1
       have x8:(!seen.toArray.isEmpty && !E.isEmpty&&E.all (fun e=>decide (e.born≥l)))=false:=by
        rcases Bool.or_eq_true_iff.1 y7 with h | h
        . rcases Bool.or_eq_true_iff.1 h with h | h
          . have:seen.toArray.isEmpty=true:=by simpa using h
            simp [this]
          have:b=[]:=by simpa using h
          subst this;have:E=#[]:=Array.eq_empty_of_size_eq_zero (by simpa using z1);subst this;simp
        have:¬ (E.all (fun e=>decide (e.born≥l)))=true:=fun x3=>by
         simp only [qmZ] at h;have:b.all (fun e=>decide (l<=e.2.1))=true:=LL.2 fun e z=>by obtain ⟨i,Z,rfl⟩:=qn6.1 z;obtain ⟨en,q1,q2,Q,q4⟩:=t i Z;have:=Array.all_eq_true'.1 x3 en (Array.mem_of_getElem? q1);rw [Q] at this;simpa using this
         rw [this] at h;cases h
        simp [Bool.eq_false_iff.2 this]
       obtain ⟨left,f⟩:∃ left,left=E.filter fun e => !seen.toArray.contains e.born:=⟨_,rfl⟩;obtain ⟨C,u⟩:∃ C:Array (Option MapEntry),C=(if (left.filter (·.born<s)).isEmpty then #[none] else #[])++(left.filter (·.born<s)++left.filter (·.born≥s)).map some:=⟨_,rfl⟩
       obtain ⟨y2,x2⟩:=A.drew
       have y1:∀ e,some e∈C->∃ i,∃ Z:i<b.length,e.key=b[i].1/\e.born=b[i].2.1/\Rep w g false b[i].2.2 e.val/\seen.contains b[i].2.1=false:=fun e z=>by
        have:e∈left:=by
         rw [u] at z;rw [qpx] at z;rcases z with z | z
         . split at z <;> simp at z
         simp only [Array.mem_map,xl,exists_eq_right,qpx,qoV] at z;rcases z with z | z <;> exact z.1
        rw [f,qoV] at this;obtain ⟨y4,x5⟩:=this;obtain ⟨i,Z,rfl⟩:=Array.mem_iff_getElem.1 y4;have x9:i<b.length:=by omega
        obtain ⟨en,q1,q2,Q,q4⟩:=t i x9;have:E[i]=en:=by simpa [Z] using q1
        rw [this] at x5 ⊢;refine ⟨i,x9,q2,Q,q4,?_⟩;rw [<-Q];simpa using x5
       have J:none∈C->(b.filter fun e => !seen.contains e.2.1&&decide (e.2.1<s)).isEmpty=true:=fun D=>by
        rw [u,qpx] at D;rcases D with D | D
        . split at D
          . rename_i x6;rw [qpB,qop];intro e z hc;obtain ⟨i,Z,rfl⟩:=qn6.1 z;obtain ⟨en,q1,q2,Q,q4⟩:=t i Z;simp only [qd,qmE] at hc;have:en∈left.filter (·.born<s):=by rw [f,qoV,qoV];refine ⟨⟨Array.mem_of_getElem? q1,?_⟩,by rw [Q];simpa using hc.2⟩;rw [Q];simpa using hc.1
            have hz:left.filter (·.born<s)=#[]:=by simpa using x6
            rw [hz] at this;simp at this
          simp at D
        simp at D
       have T:0<C.size:=by
        rw [u];by_cases hz:(left.filter (·.born<s)).isEmpty=true
        . simp only [hz,qmA];simp;omega
        simp only [hz,qmM,qnc];have:(left.filter (·.born<s)).size≠0:=fun h=>hz (by simpa using h);simp;omega
       obtain ⟨j,O,k,L,R,p,Y⟩:∃ j O,(choose (.mapNext C.size)).run P w = .ok j O/\j<C.size/\HeapOK hp g O/\Upd hp g w hp g O/\O.heap=w.heap:=by
        by_cases x7:(Question.mapNext C.size).forced=true
        . exact ⟨0,w,by simp [x7],T,A,.refl _ _ _,rfl⟩
        exact ⟨(Question.mapNext C.size).cut (w.tape w.drawn (Question.mapNext C.size)),w.drew,by simp [x7],qpw _ T,y2,x2,rfl⟩
       have y6:(getObj c).run P w = .ok (.mapIter (some mb) s seen.toArray l) w:=by simp [getObj,Sem.run,hb]
       have V:∀ v w',(match C[j]? with
        | some (some e)=>(do
          setObj c (.mapIter (some mb) s (seen.toArray.push e.born) M)
          pure (.tuple #[.bool true,e.key,e.val]):Sem Value)
        | some none=>pure (.tuple #[.bool false])
        | none => stuck "Next: no such candidate").run P O = .ok v w' → (execOp a.eval o).run P w = .ok (.value v) w' := fun v w' h => by
        have z0:(Instr.next (.pointer (some ⟨c,0,none⟩)) false o.type).run P w = .ok v w':=by
         simp only [Instr.next,qng,y6,qmR,qU y3,x8,qmM,qnc]
         rw [<-f,<-u,k];exact h
        simp [execOp,ho,hv,z0]
       have N:C[j]?=some C[j]:=by simp [L]
       cases hcv:C[j] with
       | none =>
         rw [hcv] at N;have q:none∈C:=by rw [<-hcv];exact Array.getElem_mem L
         refine .of (v := .tuple #[.bool false]) (w':=O) (V _ _ (by rw [N];rfl)) ⟨_,_,x0 (J q),g,?_,R,p⟩
         exact .tup _ _ [.bool false] rfl (fun j hj=>by
          match j,hj with
          | 0,_=>exact .v _ _)
       | some e =>
         rw [hcv] at N;have q:some e∈C:=by rw [<-hcv];exact Array.getElem_mem L
         obtain ⟨i,Z,q2,Q,q4,q5⟩:=y1 e q;have x4:O.heap[c]?=some (.mapIter (some mb) s seen.toArray l):=by rw [Y];exact hb
         obtain ⟨s1,s2⟩:=R.putO (o' := .it m s (seen++[b[i].2.1]) M) (ob := .mapIter (some mb) s (seen.toArray.push e.born) M) y0 rfl rfl hρ x4 rfl rfl (fun tr hh=>⟨mb,by rw [hh,Q];simp,tr.ρ _ _ z2,rfl,y9⟩);refine .of (v := .tuple #[.bool true,e.key,e.val]) (w':=O.putObj c (.mapIter (some mb) s (seen.toArray.push e.born) M)) (V _ _ ?_) ⟨_,_,x1 b[i] (qmr _) q5,g,?_,s1,p.trans s2⟩
         . rw [N];simp [setObj,Sem.run,x4,World.putObj]
         exact .tup _ _ [.bool true,e.key,e.val] rfl (fun j hj=>by
          match j,hj with
          | 0,_=>exact .v _ _
          | 1,_=>rw [q2];exact Qp _ _ _ _
          | 2,_=>exact q4.mono (p.tr.trans s2.tr))
     exact X.elim
   exact X.elim
 exact X.elim
theorem Dt {b:Nat}:∀ {E:List MapEntry} {s:List (Value×Nat×AV)} {e:Value×Nat×AV},E.map (·.born)=s.map (·.2.1)->s.find? (fun x=>x.2.1==b)=some e ->
 ∃ i:Nat,∃ en,E.find? (fun x=>x.born==b)=some en/\E[i]?=some en/\s[i]?=some e
 | [],s,e,h,f=>by
   have:s=[]:=by cases s <;> simp_all
   subst this;simp at f
 | x::E,[],e,h,f=>by simp at h
 | x::E,y::s,e,h,f=>by
   simp only [wI,qoj] at h;rw [qo8] at f;rw [qo8,h.1];cases hc:(y.2.1==b) with
   | true=>rw [hc] at f;simp at f;subst f;exact ⟨0,x,rfl,rfl,rfl⟩
   | false =>rw [hc] at f;obtain ⟨i,en,u,v,j⟩:=Dt h.2 f;exact ⟨i+1,en,u,v,j⟩
theorem tg {y:Opd} {d} (ho:o.op = .entry x) (J:opd x=some y) (hF:FrOK w g F a) (L:HeapOK hp g w)
 (s:(AOp.ent d y).many (evF F) hp new K):VRun P o a w (cf hp g w K):=by
 have Y:=qr hF J;simp only [AOp.many] at s;split at s
 . rename_i id T;split at s
   . rename_i m z seen Z V;split at s
     . rename_i D C N;obtain ⟨rfl,b,e,l,f,hK⟩:=s;rw [T] at Y;obtain ⟨c,mb,t,hv,hρ,hb,x0,x1,M,X,h⟩:=iG L V N Y;have u:t.toList.map (·.born)=D.map (·.2.1):=by refine qm4 (by simp [X]) fun i R p=>?_;simp at R p;obtain ⟨e,A,_,h4,_⟩:=h i p;obtain ⟨_,h5⟩:=qms.1 A;simp [h5,h4]
       obtain ⟨i,en,f1,f2,f3⟩:=Dt u f;obtain ⟨R,rfl⟩:=qml.1 f3;obtain ⟨E,q1,q2,q3,q4⟩:=h i R
       have:E=en:=by
        have:t[i]?=some en:=by simpa using f2
        rw [q1] at this;exact qnq this
       subst this;have O:t.find? (fun x=>x.born==b)=some E:=by rw [show t=t.toList.toArray by simp,List.find?_toArray];exact f1
       have k:seen.toArray.back?=some b:=by simpa using l
       have Q:(getObj c).run P w = .ok (.mapIter (some mb) z seen.toArray C) w:=by simp [getObj,Sem.run,hb]
       have q:(Instr.entry (.pointer (some ⟨c,0,none⟩))).run P w = .ok (.tuple #[E.key,E.val]) w:=by simp only [Instr.entry,qng,Q,qmR,k,qU M];simp [O]
       refine .of (v := .tuple #[E.key,E.val]) (w':=w) (by simp [execOp,ho,hv,q]) ⟨_,_,hK,.nil L ?_⟩
       exact .tup _ _ [E.key,E.val] rfl (fun j hj=>by
        match j,hj with
        | 0,_=>rw [q2];exact Qp _ _ _ _
        | 1,_=>exact q4)
     exact s.elim
   exact s.elim
 exact s.elim
def QD:Nat->Value
 | 0 => .slice none 0 0
 | 1 => .pointer none
 | 2 => .map none
 | _ => .nilFunc
def Ju (k:Nat):Option TypeDesc->Bool
 | some (.slice _)=>k==0
 | some (.pointer _)=>k==1
 | some (.map _ _)=>k==2
 | some (.func _ _ _)=>k==3
 | _=>false
theorem LI {O:BinOp} {u v:Value} (h:¬ (u = .nilIface/\v = .nilIface)) (j:¬ ∃ X Y,u = .agg X/\v = .agg Y):(eqGuard O t x y u v).run P w = .ok () w:=by
 have k:(match u,v with
  | .nilIface,.nilIface=>(do
    if (x matches .const _) || (y matches .const _) then return
    if ← Op.eqGuardIn Op.maxDepth t u v then unsupported (.noEntry "binop/eql: two nil values of an interface type with methods, neither of them the literal nil") : Sem Unit)
  | .agg _,.agg _=>(do
    if !(<-program).eqGuardType (<-program).depth t then return
    if ← Op.eqGuardIn Op.maxDepth t u v then unsupported (.noEntry "binop/eql: two nil values of an interface type with methods, in a part of a struct or an array"))
  | _,_=>pure ()).run P w = .ok () w:=by
  split
  . exact absurd ⟨rfl,rfl⟩ h
  . exact absurd ⟨_,_,rfl,rfl⟩ j
  rfl
 unfold eqGuard
 cases O <;> first
  | rfl
  | (simp only [qoF,qmM,qnc];exact k)
theorem CI {neg:Bool} {R t x Z} {y:Opd} {d} (ho:o.op = .binOp R t x (.const (QD k)) Z) (x1:R=if neg then .neq else .eql) (j:Ju k (P.underlying t)=true)
 (O:opd x=some y) (hF:FrOK w g F a) (x0:HeapOK hp g w) (u:(AOp.isn d neg k y).many (evF F) hp new K):VRun P o a w (cf hp g w K):=by
 have e:=qr hF O
 have fin:∀ (v:Value) (z:Bool),a.eval x=v->(binOp .eql t v (QD k)).run P w = .ok (.bool z) w->(binOp .neq t v (QD k)).run P w = .ok (.bool !z) w->(∀ R,(eqGuard R t x (.const (QD k)) v (QD k)).run P w = .ok () w)->K (B (neg != z)) []->VRun P o a w (cf hp g w K):=fun v z i O T V hK=>by
  refine .of (v := .bool (neg != z)) (w':=w) ?_ ⟨_,_,hK,.nil x0 (.v _ _)⟩;have E:a.eval (.const (QD k))=QD k:=rfl;cases neg <;> subst x1
  . simp [execOp,ho,i,E,O,V]
  simp [execOp,ho,i,E,T,V]
 have M:∀ (v:Value),v ≠ .nilIface->∀ R,(eqGuard R t x (.const (QD k)) v (QD k)).run P w = .ok () w:=fun v i R=>by
  refine LI (fun h=>i h.1) ?_;rintro ⟨xs,ys,-,h⟩
  match k,h with
  | 0,h=>cases h
  | 1,h=>cases h
  | 2,h=>cases h
  | _+3,h=>cases h
 have Y:∀ (v:Value) (z:Bool),binOp .eql t v (QD k)=(do pure (Value.bool (<- Op.equal t v (QD k))))->binOp .neq t v (QD k)=(do pure (Value.bool (!(<- Op.equal t v (QD k)))))->(Op.equalIn (9999+1) t v (QD k)).run P w = .ok z w ->
  (binOp .eql t v (QD k)).run P w = .ok (.bool z) w/\(binOp .neq t v (QD k)).run P w = .ok (.bool !z) w:=fun v z O T V=>by
  have h4:(Op.equal t v (QD k)).run P w = .ok z w:=V;rw [O,T];simp [h4]
 have s:∀ (A:Option Addr) (n c:Nat),k=0->(binOp .eql t (.slice A n c) (QD k)).run P w = .ok (.bool A.isNone) w/\(binOp .neq t (.slice A n c) (QD k)).run P w = .ok (.bool !A.isNone) w:=fun A n c h=>by
  subst h;refine Y _ _ rfl rfl ?_;cases hd:P.underlying t with
  | none=>rw [hd] at j;simp [Ju] at j
  | some D =>cases D <;> rw [hd] at j <;> simp [Ju] at j;generalize 9999=d;cases A <;> simp [QD,Op.equalIn,CC hd]
 have p:∀ (A:Option Addr),k=1->(binOp .eql t (.pointer A) (QD k)).run P w = .ok (.bool A.isNone) w/\(binOp .neq t (.pointer A) (QD k)).run P w = .ok (.bool !A.isNone) w:=fun A h=>by
  subst h;refine Y _ _ rfl rfl ?_;cases hd:P.underlying t with
  | none=>rw [hd] at j;simp [Ju] at j
  | some D =>cases D <;> rw [hd] at j <;> simp [Ju] at j;generalize 9999=d;cases A <;> simp [QD,Op.equalIn,CC hd]
 have L:∀ (A:Option Nat),k=2->(binOp .eql t (.map A) (QD k)).run P w = .ok (.bool A.isNone) w/\(binOp .neq t (.map A) (QD k)).run P w = .ok (.bool !A.isNone) w:=fun A h=>by
  subst h;refine Y _ _ rfl rfl ?_;cases hd:P.underlying t with
  | none=>rw [hd] at j;simp [Ju] at j
  | some D =>cases D <;> rw [hd] at j <;> simp [Ju] at j;generalize 9999=d;cases A <;> simp [QD,Op.equalIn,CC hd]
 have Q:∀ f as C,k=3->(binOp .eql t (.func f as C) (QD k)).run P w = .ok (.bool false) w/\(binOp .neq t (.func f as C) (QD k)).run P w = .ok (.bool !false) w:=fun f as C h=>by
  subst h;refine Y _ _ rfl rfl ?_;cases hd:P.underlying t with
  | none=>rw [hd] at j;simp [Ju] at j
  | some D =>cases D <;> rw [hd] at j <;> simp [Ju] at j;generalize 9999=d;simp [QD,Op.equalIn,CC hd]
 have X:k=3->(binOp .eql t .nilFunc (QD k)).run P w = .ok (.bool true) w/\(binOp .neq t .nilFunc (QD k)).run P w = .ok (.bool !true) w:=fun h=>by
  subst h;refine Y _ _ rfl rfl ?_;cases hd:P.underlying t with
  | none=>rw [hd] at j;simp [Ju] at j
  | some D =>cases D <;> rw [hd] at j <;> simp [Ju] at j;generalize 9999=d;simp [QD,Op.equalIn,CC hd]
 have N:∀ z,K (B false) []->K (B true) []->K (B (neg != z)) []:=fun z O T=>by cases (neg != z) <;> assumption
 generalize i:a.eval x=v at e;simp only [AOp.many] at u;split at u
 . rename_i x2 n cs m;rw [m] at e;cases e with
   | sl _ _ _ _ A J vs hn hf E hr =>
     split at u
     . exact fin _ A.isNone i (s _ _ _ rfl).1 (s _ _ _ rfl).2 (M _ (by simp)) (N _ u.1 u.2)
     obtain ⟨x3,rfl,_⟩:=E 0 (by simp);exact fin _ false i (s _ _ _ rfl).1 (s _ _ _ rfl).2 (M _ (by simp)) (by simpa using u)
 . rename_i id off n sz m;rw [m] at e;cases e with
   | ms _ _ _ _ c d J x4 Z fz O T V h4 =>
     by_cases h0:n=0
     . exact fin _ _ i (s _ _ _ rfl).1 (s _ _ _ rfl).2 (M _ (by simp)) (N _ (u.2 h0).1 (u.2 h0).2)
     exact fin _ _ i (s _ _ _ rfl).1 (s _ _ _ rfl).2 (M _ (by simp)) (by simpa using u.1 h0)
   | msz _ _ _ A l O=>exact fin _ _ i (s _ _ _ rfl).1 (s _ _ _ rfl).2 (M _ (by simp)) (N _ (u.2 rfl).1 (u.2 rfl).2)
 . rename_i cs off m;rw [m] at e;cases e with
   | ptr _ _ _ b q vs O T=>exact fin _ _ i (p _ rfl).1 (p _ rfl).2 (M _ (by simp)) (by simpa using u)
 . rename_i id off m;rw [m] at e;cases e with
   | ref _ _ c d O=>exact fin _ _ i (p _ rfl).1 (p _ rfl).2 (M _ (by simp)) (by simpa using u)
 . rename_i id m;rw [m] at e;cases e with
   | mp _ c d O=>exact fin _ _ i (L _ rfl).1 (L _ rfl).2 (M _ (by simp)) (by simpa using u)
 . rename_i f as C m;rw [m] at e;cases e with
   | fn _ _ _ _ xs ys _ _ _ _=>exact fin _ _ i (Q _ _ _ rfl).1 (Q _ _ _ rfl).2 (M _ (by simp)) (by simpa using u)
 . rename_i m;rw [m] at e;have:=zZ e;subst this;exact fin _ _ i (s _ _ _ rfl).1 (s _ _ _ rfl).2 (M _ (by simp)) (by simpa using u)
 . rename_i m;rw [m] at e;have:=zZ e;subst this;exact fin _ _ i (p _ rfl).1 (p _ rfl).2 (M _ (by simp)) (by simpa using u)
 . rename_i m;rw [m] at e;have:=zZ e;subst this;exact fin _ _ i (L _ rfl).1 (L _ rfl).2 (M _ (by simp)) (by simpa using u)
 . rename_i m;rw [m] at e;have:=zZ e;subst this;exact fin _ _ i (X rfl).1 (X rfl).2 (M _ (by simp)) (by simpa using u)
 exact u.elim
end
section
variable {P:Program} {o:Oper} {a:Act} {w:World} {g:G} {hp:Hp} {F:Nat->AV} {new:Nat} {r:AV} {ws:List (Nat×HObj)}
theorem KH:∀ (l:List UInt8) (A:ByteArray),(l.map fun b:UInt8=>((b.toNat:Nat):Int)).foldl (fun r n=>r.push (UInt8.ofNat n.toNat)) A=⟨(A.data.toList++l).toArray⟩
 | [],A=>by simp
 | b::l,A=>by rw [wI,qnZ,KH l];simp [ByteArray.push]
theorem fV {t T e x} {Y:Opd} {d} (X:o.op = .convert t T x) (C:P.underlying t=some (.slice e)) (Q:P.underlying e=some (.int .u8)) (m:P.underlying T=some .string)
 (N:opd x=some Y) (O:FrOK w g F a) (k:HeapOK hp g w)
 (Z:(AOp.b2s d Y).sem P (evF F) hp new r ws):VRun P o a w (Post hp g w r ws):=by
 have E:=qr O N;obtain ⟨s,y,rfl,rfl⟩:=Z;have p:((QV s).all AV.isPC)=true:=by rw [LL];intro x D;obtain ⟨b,_,rfl⟩:=gm.1 D;rfl
 obtain ⟨A,c,M,V,J,l,h,_,n⟩:=Ky (P:=P) k y p E
 have j:J=s.map fun b:UInt8=>Value.int .u8 b.toNat:=by
  refine qm4 (by rw [l];simp) fun i L R=>?_;have q:i<(QV s).length:=by rw [V,<-l];exact L
  obtain ⟨u,v,z⟩:=n i q;simp only [QV,qmv] at z;have:=zZ z;rw [Wd L] at v;simp only [xl] at v;rw [v,this,qmv]
 have f:=h s.length (Qs _);rw [qmn (by omega),M] at f
 have K:(Conv.bytesToString (.slice A s.length c)).run P w = .ok (.string ⟨s.toArray⟩) w:=by
  cases A with
  | none =>
    simp [Builtin.firstCells] at f;have:s=[]:=by rw [f] at j;exact (List.map_eq_nil_iff.1 j.symm)
    subst this;simp [Conv.bytesToString];rfl
  | some b =>
    simp only [Builtin.firstCells,qnj] at f;rw [j] at f;have e:(s.map fun b:UInt8=>Value.int .u8 b.toNat)=(s.map fun b:UInt8=>((b.toNat:Nat):Int)).map (Value.int .u8):=by rw [qmU];rfl
    rw [e] at f;rw [run_bytesToString w b s.length c _ f,KH];simp [ByteArray.empty,ByteArray.emptyWithCapacity];rfl
 exact .of (by simp [execOp,X,M,run_convert_bytes_string w t T e A _ c C Q m,K]) (.nil k (.v _ _))
theorem HeapOK.bytes_pub {hp g w} (h:HeapOK hp g w) (e:TypeId) (s:ByteArray) :
 HeapOK hp (g.pub fun b q=>b=w.heap.size/\q<s.size) (Lib.bytesWorld w e s) /\
 Upd hp g w hp (g.pub fun b q=>b=w.heap.size/\q<s.size) (Lib.bytesWorld w e s):=by
 have lt:∀ {b q v},w.cell? ⟨b,q,none⟩=some v->b<w.heap.size:=fun K=>qoi _ _ K
 have tr:Trans w g (Lib.bytesWorld w e s) (g.pub fun b q=>b=w.heap.size/\q<s.size) :=
  ⟨fun _ _ x => .inl x,fun b q X=>by
   obtain ⟨v,K⟩:=h.ex b q X;exact Lib.bytesWorld_old w e s _ (lt K),fun i l' hi=>hi,fun b A ty fz hb=>⟨A,(qo4 w e s b (qms.1 hb).1).trans hb,rfl⟩,rfl,rfl,rfl,
   by rw [Lib.bytesWorld_size];omega,Qs _⟩
 refine ⟨h.change (fun _=>False) tr (fun _ _=>rfl) (fun _ _=>rfl) (fun i o c d hi ho hl y=>qo4 _ _ _ _ (h.lt ho hl y)) (fun i o c d hi ho hl y q O=>?_) (fun _ h=>h.elim) (fun _ _ _ _ _ _ _ h=>h.elim) ?_,tr,fun c hc => .inl hc,?_,fun b hb _=>qo4 _ _ _ _ hb⟩
 . rcases O with O | ⟨rfl,_⟩
   . exact O
   exact absurd (h.lt ho hl y) (qny _)
 . rintro b q (X | ⟨rfl,O⟩)
   . obtain ⟨v,K⟩:=h.ex b q X;exact ⟨v,(tr.cell b q (X)).trans K⟩
   exact ⟨_,Lib.bytesWorld_cell w e s q O⟩
 rintro b q (X | ⟨rfl,O⟩)
 . exact .inl X
 exact .inr (.inr (Qs _))
theorem tK {t T e x} {Y:Opd} {d} (l:o.op = .convert t T x) (p:P.underlying t=some .string) (y:P.underlying T=some (.slice e)) (f:P.underlying e=some (.int .u8))
 (b:opd x=some Y) (m:FrOK w g F a) (k:HeapOK hp g w)
 (z:(AOp.s2b d Y).sem P (evF F) hp new r ws):VRun P o a w (Post hp g w r ws):=by
 have q:=qr m b;simp only [AOp.sem] at z;split at z
 . rename_i s c;obtain ⟨rfl,rfl⟩:=z;rw [c] at q;have E:=zZ q;obtain ⟨n,L⟩:=k.bytes_pub e s;refine .of (v := .slice (some ⟨w.heap.size,0,none⟩) s.size (grownCap w s.size 0 e)) (w':=Lib.bytesWorld w e s) (by simp [execOp,l,E,Lib.run_convert_string_bytes w t T e s p y f]) ⟨_,?_,n,L⟩;refine .sl _ _ _ _ _ _ (fun i => .int .u8 (s.data.toList.getD i 0).toNat) (grownCap_ge _ _ _ _) (fun h=>by cases h) (fun i j=>?_) (fun i j=>?_)
   . have u:i<s.size:=by rw [QV,qmq] at j;exact j
     exact ⟨_,rfl,rfl,.inr ⟨rfl,by show 0+i<_;omega⟩,by simpa using Lib.bytesWorld_cell w e s i u⟩
   have u:i<s.data.toList.length:=by simpa [QV] using j
   simp only [QV,qmv,qmp,Wd u,qoD];exact .v _ _
 exact z.elim
end
def VU (P:Program):List Field->Option (List (Nat×Nat))
 | []=>some []
 | f::s=>match qW P f.type,VU P s with
   | some (_,z),some l=>some ((f.offset,z)::l)
   | _,_=>none
def Ua (p:List (Nat×Nat)) (m:Nat):List (Nat×Operand)->Option (List (Nat×Nat×Opd))
 | []=>some []
 | (i,x)::l=>match p[i]?,opd x,Ua p m l with
   | some (off,s),some y,some r=>if off+s<=m then some ((off,s,y)::r) else none
   | _,_,_=>none
def Uc (n:Nat):List (Nat×Operand)->Option (List (Nat×Opd))
 | []=>some []
 | (i,x)::l=>match opd x,Uc n l with
   | some y,some r=>if i<n then some ((i,y)::r) else none
   | _,_=>none
def DZ (s m:Nat):List (Nat×Operand)->Option (List (Nat×Nat×Opd))
 | []=>some []
 | (i,x)::l=>match opd x,DZ s m l with
   | some y,some r=>if i*s+s<=m then some ((i*s,s,y)::r) else none
   | _,_=>none
def Pt:Operand->Option Nat
 | .const (.slice none 0 0)=>some 0
 | .const (.pointer none)=>some 1
 | .const (.map none)=>some 2
 | .const .nilFunc=>some 3
 | _=>none
def Vb (P:Program) (d:Nat) (o:BinOp) (t:TypeId) (x y:Operand):Option AOp :=
 match opd x,Pt y with
 | some x,some k=>if Ju k (P.underlying t) then (match o with | .eql=>some (.isn d false k x) | .neq=>some (.isn d true k x) | _=>none) else none
 | _,_=>none
def Va (P:Program) (d:Nat) (o:BinOp) (t:TypeId) (x y:Operand):Option AOp :=
 match opd x,opd y,GV P t with
 | some x,some y,some k=>if (k.1 || k.2==[.bool]) && !P.eqGuardType P.depth t then (match o with | .eql=>some (.eqk d false k x y) | .neq=>some (.eqk d true k x y) | _=>none) else none
 | _,_,_=>none
def YZ (P:Program) (d:Nat) (o:BinOp) (t:TypeId) (x y:Operand):Option AOp :=
 match opd x,opd y,P.underlying t with
 | some x,some y,some (.int _)=>some (.bin d o x y)
 | some x,some y,some .string=>some (.bin d o x y)
 | _,_,_=>match Vb P d o t x y with
   | some a=>some a
   | none=>match Va P d o t x y with
     | some a=>some a
     | none=>match opd x,opd y with
       | some x,some y=>some (.bing d o t x y)
       | _,_=>none
def Hj (P:Program) (d:Nat) (t:TypeId) (x i:Operand):Option AOp :=
 match opd x,opd i,P.underlying t with
 | some x,some i,some (.slice e)=>match qW P e with
   | some (_,s)=>if s≠0 then some (.ia d s x i) else none
   | none=>none
 | some x,some i,some (.array l e)=>match qW P e with
   | some (_,s)=>some (.iaa d l s x i)
   | none=>none
 | _,_,_=>none
def Ws (P:Program) (d:Nat) (t:TypeId) (x i:Operand):Option AOp :=
 match opd x,opd i,P.underlying t with
 | some x,some i,some .string=>some (.ids d x i)
 | some x,some i,some (.array l e)=>match qW P e with
   | some (agg,s)=>some (.idx d l agg s x i)
   | none=>none
 | _,_,_=>none
def Nf:Option Operand->Option (Option Opd)
 | none=>some none
 | some x=>(opd x).map some
def Wt (P:Program) (d:Nat) (t:TypeId) (x:Operand) (l h m:Option Operand):Option AOp :=
 match opd x,Nf l,Nf h,Nf m,P.underlying t with
 | some x,some l,some h,some m,some (.slice e)=>match qW P e with
   | some (_,s)=>some (.slc d s x l h m)
   | none=>none
 | some x,some l,some h,some none,some .string=>some (.sls d x l h)
 | some x,some l,some h,some m,some (.pointer tp)=>match P.underlying tp with
   | some (.array L e)=>match qW P e with
     | some (_,s)=>some (.slp d s L x l h m)
     | none=>none
   | _=>none
 | some x,some l,some h,some m,some (.array L e)=>match qW P e with
   | some (_,s)=>some (.slp d s L x l h m)
   | none=>none
 | _,_,_,_,_=>none
def JG (P:Program) (d:Nat) (t:TypeId) (x:Operand):Option AOp :=
 match opd x,P.underlying t with
 | some x,some (.slice _)=>some (.len d x)
 | some x,some .string=>some (.lns d x)
 | some x,some (.map _ _)=>some (.lnm d x)
 | some _,some (.array n _)=>some (.mv d (.k (I n)))
 | _,_=>none
def JF (P:Program) (d:Nat) (t T:TypeId) (x y:Operand):Option AOp :=
 match opd x,opd y,P.underlying t,P.underlying T with
 | some x,some y,some (.slice e),some (.slice _)=>match qW P e,P.info? e,Qk P e with
   | some (_,s),some i,some z=>if z.length=s then some (.app d s i.bytes x y) else none
   | _,_,_=>none
 | some x,some y,some (.slice e),some (.int _)=>match qW P e,P.info? e,Qk P e with
   | some (_,s),some i,some z=>if z.length=s/\(z.all AV.isPC)=true then some (.appz d s i.bytes z x y) else none
   | _,_,_=>none
 | some x,some y,some (.slice e),some .string=>match qW P e,P.info? e,Qk P e with
   | some (_,1),some i,some z=>if z.length=1 then some (.apps d i.bytes x y) else none
   | _,_,_=>none
 | _,_,_,_=>none
def ZH (P:Program) (d:Nat) (c:Call):Option AOp :=
 match c with
 | { callee := .builtin .len,args:=⟨[x]⟩,argTypes:=⟨[t]⟩ }=>JG P d t x
 | { callee := .builtin .append,args:=⟨[x,y]⟩,argTypes:=⟨[t,u]⟩ }=>JF P d t u x y
 | { callee := .builtin .copy,args:=⟨[x,y]⟩,argTypes:=⟨t::_⟩ }=>match opd x,opd y,P.underlying t with
   | some x,some y,some (.slice e)=>match qW P e with
     | some (_,s)=>some (.cpy d s x y)
     | none=>none
   | _,_,_=>none
 | { callee := .builtin .cap,args:=⟨[x]⟩,argTypes:=⟨[t]⟩ }=>match opd x,P.underlying t with
   | some x,some (.slice _)=>some (.cap d x)
   | _,_=>none
 | { callee := .builtin .max,args:=⟨[x,y]⟩,argTypes:=_ }=>match opd x,opd y with
   | some x,some y=>some (.mx d true x y)
   | _,_=>none
 | { callee := .builtin .min,args:=⟨[x,y]⟩,argTypes:=_ }=>match opd x,opd y with
   | some x,some y=>some (.mx d false x y)
   | _,_=>none
 | { callee := .value (.func f),args:=args,argTypes:=_ }=>match opds args.toList with
   | some q=>if jB P f then some (.call d f q) else some (.callx d f q)
   | none=>none
 | { callee := .value x,args:=args,argTypes:=_ }=>match opd x,opds args.toList with
   | some x,some q=>some (.callv d x q)
   | _,_=>none
 | _=>none
def Ih (P:Program) (t:TypeId):Option Value:=(P.info? t).bind (·.zero)
theorem Uu {z:Value} (h:Ih P t=some z) (w:World):(zeroValue t).run P w = .ok z w:=by simp only [Ih,qoh] at h;obtain ⟨i,u,v⟩:=h;simp [zeroValue,typeInfo,u,v]
def ZE (P:Program) (t:TypeId) (m k v:Operand):Option AOp :=
 match opd m,opd k,opd v,P.underlying t with
 | some m,some k,some v,some (.map u _)=>match GV P u with
   | some K=>some (.ins K m k v)
   | none=>none
 | _,_,_,_=>none
def jL (P:Program) (c:Call):Option AOp :=
 match c with
 | { callee := .builtin .clear,args:=⟨[x]⟩,argTypes:=⟨[t]⟩ }=>match opd x,P.underlying t with
   | some x,some (.slice e)=>match qW P e,Qk P e with
     | some (_,s),some z=>if z.length=s/\(z.all AV.isPC)=true then some (.clr s z x) else none
     | _,_=>none
   | _,_=>none
 | { callee := .builtin .delete,args:=⟨[x,y]⟩,argTypes:=⟨t::_⟩ }=>match opd x,opd y,P.underlying t with
   | some x,some y,some (.map K _)=>match GV P K with
     | some k=>some (.del k x y)
     | none=>none
   | _,_,_=>none
 | _=>none
def zl (P:Program) (d:Nat) (o:Op):Option AOp :=
 match o with
 | .move x | .assign x=>(opd x).map (.mv d)
 | .pick c a b=>match opd c,opd a,opd b with
   | some c,some a,some b=>some (.pick d c a b)
   | _,_,_=>none
 | .binOp o T x y _=>YZ P d o T x y
 | .unOp o _ x=>(opd x).map (.un d o)
 | .extract x i=>(opd x).map fun x => .ext d x i
 | .load t x=>match qW P t,opd x with
   | some (agg,v),some x=>some (.ld d agg v x)
   | _,_=>none
 | .box t x=>match qW P t,opd x with
   | some (_,v),some x=>some (.box d v x)
   | _,_=>none
 | .alloc t=>(Qk P t).map (.al d)
 | .buildSlice t n p=>match P.underlying t with
   | some (.slice e)=>match qW P e,Qk P e,Uc n p.toList with
     | some (_,v),some z,some Q=>if z.length=v/\n*v<=16777216 then some (.bsl d n v z Q) else none
     | _,_,_=>none
   | _=>none
 | .build t p=>match P.underlying t with
   | some (.struct fields)=>match Qk P t,VU P fields.toList with
     | some z,some r=>(Ua r z.length p.toList).map (.bld d z)
     | _,_=>none
   | some (.array _ e)=>match Qk P t,qW P e with
     | some z,some (_,v)=>(DZ v z.length p.toList).map (.bld d z)
     | _,_=>none
   | _=>none
 | .fieldAddr s x j=>match P.underlying s,opd x with
   | some (.struct fields),some x=>match fields[j]? with
     | some f=>match qW P f.type with
       | some (_,v)=>if v≠0 then some (.fa d x f.offset) else none
       | none=>none
     | none=>none
   | _,_=>none
 | .field t x j=>match P.underlying t,opd x with
   | some (.struct fields),some x=>match fields[j]? with
     | some f=>match qW P f.type with
       | some (agg,v)=>some (.fld d agg v f.offset x)
       | none=>none
     | none=>none
   | _,_=>none
 | .indexAddr t x i=>Hj P d t x i
 | .index t x i=>Ws P d t x i
 | .slice t x L h M=>Wt P d t x L h M
 | .makeSlice t l c=>match P.underlying t,opd l,opd c with
   | some (.slice e),some l,some c=>match qW P e,P.info? e,Qk P e with
     | some (_,v),some i,some z=>some (.mks d v i.bytes z l c)
     | _,_,_=>none
   | _,_,_=>none
 | .convert t u x=>match P.underlying t,P.underlying u,opd x with
   | some (.int _),some (.int k),some x=>some (.cnv d k x)
   | some (.slice e),some .string,some x=>match P.underlying e with
     | some (.int .u8)=>some (.b2s d x)
     | _=>none
   | some .string,some (.slice e),some x=>match P.underlying e with
     | some (.int .u8)=>some (.s2b d x)
     | _=>none
   | _,_,_=>none
 | .nilCheck x=>(opd x).map (.nilc d)
 | .makeMap _ none=>some (.mkm d)
 | .lookup t m k ok=>match opd m,opd k,P.underlying t with
   | some m,some k,some (.map g e)=>match GV P g,Ih P e with
     | some K,some Z=>some (.lku d K (AV.ofValue Z) ok m k)
     | _,_=>none
   | _,_,_=>none
 | .mapEntry t m k=>match opd m,opd k,P.underlying t with
   | some m,some k,some (.map g e)=>match GV P g,Ih P e with
     | some K,some Z=>some (.mpe d K (AV.ofValue Z) m k)
     | _,_=>none
   | _,_,_=>none
 | .range t x=>match opd x,P.underlying t with
   | some x,some (.map _ _)=>some (.rng d x)
   | _,_=>none
 | .next x false=>(opd x).map (.nxt d)
 | .entry x=>(opd x).map (.ent d)
 | .makeFunc f q C=>match opds q.toList,opds C.toList with
   | some q,some C=>some (.mkf d f q C)
   | _,_=>none
 | .call c=>ZH P d c
 | _=>none
def Ql (P:Program) (N:Nat) (o:Oper):Option AOp :=
 match o.dst,o.op with
 | none,.store t x y=>match qW P t,opd x,opd y with
   | some (_,z),some x,some y=>some (.st z x y)
   | _,_,_=>none
 | none,.insert t m k v=>ZE P t m k v
 | none,.mapUpdate t m k v=>ZE P t m k v
 | none,.entryStore _ m s v=>match opd m,opd s,opd v with
   | some m,some s,some v=>some (.est m s v)
   | _,_,_=>none
 | none,.call c=>jL P c
 | some d,O=>if d<N then zl P d O else none
 | none,_=>none
theorem Qo {x:Option Operand} {y:Option Opd} (h:Nf x=some y):NJ x y:=by
 cases x with
 | none=>simp [Nf] at h;subst h;trivial
 | some x =>simp only [Nf,RL] at h;obtain ⟨z,u,rfl⟩:=h;exact u
theorem HD {n:Nat}:∀ {l:List (Nat×Operand)} {q:List (Nat×Opd)},Uc n l=some q->q.length=l.length/\∀ i (h:i<l.length) (s:i<q.length),l[i].1=q[i].1/\opd l[i].2=some q[i].2/\q[i].1<n
 | [],q,h=>by simp [Uc] at h;subst h;simp
 | (i,x)::l,q,h=>by
   simp only [Uc] at h;split at h
   . rename_i y r v z;split at h
     . rename_i t;simp only [xl] at h;subst h;obtain ⟨L,g⟩:=HD z;refine ⟨by simp [L],fun j o u=>?_⟩;cases j with
       | zero=>exact ⟨rfl,v,t⟩
       | succ j=>exact g j (by simpa using o) (by simpa using u)
     cases h
   cases h
theorem Xq {P:Program}:∀ {l:List Field} {p:List (Nat×Nat)},VU P l=some p->p.length=l.length/\∀ i (h:i<l.length) (q:i<p.length),p[i].1=l[i].offset/\∃ agg,qW P l[i].type=some (agg,p[i].2)
 | [],p,h=>by simp [VU] at h;subst h;simp
 | f::l,p,h=>by
   simp only [VU] at h;split at h
   . rename_i agg s r v z;simp only [xl] at h;subst h;obtain ⟨L,o⟩:=Xq z;refine ⟨by simp [L],fun j y u=>?_⟩;cases j with
     | zero=>exact ⟨rfl,_,v⟩
     | succ j=>exact o j (by simpa using y) (by simpa using u)
   cases h
theorem HC {p:List (Nat×Nat)} {m:Nat}:∀ {l:List (Nat×Operand)} {q:List (Nat×Nat×Opd)},Ua p m l=some q->q.length=l.length/\∀ i (h:i<l.length) (b:i<q.length),p[l[i].1]?=some (q[i].1,q[i].2.1)/\opd l[i].2=some q[i].2.2/\q[i].1+q[i].2.1<=m
 | [],q,h=>by simp [Ua] at h;subst h;simp
 | (i,x)::l,q,h=>by
   simp only [Ua] at h;split at h
   . rename_i off f y r v z o;split at h
     . rename_i t;simp only [xl] at h;subst h;obtain ⟨L,s⟩:=HC o;refine ⟨by simp [L],fun j g u=>?_⟩;cases j with
       | zero=>exact ⟨v,z,t⟩
       | succ j=>exact s j (by simpa using g) (by simpa using u)
     cases h
   cases h
theorem HA {s m:Nat}:∀ {l:List (Nat×Operand)} {q:List (Nat×Nat×Opd)},DZ s m l=some q->q.length=l.length/\∀ i (h:i<l.length) (b:i<q.length),q[i].1=l[i].1*s/\q[i].2.1=s/\opd l[i].2=some q[i].2.2/\q[i].1+q[i].2.1<=m
 | [],q,h=>by simp [DZ] at h;subst h;simp
 | (i,x)::l,q,h=>by
   simp only [DZ] at h;split at h
   . rename_i y r v z;split at h
     . rename_i t;simp only [xl] at h;subst h;obtain ⟨L,g⟩:=HA z;refine ⟨by simp [L],fun j o u=>?_⟩;cases j with
       | zero=>exact ⟨rfl,rfl,v,t⟩
       | succ j=>exact g j (by simpa using o) (by simpa using u)
     cases h
   cases h
section
variable {P:Program} {o:Oper} {a:Act} {w:World} {g:G} {hp:Hp} {F:Nat->AV} {new:Nat} {r:AV} {ws:List (Nat×HObj)} {ro:Option Nat} {n:Nat}
theorem qi1 {op:Op} {ao:AOp} (j:zl P d op=some ao) (O:o.op=op) (R:FrOK w g F a) (q:HeapOK hp g w) (A:hp new=none) (N:ao.sem P (evF F) hp new r ws) :
 OpRun ro n P o a w (Post hp g w r ws):=by
 have Q:(∀ c,op≠.defer c)->∀ c,o.op≠.defer c:=fun h=>by rw [O];exact h
 cases op with
 | move x =>simp only [zl,RL] at j;obtain ⟨y,p,rfl⟩:=j;exact .of_value (Q (by simp)) (na (.inl O) p R q N)
 | assign x =>simp only [zl,RL] at j;obtain ⟨y,p,rfl⟩:=j;exact .of_value (Q (by simp)) (na (.inr O) p R q N)
 | pick c x y =>
   simp only [zl] at j;split at j
   . rename_i p L Y;cases j;exact .of_value (Q (by simp)) (xO O p L Y R q N)
   cases j
 | binOp op ty x y x8 =>
   simp only [zl,YZ] at j;split at j
   . rename_i p L Y;cases j;exact .of_value (Q (by simp)) (CD O p L R q N)
   . rename_i p L Y;cases j;exact .of_value (Q (by simp)) (CD O p L R q N)
   split at j
   . rename_i x2 V;cases j;simp only [Vb] at V;split at V
     . split at V
       . split at V
         . cases V;exact N.elim
         . cases V;exact N.elim
         cases V
       cases V
     cases V
   split at j
   . rename_i x2 V;cases j;simp only [Va] at V;split at V
     . rename_i p L Y;split at V
       . rename_i T;simp only [qd,qmZ] at T;split at V
         . cases V;exact .of_value (Q (by simp)) (CG (neg:=false) O rfl Y T.1 T.2 p L R q N)
         . cases V;exact .of_value (Q (by simp)) (CG (neg:=true) O rfl Y T.1 T.2 p L R q N)
         cases V
       cases V
     cases V
   split at j
   . rename_i p L;cases j;exact .of_value (Q (by simp)) (xJ O p L R q N)
   cases j
 | unOp op ty x =>simp only [zl,RL] at j;obtain ⟨y,p,rfl⟩:=j;exact .of_value (Q (by simp)) (qah O p R q N)
 | extract x i =>simp only [zl,RL] at j;obtain ⟨y,p,rfl⟩:=j;exact .of_value (Q (by simp)) (tj O p R q N)
 | load t x =>
   simp only [zl] at j;split at j
   . rename_i p L;cases j;exact .of_value (Q (by simp)) (qaf O p L R q N)
   cases j
 | box t x =>
   simp only [zl] at j;split at j
   . rename_i p L;cases j;exact .of_value (Q (by simp)) (fX O p L R q A N)
   cases j
 | alloc t =>simp only [zl,RL] at j;obtain ⟨z,p,rfl⟩:=j;exact .of_value (Q (by simp)) (qac O p q A N)
 | buildSlice t m x1 =>
   simp only [zl] at j;split at j
   . rename_i e M;split at j
     . rename_i agg D z qs p L Y;split at j
       . rename_i T;cases j;obtain ⟨l1,l2⟩:=HD Y;exact .of_value (Q (by simp)) (fY O M p L T.1 T.2 (by simpa using l1) (fun i h E=>l2 i (by simpa using h) E) R q A N)
       cases j
     cases j
   cases j
 | build t x1 =>
   simp only [zl] at j;split at j
   . rename_i fields M;split at j
     . rename_i z pl p L;simp only [RL] at j;obtain ⟨qs,Y,rfl⟩:=j;obtain ⟨l1,l2⟩:=HC Y;obtain ⟨p1,p2⟩:=Xq L;exact .of_value (Q (by simp)) (fW (fields:=fields) (places:=pl.toArray) O ⟨M,by simpa using p1,fun i h E=>p2 i (by simpa using h) (by simpa using E)⟩ p (by simpa using l1) (fun i h E=>by obtain ⟨a1,a2⟩:=l2 i (by simpa using h) E;exact ⟨by rw [qo5];exact a1,a2⟩) R q N)
     cases j
   . rename_i ln e M;split at j
     . rename_i z agg D p L;simp only [RL] at j;obtain ⟨qs,Y,rfl⟩:=j;obtain ⟨l1,l2⟩:=HA Y;exact .of_value (Q (by simp)) (xK O M L p (by simpa using l1) (fun i h E=>by have:=l2 i (by simpa using h) E;simp only [qox] at this;exact this) R q N)
     cases j
   cases j
 | fieldAddr s x fi =>
   simp only [zl] at j;split at j
   . rename_i fields y M p;split at j
     . rename_i f hf;split at j
       . rename_i agg D X;split at j
         . rename_i Z;cases j;exact .of_value (Q (by simp)) (qad O M hf X Z p R q N)
         cases j
       cases j
     cases j
   cases j
 | field t x fi =>
   simp only [zl] at j;split at j
   . rename_i fields y M p;split at j
     . rename_i f hf;split at j
       . rename_i agg D X;cases j;exact .of_value (Q (by simp)) (tt O M hf X p R q N)
       cases j
     cases j
   cases j
 | indexAddr t x i =>
   simp only [zl,Hj] at j;split at j
   . rename_i p L M;split at j
     . rename_i agg D X;split at j
       . rename_i Z;cases j;exact .of_value (Q (by simp)) (qae O M X Z p L R q N)
       cases j
     cases j
   . rename_i p L M;split at j
     . rename_i agg D X;cases j;exact .of_value (Q (by simp)) (tu O M X p L R q N)
     cases j
   cases j
 | index t x i =>
   simp only [zl,Ws] at j;split at j
   . rename_i p L M;cases j;exact .of_value (Q (by simp)) (tw O M p L R q N)
   . rename_i p L M;split at j
     . rename_i agg D X;cases j;exact .of_value (Q (by simp)) (tz O M X p L R q N)
     cases j
   cases j
 | slice t x lo V mx =>
   simp only [zl,Wt] at j;split at j
   . rename_i p L Y h4 M;split at j
     . rename_i agg D X;cases j;exact .of_value (Q (by simp)) (tL O M X p (Qo L) (Qo Y) (Qo h4) R q N)
     cases j
   . rename_i p L Y h4 M;cases j
     have:mx=none:=by cases mx with
      | none=>rfl
      | some z=>simp [Nf] at h4
     subst this;exact .of_value (Q (by simp)) (tM O M p (Qo L) (Qo Y) R q N)
   . rename_i p L Y h4 M;split at j
     . rename_i x3;split at j
       . rename_i agg D X;cases j;exact .of_value (Q (by simp)) (CK O (.inl ⟨M,x3⟩) X p (Qo L) (Qo Y) (Qo h4) R q N)
       cases j
     cases j
   . rename_i p L Y h4 M;split at j
     . rename_i agg D X;cases j;exact .of_value (Q (by simp)) (CK (tp:=0) O (.inr M) X p (Qo L) (Qo Y) (Qo h4) R q N)
     cases j
   cases j
 | makeSlice t l c =>
   simp only [zl] at j;split at j
   . rename_i e y1 y2 M p L;split at j
     . rename_i agg D i z X V Z;cases j;exact .of_value (Q (by simp)) (tG O M X V rfl Z p L R q A N)
     cases j
   cases j
 | convert t u x =>
   simp only [zl] at j;split at j
   . rename_i M J p;cases j;exact .of_value (Q (by simp)) (tb O M J p R q N)
   . rename_i M J p;split at j
     . rename_i he;cases j;exact .of_value (Q (by simp)) (fV O M he J p R q N)
     cases j
   . rename_i M J p;split at j
     . rename_i he;cases j;exact .of_value (Q (by simp)) (tK O M J he p R q N)
     cases j
   cases j
 | nilCheck x =>simp only [zl,RL] at j;obtain ⟨y,p,rfl⟩:=j;exact .of_value (Q (by simp)) (xN O p R q N)
 | makeMap t x4 =>
   cases x4 with
   | none=>simp only [zl] at j;cases j;exact .of_value (Q (by simp)) (tF O q A N)
   | some x=>cases j
 | lookup t m k ok =>
   simp only [zl] at j;split at j
   . rename_i p L M;split at j
     . rename_i x0 Z;cases j;exact .of_value (Q (by simp)) (tB O M x0 (Uu Z) p L R q N)
     cases j
   cases j
 | mapEntry t m k =>
   simp only [zl] at j;split at j
   . rename_i p L M;split at j
     . rename_i x0 Z;cases j;exact .of_value (Q (by simp)) (tH O M x0 (Uu Z) p L R q N)
     cases j
   cases j
 | range t x =>
   simp only [zl] at j;split at j
   . cases j;exact N.elim
   cases j
 | next x b =>
   cases b with
   | false=>simp only [zl,RL] at j;obtain ⟨y,p,rfl⟩:=j;exact N.elim
   | true=>cases j
 | entry x=>simp only [zl,RL] at j;obtain ⟨y,p,rfl⟩:=j;exact N.elim
 | makeFunc f fs cs =>
   simp only [zl] at j;split at j
   . rename_i x7 x6 p L;cases j;obtain ⟨l1,l2⟩:=ZJ p;obtain ⟨m1,m2⟩:=ZJ L;exact .of_value (Q (by simp)) (tE O (by simpa using l1) (by simpa using m1) (fun i h E=>l2 i (by simpa using h) E) (fun i h E=>m2 i (by simpa using h) E) R q N)
   cases j
 | call c =>
   simp only [zl,ZH] at j;split at j
   . rename_i x t;simp only [JG] at j;split at j
     . rename_i p M;cases j;exact .of_value (Q (by simp)) (tA O rfl M p R q N)
     . rename_i p M;cases j;exact .of_value (Q (by simp)) (tD O rfl M p R q N)
     . rename_i p M;cases j;exact .of_value (Q (by simp)) (tC O rfl M p R q N)
     . rename_i k e p M;cases j;obtain ⟨rfl,rfl⟩:=N;refine .of_value (Q (by simp)) (.of (v := .int .i64 k) (w':=w) ?_ (.nil q (.v _ _)));simp [execOp,O,resolve,invoke,builtin,Builtin.len_,CC M,goInt]
     cases j
   . rename_i x y t u;simp only [JF] at j;split at j
     . rename_i p L M K;split at j
       . rename_i agg D i z X V Z;split at j
         . rename_i C;cases j;exact .of_value (Q (by simp)) (fU O rfl M K X V rfl Z C p L R q A N)
         cases j
       cases j
     . rename_i p L M K;split at j
       . rename_i agg D i z X V Z;split at j
         . rename_i C;cases j;exact .of_value (Q (by simp)) (xI O rfl M K X V rfl Z C.1 C.2 p L R q A N)
         cases j
       cases j
     . rename_i p L M K;split at j
       . rename_i agg i z X V Z;split at j
         . rename_i C;cases j;exact .of_value (Q (by simp)) (xH O rfl M K X V rfl Z C p L R q A N)
         cases j
       cases j
     cases j
   . rename_i x y t x5;split at j
     . rename_i p L M;split at j
       . rename_i agg D X;cases j;exact .of_value (Q (by simp)) (tc O rfl (by simp) M X p L R q N)
       cases j
     cases j
   . split at j
     . rename_i p M;cases j;exact .of_value (Q (by simp)) (fZ O rfl M p R q N)
     cases j
   . split at j
     . rename_i p L;cases j;exact .of_value (Q (by simp)) (nc (mxm:=true) O rfl p L R q N)
     cases j
   . split at j
     . rename_i p L;cases j;exact .of_value (Q (by simp)) (nc (mxm:=false) O rfl p L R q N)
     cases j
   . split at j
     . rename_i qs hq;split at j
       . rename_i hf;cases j;exact xL O rfl hf hq R q A N
       cases j;exact N.elim
     cases j
   . split at j
     . rename_i p L;cases j;exact CE O rfl p L R q A N
     cases j
   cases j
 | _=>cases j
theorem Oz {O t x y} {A:AOp} (h:Vb P d O t x y=some A):A.dst=some d:=by
 simp only [Vb] at h
 (repeat' split at h) <;> first | (cases h;done) | (cases h;rfl)
theorem Oy {O t x y} {A:AOp} (h:Va P d O t x y=some A):A.dst=some d:=by
 simp only [Va] at h
 (repeat' split at h) <;> first | (cases h;done) | (cases h;rfl)
theorem Ox {O t x y} {A:AOp} (c:YZ P d O t x y=some A):A.dst=some d:=by
 simp only [YZ] at c;split at c
 . cases c;rfl
 . cases c;rfl
 split at c
 . rename_i h;cases c;exact Oz h
 split at c
 . rename_i h;cases c;exact Oy h
 split at c
 . cases c;rfl
 cases c
theorem Kv {O:Op} {A:AOp} (h:zl P d O=some A):A.dst=some d:=by
 cases O
 case binOp=>exact Ox h
 case makeMap t res =>
  cases res with
  | none=>simp only [zl] at h;cases h;rfl
  | some x=>cases h
 case next x b =>
  cases b with
  | false=>simp only [zl,RL] at h;obtain ⟨y,u,rfl⟩:=h;rfl
  | true=>cases h
 all_goals simp only [zl,Hj,Ws,Wt,ZH,JG,JF,RL] at h <;> first
  | (obtain ⟨_,_,rfl⟩:=h;rfl)
  | ((repeat' split at h) <;> first | (cases h;done) | (cases h;rfl) | (simp only [RL] at h;obtain ⟨_,_,rfl⟩:=h;rfl))
theorem CJ {A:AOp} (h:Ql P N o=some A) (i:FrOK w g F a) (z:HeapOK hp g w) (Q:hp new=none) (L:A.sem P (evF F) hp new r ws) :
 OpRun ro n P o a w (Post hp g w r ws)/\A.dst=o.dst/\∀ d,o.dst=some d->d<N:=by
 unfold Ql at h;split at h
 . rename_i t x y u j;split at h
   . rename_i agg V X Y q l p;cases h;exact ⟨.of_skip (by rw [j];simp) (qag j q l p i z L),u.symm,fun d e=>by rw [u] at e;cases e⟩
   cases h
 . rename_i t m k v u j;simp only [ZE] at h;split at h
   . rename_i q l p M;split at h
     . rename_i f;cases h;exact ⟨.of_skip (by rw [j];simp) (CH (.inl j) M f q l p i z L),u.symm,fun d e=>by rw [u] at e;cases e⟩
     cases h
   cases h
 . rename_i t m k v u j;simp only [ZE] at h;split at h
   . rename_i q l p M;split at h
     . rename_i f;cases h;exact ⟨.of_skip (by rw [j];simp) (CH (.inr j) M f q l p i z L),u.symm,fun d e=>by rw [u] at e;cases e⟩
     cases h
   cases h
 . rename_i t m s v u j;split at h
   . rename_i q l p;cases h;exact ⟨.of_skip (by rw [j];simp) (ti j q l p i z L),u.symm,fun d e=>by rw [u] at e;cases e⟩
   cases h
 . rename_i c u j;simp only [jL] at h;split at h
   . split at h
     . rename_i q M;split at h
       . rename_i R T;split at h
         . rename_i b;cases h;exact ⟨.of_value (by rw [j];simp) (ta j rfl M R T b.1 b.2 q i z L),u.symm,fun d e=>by rw [u] at e;cases e⟩
         cases h
       cases h
     cases h
   . split at h
     . rename_i q l M;split at h
       . rename_i f;cases h;exact ⟨.of_value (by rw [j];simp) (te j rfl (by simp) M f q l i z L),u.symm,fun d e=>by rw [u] at e;cases e⟩
       cases h
     cases h
   cases h
 . rename_i d u;split at h
   . rename_i O;exact ⟨qi1 h rfl i z Q L,by rw [Kv h,u],fun D e=>by rw [u] at e;cases e;exact O⟩
   cases h
 cases h
theorem Ln (h:Pt y=some k):y = .const (QD k):=by unfold Pt at h;split at h <;> first | (cases h;rfl) | cases h
def AOp.isMany:AOp->Bool
 | .rng .. | .nxt .. | .ent .. | .isn .. => true
 | _=>false
theorem xM {A:AOp} {K:AV->List (Nat×HObj)->Prop} (u:Ql P N o=some A) (m:A.isMany=true) (z:FrOK w g F a) (k:HeapOK hp g w) (Q:hp new=none) (s:A.many (evF F) hp new K) :
 OpRun ro n P o a w (cf hp g w K)/\A.dst=o.dst/\∀ d,o.dst=some d->d<N:=by
 unfold Ql at u;split at u
 . split at u <;> first | (cases u;simp [AOp.isMany] at m) | cases u
 . simp only [ZE] at u
   (repeat' split at u) <;> first | (cases u;simp [AOp.isMany] at m;done) | cases u
 . simp only [ZE] at u
   (repeat' split at u) <;> first | (cases u;simp [AOp.isMany] at m;done) | cases u
 . split at u <;> first | (cases u;simp [AOp.isMany] at m;done) | cases u
 . simp only [jL] at u
   (repeat' split at u) <;> first | (cases u;simp [AOp.isMany] at m;done) | cases u
 . rename_i d p;split at u
   . rename_i l;refine ⟨?_,by rw [Kv u,p],fun D e=>by rw [p] at e;cases e;exact l⟩;generalize j:o.op=O at u;have f:(∀ c,O≠.defer c)->∀ c,o.op≠.defer c:=fun h=>by rw [j];exact h
     cases O
     case binOp O ty x y ty' =>
      simp only [zl,YZ] at u;split at u
      . cases u;simp [AOp.isMany] at m
      . cases u;simp [AOp.isMany] at m
      split at u
      . rename_i q i;cases u;simp only [Vb] at i;split at i
        . rename_i v M;have:=Ln M;subst this;split at i
          . rename_i L;split at i
            . cases i;exact .of_value (f (by simp)) (CI (neg:=false) j rfl L v z k s)
            . cases i;exact .of_value (f (by simp)) (CI (neg:=true) j rfl L v z k s)
            cases i
          cases i
        cases i
      split at u
      . rename_i q i;cases u;simp only [Va] at i
        (repeat' split at i) <;> first | (cases i;simp [AOp.isMany] at m;done) | cases i
      split at u
      . cases u;simp [AOp.isMany] at m
      cases u
     case range t x =>
      simp only [zl] at u;split at u
      . rename_i v R;cases u;exact .of_value (f (by simp)) (tJ j R v z k Q s)
      cases u
     case next x b =>
      cases b with
      | false =>simp only [zl,RL] at u;obtain ⟨y,v,rfl⟩:=u;exact .of_value (f (by simp)) (tI j v z k s)
      | true=>cases u
     case entry x =>simp only [zl,RL] at u;obtain ⟨y,v,rfl⟩:=u;exact .of_value (f (by simp)) (tg j v z k s)
     case makeMap t res =>
      cases res with
      | none=>simp only [zl] at u;cases u;simp [AOp.isMany] at m
      | some x=>cases u
     all_goals
      exfalso
      simp only [zl,Hj,Ws,Wt,ZH,JG,JF,RL] at u <;> first
       | (obtain ⟨_,_,rfl⟩:=u;simp [AOp.isMany] at m;done)
       | ((repeat' split at u) <;> first | (cases u;done) | (cases u;simp [AOp.isMany] at m;done) | (simp only [RL] at u;obtain ⟨_,_,rfl⟩:=u;simp [AOp.isMany] at m;done))
   cases u
 cases u
theorem CF {c:Call} {args:Array Operand} {A:Array TypeId} {q:List Opd} (b:o.op = .call c) (s:c={ callee := .value (.func f),args:=args,argTypes:=A })
 (m:opds args.toList=some q) (y:FrOK w g F a) (h:HeapOK hp g w) (t:Tp P f (q.map (evF F)) hp r):VRun P o a w (Post hp g w r []):=by
 subst s;obtain ⟨l,L⟩:=ZJ m;obtain ⟨v,j,z⟩:=t w g (args.map a.eval) h (by simp [l]) (fun i u=>by simp at u;have:=qr y (L i (by omega) u);simpa [show i<args.size by simp at l;omega] using this);refine .of (v:=v) (w':=w) ?_ (.nil h z);have e:a.eval (.func f) = .func (.func f) #[] #[]:=rfl;simp [execOp,b,resolve,e,Deferred.ofValue,invoke,j]
end
structure St where
 fr:List (Nat×AV)
 hp:List HObj
def get:List (Nat×AV)->Nat->AV
 | [],_ => .any
 | (k,x)::r,t=>if k=t then x else get r t
def qz (l:List HObj) (id:Nat) (o:HObj):List HObj:=if id<l.length then l.set id o else l++[o]
def qf (l:List HObj):List (Nat×HObj)->List HObj
 | []=>l
 | (id,o)::ws=>qf (qz l id o) ws
def hpf (l:List HObj):Hp:=fun i=>l[i]?
def zb (f:List (Nat×AV)) (d:Option Nat) (r:AV):List (Nat×AV):=match d with
 | some d=>(d,r)::f
 | none=>f
def St.step (st:St) (d:Option Nat) (r:AV) (ws:List (Nat×HObj)):St:={ fr:=zb st.fr d r,hp:=qf st.hp ws }
def St.keep (st:St) (y:List Nat):St:={ st with fr:=y.map fun t=>(t,get st.fr t) }
def qB (P:Program) (f:FuncId) (xs:List AV) (hp:List HObj) (K:AV->List HObj->Prop):Prop :=
 ∀ (R:Option Nat) (n:Nat) (w:World) (g:G) (V:Array Value),HeapOK (hpf hp) g w->V.size=xs.length->(∀ i (h:i<xs.length),Rep w g false xs[i] (V.getD i undef)) ->
   CallsIn (W R) n P f V w fun e j=>∃ v r p u,e = .returned v/\K r p/\Rep j u false r v/\HeapOK (hpf p) u j/\Upd (hpf hp) g w (hpf p) u j
structure HE where
 Y:Nat->List AV->List HObj->(AV->List HObj->Prop)->Prop
 R:AV->List HObj->(List AV->List HObj->(AV->List HObj->Prop)->Prop)->(List HObj->Prop)->Prop
def bn (P:Program) (y:World) (z:G) (id:Nat) (x:List AV) (j:List HObj) (K:AV->List HObj->Prop):Prop :=
 ∀ (ro:Option Nat) (n:Nat) (w:World) (g:G) (c:Nat) (V:Array Value),HeapOK (hpf j) g w->Trans y z w g->g.ρ id=some (.blk c 0)->V.size=x.length ->
   (∀ i (h:i<x.length),Rep w g false x[i] (V.getD i undef)) ->
   ∃ f t a b,(Instr.yield c V).run P w = .ok (.round c f t a b) w /\
     RoundIn (W ro) n P c f t a b w fun e u=>∃ v r p g',e = .returned v/\K r p/\Rep u g' false r v/\HeapOK (hpf p) g' u/\Upd (hpf j) g w (hpf p) g' u
def YS (P:Program) (E:HE) (w:World) (g:G):Prop :=
 ∀ (id:Nat) (x:List AV) (h:List HObj) (K:AV->List HObj->Prop),E.Y id x h K->bn P w g id x h K
def NH (P:Program) (o:World) (y:G) (f:FuncId) (x:List AV) (z:List HObj) (K:AV->List HObj->Prop):Prop :=
 ∀ (R:Option Nat) (n:Nat) (w:World) (g:G) (V:Array Value),HeapOK (hpf z) g w->Trans o y w g->V.size=x.length->(∀ i (h:i<x.length),Rep w g false x[i] (V.getD i undef)) ->
   CallsIn (W R) n P f V w fun e j=>∃ v r p u,e = .returned v/\K r p/\Rep j u false r v/\HeapOK (hpf p) u j/\Upd (hpf z) g w (hpf p) u j
def YC (P:Program) (E:HE) (f:FuncId) (xs:List AV) (hp:List HObj) (K:AV->List HObj->Prop):Prop:=∀ w g,YS P E w g->NH P w g f xs hp K
theorem Gj {E:HE} {xs:List AV} {hp:List HObj} {K:AV->List HObj->Prop} (h:qB P f xs hp K):YC P E f xs hp K:=fun _ _ _ r n w g v a _ b c=>h r n w g v a b c
theorem Yf {P:Program} {E:HE} {x:List AV} {j:List HObj} {K u:AV->List HObj->Prop} (k:∀ r H,K r H->u r H) (h:YC P E f x j K):YC P E f x j u:=fun m s Y R n w g V a t b c =>
 (h m s Y R n w g V a t b c).mono fun e l ⟨v,r,p,q,z,y,o⟩=>⟨v,r,p,q,z,k _ _ y,o⟩
def aop (P:Program) (E:HE) (o:AOp) (s:St) (K:St->Prop):Prop :=
 match o with
 | .callx d f a=>∃ r,Tp P f (a.map (evF (get s.fr))) (hpf s.hp) r/\K { fr:=(d,r)::s.fr,hp:=s.hp }
 | .rng d x=>(AOp.rng d x).many (evF (get s.fr)) (hpf s.hp) s.hp.length fun r w=>K (s.step (some d) r w)
 | .nxt d x=>(AOp.nxt d x).many (evF (get s.fr)) (hpf s.hp) s.hp.length fun r w=>K (s.step (some d) r w)
 | .ent d x=>(AOp.ent d x).many (evF (get s.fr)) (hpf s.hp) s.hp.length fun r w=>K (s.step (some d) r w)
 | .isn d b k x=>(AOp.isn d b k x).many (evF (get s.fr)) (hpf s.hp) s.hp.length fun r w=>K (s.step (some d) r w)
 | .call d f a=>YC P E f (a.map (evF (get s.fr))) s.hp fun r h=>K { fr:=(d,r)::s.fr,hp:=h }
 | .callv d x a=>match evF (get s.fr) x with
   | .fn (.func f) first c=>jB P f=true/\qB P f (first++a.map (evF (get s.fr))++c) s.hp fun r h=>K { fr:=(d,r)::s.fr,hp:=h }
   | .yl id=>∃ u,E.Y id (a.map (evF (get s.fr))) s.hp u/\∀ r h,u r h->K { fr:=(d,r)::s.fr,hp:=h }
   | _=>False
 | o=>∃ r w,o.sem P (evF (get s.fr)) (hpf s.hp) s.hp.length r w/\K (s.step o.dst r w)
def zz (P:Program) (E:HE):List AOp->St->(St->Prop)->Prop
 | [],s,K=>K s
 | o::O,s,K=>aop P E o s fun s=>zz P E O s K
def zd (os:List AOp) (st:St):St:={ st with fr:=(os.filterMap fun o=>o.dst.map fun d=>(d,AV.v undef)).reverse++st.fr }
structure Grp where
 guard:Option (Nat×Bool)
 ops:List AOp
def zx (P:Program) (E:HE):List Grp->St->(St->Prop)->Prop
 | [],s,K=>K s
 | ⟨none,os⟩::gs,s,K=>zz P E os s fun s=>zx P E gs s K
 | ⟨some (j,b),os⟩::gs,s,K=>match get s.fr j with
   | .v (.bool c)=>(c=b->zz P E os s fun s=>zx P E gs s K)/\(c≠b->zx P E gs (zd os s) K)
   | .v (.tuple _)=>zx P E gs (zd os s) K
   | _=>False
inductive AC where
 | skip
 | rgn (gs:List Grp) (keep:List Nat)
 | drw (gs:List Grp) (un:List (Nat×Nat)) (keep:List Nat)
 | seq (x y:AC)
 | cond (c:Opd) (x y:AC)
 | block (id:Nat) (x:AC)
 | loop (x:AC)
 | exit (id:Nat)
 | ret
 | label (l:Nat)
 | scope (x:AC)
 | rf (g:Opd) (ps:List Nat) (x y:AC) (keep:List Nat)
 | dead
def Sim (N:Nat) (st:St) (a:Act) (w:World) (g:G):Prop:=a.tmps.size=N/\FrOK w g (get st.fr) a/\HeapOK (hpf st.hp) g w
def St.le (e y:St):Prop:=∀ N a w g,Sim N e a w g->∃ q,Sim N y a w q/\Upd (hpf e.hp) g w (hpf y.hp) q w
def Exit.th (K:St->Prop) (Q:Exit->St->Prop):Exit->St->Prop
 | .normal,y=>K y
 | e,y=>Q e y
def Exit.blk (id:Nat) (Q:Exit->St->Prop):Exit->St->Prop
 | .exit y,q=>if y=id then Q .normal q else Q (.exit y) q
 | e,q=>Q e q
abbrev Tr:=List (List Nat×List Nat)
def AV.ids0:AV->List Nat
 | .ref id _=>[id]
 | .ms id _ _ _=>[id]
 | .mp id=>[id]
 | .mc id _ _ _ _=>[id]
 | .yl id=>[id]
 | _=>[]
def AV.ids1:AV->List Nat
 | .ref id _=>[id]
 | .ms id _ _ _=>[id]
 | .mp id=>[id]
 | .mc id _ _ _ _=>[id]
 | .yl id=>[id]
 | .agg q=>q.flatMap AV.ids0
 | .fn _ as y=>as.flatMap AV.ids0++y.flatMap AV.ids0
 | _=>[]
def AV.ids:AV->List Nat
 | .agg y=>y.flatMap AV.ids1
 | .tup y=>y.flatMap AV.ids1
 | x=>x.ids1
def AOp.opds:AOp->List Opd
 | .mv _ x | .un _ _ x | .ext _ x _ | .ld _ _ _ x | .box _ _ x | .fa _ x _ | .fld _ _ _ _ x | .len _ x | .lns _ x | .lnm _ x | .cnv _ _ x | .nilc _ x | .cap _ x | .clr _ _ x | .rng _ x | .nxt _ x | .ent _ x | .isn _ _ _ x | .b2s _ x | .s2b _ x=>[x]
 | .pick _ c a b=>[c,a,b]
 | .bin _ _ x y | .bing _ _ _ x y | .st _ x y | .ia _ _ x y | .iaa _ _ _ x y | .idx _ _ _ _ x y | .ids _ x y | .app _ _ _ x y | .cpy _ _ x y | .mks _ _ _ _ x y | .mx _ _ x y | .appz _ _ _ _ x y | .lku _ _ _ _ x y | .mpe _ _ _ x y | .del _ x y | .eqk _ _ _ x y | .apps _ _ x y=>[x,y]
 | .ins _ x y z | .est x y z=>[x,y,z]
 | .al _ _ | .mkm _=>[]
 | .bsl _ _ _ _ O=>O.map (·.2)
 | .bld _ _ O=>O.map (·.2.2)
 | .slc _ _ x e q m | .slp _ _ _ x e q m=>[x]++e.toList++q.toList++m.toList
 | .sls _ x e q=>[x]++e.toList++q.toList
 | .mkf _ _ as X=>as++X
 | .call _ _ as | .callx _ _ as=>as
 | .callv _ x as=>x::as
def AOp.heapy:AOp->Bool
 | .ld .. | .st .. | .bsl .. | .app .. | .cpy .. | .lnm .. | .call .. | .callv .. | .clr .. | .appz .. | .slp .. | .ins .. | .lku .. | .mpe .. | .est .. | .del .. | .callx .. | .rng .. | .nxt .. | .ent .. | .b2s .. | .s2b .. | .apps .. => true
 | _=>false
def yN (h:Hp) (x:List AV):List Nat:=match qj h x with
 | some (_,i)=>i
 | none=>[]
def AOp.looks:AOp->Bool
 | .bsl .. | .call .. | .callv .. => false
 | o=>o.heapy
def AOp.more (o:AOp) (e:Opd->AV) (hp:Hp):List Nat:=match o with
 | .bsl _ _ _ _ y=>yN hp (y.map fun p=>e p.2)
 | .call _ _ A=>yN hp (A.map e)
 | .callv _ x A=>match e x with
   | .fn _ first q=>yN hp (first++A.map e++q)
   | _=>[]
 | _=>[]
def AOp.foot (o:AOp) (F:Nat->AV) (hp:Hp):List Nat:=(bif o.looks then o.opds.flatMap fun x=>(evF F x).ids else [])++o.more (evF F) hp
def QL (P:Program):List AOp->St->Tr->(St->Tr->Prop)->Prop
 | [],s,tr,K=>K s tr
 | o::O,s,tr,K=>∃ r w,o.sem P (evF (get s.fr)) (hpf s.hp) s.hp.length r w/\QL P O (s.step o.dst r w) (tr++[(o.foot (get s.fr) (hpf s.hp),w.map (·.1))]) K
def zu (P:Program):List Grp->St->Tr->(St->Tr->Prop)->Prop
 | [],st,t,K=>K st t
 | ⟨none,os⟩::gs,st,t,K=>QL P os st t fun st t=>zu P gs st t K
 | ⟨some (j,b),os⟩::gs,st,t,K=>match get st.fr j with
   | .v (.bool c)=>(c=b->QL P os st t fun st t=>zu P gs st t K)/\(c≠b->zu P gs (zd os st) (t++os.map fun _=>([],[])) K)
   | .v (.tuple _)=>zu P gs (zd os st) (t++os.map fun _=>([],[])) K
   | _=>False
def UN (a b:List Nat):Bool:=a.all fun x => !b.contains x
def Qm (t:Tr):List (Nat×Nat)->Bool
 | []=>true
 | (i,j)::un=>(match t[i]?,t[j]? with
   | some (r,w),some (R,u)=>UN w R&&UN w u&&UN u r
   | _,_=>false)&&Qm t un
def Exit.ng (Q:Exit->St->Prop):Exit->St->Prop
 | .goto _,_=>False
 | e,y=>Q e y
def Jq (id:Nat) (K:AV->List HObj->Prop):Exit->St->Prop
 | .normal,s=>hpf s.hp id=some (.lp .busy (id+1))/\K (B true) (qz s.hp id (.lp .ready (id+1)))
 | .ret,s=>hpf s.hp id=some (.lp .busy (id+1))/\K (B false) (qz s.hp id (.lp (.done none) (id+1)))
 | .exit e,s=>hpf s.hp id=some (.lp .busy (id+1))/\K (B false) (qz s.hp id (.lp (.done (some e)) (id+1)))
 | _,_=>False
def Vu (id:Nat) (fr:List (Nat×AV)) (k:List Nat) (Q:Exit->St->Prop) (hp:List HObj):Prop :=
 match hpf hp id with
 | some (.lp .ready _)=>Q .normal (St.keep { fr:=fr,hp:=qz hp id .gone } k)
 | some (.lp (.done none) _)=>Q .ret { fr:=fr,hp:=qz hp id .gone }
 | some (.lp (.done (some e)) _)=>Q (.exit e) { fr:=fr,hp:=qz hp id .gone }
 | _=>False
def putPs:List Nat->List AV->List (Nat×AV)->List (Nat×AV)
 | p::P,x::X,f=>putPs P X ((p,x)::f)
 | _,_,f=>f
def AC.noRf:AC->Bool
 | .seq x y | .cond _ x y=>x.noRf&&y.noRf
 | .block _ x | .loop x | .scope x=>x.noRf
 | .rf .. => false
 | _=>true
def AWP (P:Program) (E:HE):AC->St->(Exit->St->Prop)->Prop
 | .skip,s,Q=>Q .normal s
 | .rgn v k,s,Q=>zx P E v s fun s=>Q .normal (s.keep k)
 | .drw v n k,s,Q=>zu P v s [] fun s T=>Qm T n=true/\Q .normal (s.keep k)
 | .seq x y,s,Q=>AWP P E x s (Exit.th (fun s=>AWP P E y s Q) Q)
 | .cond c x y,s,Q=>match evF (get s.fr) c with
   | .v (.bool t)=>(t=true->AWP P E x s Q)/\(t=false->AWP P E y s Q)
   | _=>False
 | .block id x,s,Q=>AWP P E x s (Exit.blk id Q)
 | .loop x,s,Q=>∃ (α:Type) (I:α->St) (C:α->Prop) (μ:α->Nat) (o:α),C o/\St.le s (I o) /\
  ∀ a,C a->AWP P E x (I a) (Exit.th (fun j=>∃ A,C A/\μ A<μ a/\St.le j (I A)) Q)
 | .exit id,s,Q=>Q (.exit id) s
 | .ret,s,Q=>Q .ret s
 | .label _,s,Q=>Q .normal s
 | .scope x,s,Q=>AWP P E x s (Exit.ng Q)
 | .rf g p x y k,s,Q=>(x.noRf&&y.noRf)=true/\∃ z,E.R (evF (get s.fr) g) s.hp
       (fun X hp K=>hpf hp s.hp.length=some (.lp .ready (s.hp.length+1))/\X.length=p.length /\
        AWP P E x { fr:=putPs p X s.fr,hp:=hp } (Exit.th (fun u=>hpf u.hp s.hp.length=some (.lp .ready (s.hp.length+1)) /\
         AWP P E y { fr:=u.fr,hp:=qz u.hp s.hp.length (.lp .busy (s.hp.length+1)) } (Jq s.hp.length K)) (fun _ _=>False))) z /\
       ∀ h,z h->Vu s.hp.length s.fr k Q h
 | .dead,_,_=>False
theorem Zg {l:List HObj} {id:Nat} {o:HObj} (h:id<=l.length):hpf (qz l id o)=Hp.set (hpf l) id o:=by
 funext i;simp only [hpf,qz,Hp.set];split
 . rename_i t;rw [qoS];by_cases e:id=i
   . subst e;simp [t]
   simp [e,qmG e]
 have:id=l.length:=by omega
 subst this;by_cases e:i=l.length
 . subst e;simp
 simp only [e,qnc];rcases qmV i l.length with u | u
 . rw [qmw u]
 rw [qm1 (by simp;omega),qm1 u]
theorem XZ (l:List HObj) (id:Nat) (o:HObj):l.length<=(qz l id o).length:=by simp only [qz];split <;> simp
theorem zN:∀ {w:List (Nat×HObj)} {l:List HObj},(∀ p∈w,p.1<=l.length)->hpf (qf l w)=Hp.write (hpf l) w
 | [],l,_=>rfl
 | (id,o)::w,l,h=>by simp only [qf,Hp.write];rw [zN (fun p u=>qmT (h p (by simp [u])) (XZ l id o)),Zg (h (id,o) (by simp))]
theorem qF {l:List HObj} {id:Nat} {o:HObj} (h:hpf l id=some o):id<l.length:=(qml.1 h).1
theorem zp {x y:List AV} (h:qj (hpf l) x=some (y,s)):∀ i∈s,i<l.length:=fun i u=>by obtain ⟨C,c⟩:=qS h i u;exact qF c
theorem UZ {r:AV} {s b m:Nat} {x:AV} {y:List AV} (h:zG (hpf l) l.length r w s b x m y):∀ p∈w,p.1<=l.length:=by
 simp only [zG] at h;split at h
 . obtain ⟨_,_,_,_,_,_,rfl⟩:=h;intro p u;simp at u;subst u;exact Qs _
 . split at h
   . rename_i c;obtain ⟨_,_,_,_,_,rfl⟩:=h;intro p u;simp at u;rcases u with rfl | rfl
     . exact qmu (qF c)
     exact Qs _
   exact h.elim
 . split at h
   . rename_i c;obtain ⟨_,_,_,_,h⟩:=h;rcases h with ⟨_,_,_,rfl⟩ | ⟨_,_,rfl⟩
     . intro p u;simp at u;subst u;exact qmu (qF c)
     intro p u;simp at u;subst u;exact Qs _
   exact h.elim
 exact h.elim
theorem vu {o:AOp} {E:Opd->AV} {K:AV->List (Nat×HObj)->Prop} (h:o.many E (hpf l) l.length K):o.many E (hpf l) l.length fun r w=>(∀ p∈w,p.1<=l.length)/\K r w:=by
 have nil:∀ {p:Nat×HObj},p∈([]:List (Nat×HObj))->p.1<=l.length:=fun h=>by simp at h
 cases o with
 | rng d x =>
   simp only [AOp.many] at h ⊢;split at h
   . split at h
     . exact ⟨fun p u=>by simp at u;subst u;exact Qs _,h⟩
     . rename_i i
       exact fun s c m=>⟨fun p u=>by
        simp at u;rcases u with rfl | rfl
        . exact qmu (qF i)
        exact Qs _,h s c m⟩
     exact h
   exact h
 | nxt d x =>
   simp only [AOp.many] at h ⊢;split at h
   . split at h
     . rename_i i;split at h
       . exact ⟨h.1,fun e=>⟨fun p u=>nil u,h.2.1 e⟩,fun e q g=>⟨fun p u=>by simp at u;subst u;exact qmu (qF i),h.2.2 e q g⟩⟩
       exact h
     exact h
   exact h
 | ent d x =>
   simp only [AOp.many] at h ⊢;split at h
   . split at h
     . split at h
       . obtain ⟨v,b,e,j,z,y⟩:=h;exact ⟨v,b,e,j,z,fun p u=>nil u,y⟩
       exact h
     exact h
   exact h
 | isn d b k x =>
   simp only [AOp.many] at h ⊢;split at h
   . split at h
     . exact ⟨⟨fun p u=>nil u,h.1⟩,⟨fun p u=>nil u,h.2⟩⟩
     exact ⟨fun p u=>nil u,h⟩
   . exact ⟨fun e=>⟨fun p u=>nil u,h.1 e⟩,fun e=>⟨⟨fun p u=>nil u,(h.2 e).1⟩,⟨fun p u=>nil u,(h.2 e).2⟩⟩⟩
   all_goals first | exact ⟨fun p u=>nil u,h⟩ | exact h
 | _=>exact h.elim
theorem jS {o:AOp} {E:Opd->AV} {n:Nat} {K u:AV->List (Nat×HObj)->Prop} (k:∀ r w,K r w->u r w) (h:o.many E p n K):o.many E p n u:=by
 cases o with
 | rng d x =>
   simp only [AOp.many] at h ⊢;split at h
   . split at h
     . exact k _ _ h
     . exact fun s c m=>k _ _ (h s c m)
     exact h
   exact h
 | nxt d x =>
   simp only [AOp.many] at h ⊢;split at h
   . split at h
     . split at h
       . exact ⟨h.1,fun e=>k _ _ (h.2.1 e),fun e q g=>k _ _ (h.2.2 e q g)⟩
       exact h
     exact h
   exact h
 | ent d x =>
   simp only [AOp.many] at h ⊢;split at h
   . split at h
     . split at h
       . obtain ⟨v,b,e,j,z,y⟩:=h;exact ⟨v,b,e,j,z,k _ _ y⟩
       exact h
     exact h
   exact h
 | isn d b f x =>
   simp only [AOp.many] at h ⊢;split at h
   . split at h
     . exact ⟨k _ _ h.1,k _ _ h.2⟩
     exact k _ _ h
   . exact ⟨fun e=>k _ _ (h.1 e),fun e=>⟨k _ _ (h.2 e).1,k _ _ (h.2 e).2⟩⟩
   all_goals first | exact k _ _ h | exact h
 | _=>exact h.elim
theorem EH {o:AOp} {E:Opd->AV} {r:AV} (h:o.sem P E (hpf l) l.length r w):∀ p∈w,p.1<=l.length:=by
 have nil:∀ {w:List (Nat×HObj)},w=[]->∀ p∈w,p.1<=l.length:=fun e p u=>by subst e;simp at u
 have g:∀ {b:List Nat},(∀ i∈b,i<l.length)->∀ p∈gones b,p.1<=l.length:=fun h p u=>by simp only [gones,gm] at u;obtain ⟨i,q,rfl⟩:=u;exact qmu (h i q)
 cases o with
 | st s a x =>
   simp only [AOp.sem,Ux] at h;split at h
   . split at h
     . rename_i c;obtain ⟨_,_,_,rfl,_⟩:=h;intro p u;simp at u;subst u;exact qmu (qF c)
     exact h.elim
   exact h.elim
 | ld d agg s x =>
   simp only [AOp.sem,ZM] at h;split at h
   . exact nil h.1
   . split at h
     . exact nil h.1
     exact h.elim
   exact h.elim
 | box=>obtain ⟨_,_,_,rfl⟩:=h;intro p u;simp at u;subst u;exact Qs _
 | al=>obtain ⟨_,rfl⟩:=h;intro p u;simp at u;subst u;exact Qs _
 | mks=>obtain ⟨_,_,_,_,_,_,_,rfl⟩:=h;intro p u;simp at u;subst u;exact Qs _
 | bsl =>
   obtain ⟨_,_,v,_,j⟩:=h;rcases j with ⟨_,rfl⟩ | ⟨_,rfl⟩
   . exact g (zp v)
   intro p u;rw [xm] at u;rcases u with u | u
   . exact g (zp v) p u
   simp at u;subst u;exact Qs _
 | call =>
   obtain ⟨_,_,v,j⟩:=h;rcases j with ⟨_,rfl⟩ | ⟨m,s,C,_,_,rfl⟩ | ⟨Φ,_,_,rfl⟩
   . intro p u;cases hs:r.scalar with
     | true=>rw [hs] at u;simp at u
     | false=>rw [hs] at u;exact g (zp v) p u
   . intro p u;rw [xm] at u;rcases u with u | u
     . exact g (zp v) p (Yo u)
     simp at u;subst u;exact Qs _
   intro p u;rw [xm] at u;rcases u with u | u
   . exact g (zp v) p u
   simp at u;subst u;exact Qs _
 | app d s bytes x y =>obtain ⟨m,Y,_,_,h⟩:=h;exact UZ h
 | cpy d s x y =>
   simp only [AOp.sem] at h;split at h
   . obtain ⟨_,_,_,_,_,c,_,_,_,rfl⟩:=h;intro p u;simp at u;subst u;exact qmu (qF c)
   . obtain ⟨_,_,_,_,_,c,_,_,_,rfl⟩:=h;intro p u;simp at u;subst u;exact qmu (qF c)
   exact h.elim
 | slc d s x L q mx =>
   simp only [AOp.sem,Xx] at h;split at h
   . obtain ⟨_,_,_,_,_,_,_,_,h⟩:=h;exact nil h
   . obtain ⟨_,_,_,_,_,_,_,_,_,h⟩:=h;exact nil h
   . obtain ⟨_,_,_,_,_,_,_,_,_,_,_,h⟩:=h;exact nil h
   exact h.elim
 | sls d x L q =>
   simp only [AOp.sem] at h;split at h
   . obtain ⟨_,_,_,_,_,_,_,h⟩:=h;exact nil h
   exact h.elim
 | cap=>simp only [AOp.sem] at h;split at h <;> first | exact nil h.2.2 | exact nil h.2 | exact h.elim
 | clr =>
   simp only [AOp.sem] at h;split at h
   . obtain ⟨_,c,_,_,_,rfl⟩:=h;intro p u;simp at u;subst u;exact qmu (qF c)
   . obtain ⟨_,c,_,_,_,rfl⟩:=h;intro p u;simp at u;subst u;exact qmu (qF c)
   exact h.elim
 | appz d s bytes z x y =>obtain ⟨m,_,h⟩:=h;exact UZ h
 | b2s=>obtain ⟨_,_,_,h⟩:=h;exact nil h
 | s2b=>simp only [AOp.sem] at h;split at h <;> first | exact nil h.2 | exact h.elim
 | apps d bytes x y =>
   simp only [AOp.sem] at h;split at h
   . exact UZ h
   exact h.elim
 | slp=>simp only [AOp.sem] at h;(repeat' split at h) <;> first | (obtain ⟨_,_,_,_,_,_,_,_,_,_,_,h⟩:=h;exact nil h) | (obtain ⟨_,_,_,_,_,_,_,_,_,h⟩:=h;exact nil h) | exact h.elim
 | mkm=>obtain ⟨_,rfl⟩:=h;intro p u;simp at u;subst u;exact Qs _
 | ins =>
   simp only [AOp.sem] at h;split at h
   . split at h
     . rename_i c;obtain ⟨_,_,_,_,h⟩:=h;rcases h with ⟨_,_,_,_,rfl⟩ | ⟨_,rfl⟩ <;> (intro p u;simp at u;subst u;exact qmu (qF c))
     exact h.elim
   exact h.elim
 | lku =>
   simp only [AOp.sem] at h;split at h
   . split at h
     . obtain ⟨_,_,_,h,_⟩:=h;exact nil h
     . obtain ⟨_,_,_,_,h,_⟩:=h;exact nil h
     exact h.elim
   exact h.elim
 | mpe =>
   simp only [AOp.sem] at h;split at h
   . split at h
     . rename_i c;obtain ⟨_,_,_,h⟩:=h;rcases h with ⟨_,_,_,_,_,rfl⟩ | ⟨_,_,rfl⟩
       . exact nil rfl
       intro p u;simp at u;subst u;exact qmu (qF c)
     exact h.elim
   exact h.elim
 | est =>
   simp only [AOp.sem] at h;split at h
   . split at h
     . rename_i c;obtain ⟨_,_,_,_,_,_,rfl⟩:=h;intro p u;simp at u;subst u;exact qmu (qF c)
     exact h.elim
   exact h.elim
 | del =>
   simp only [AOp.sem] at h;split at h
   . split at h
     . rename_i c;obtain ⟨_,_,_,_,h⟩:=h;rcases h with ⟨_,_,rfl⟩ | ⟨_,rfl⟩
       . intro p u;simp at u;subst u;exact qmu (qF c)
       exact nil rfl
     exact h.elim
   exact h.elim
 | eqk=>obtain ⟨_,_,_,_,_,_,_,h⟩:=h;exact nil h
 | callx=>exact h.elim
 | rng=>exact h.elim
 | nxt=>exact h.elim
 | ent=>exact h.elim
 | isn=>exact h.elim
 | mv=>exact nil h.2
 | pick =>
   simp only [AOp.sem] at h;split at h
   . exact nil h.2
   exact h.elim
 | bin =>
   simp only [AOp.sem] at h;split at h
   . obtain ⟨_,_,_,h⟩:=h;exact nil h
   exact h.elim
 | bing=>obtain ⟨_,_,_,_,_,_,_,_,h⟩:=h;exact nil h
 | un =>
   simp only [AOp.sem] at h;split at h
   . obtain ⟨_,_,_,h⟩:=h;exact nil h
   exact h.elim
 | ext =>
   simp only [AOp.sem] at h;split at h
   . obtain ⟨_,_,_,h⟩:=h;exact nil h
   exact h.elim
 | bld=>exact nil h.2.2
 | fa=>simp only [AOp.sem] at h;split at h <;> first | exact nil h.2 | exact h.elim
 | fld=>simp only [AOp.sem] at h;split at h <;> first | exact nil h.2 | exact h.elim
 | ia=>simp only [AOp.sem] at h;split at h <;> first | exact nil h.2.2.1 | exact nil h.2.2.2 | exact h.elim
 | iaa=>simp only [AOp.sem] at h;split at h <;> first | exact nil h.2.2 | exact h.elim
 | idx=>simp only [AOp.sem] at h;split at h <;> first | exact nil h.2.2 | exact h.elim
 | ids=>simp only [AOp.sem] at h;split at h <;> first | exact nil h.2.2 | exact h.elim
 | len=>simp only [AOp.sem] at h;split at h <;> first | exact nil h.2 | exact h.elim
 | lns=>simp only [AOp.sem] at h;split at h <;> first | exact nil h.2 | exact h.elim
 | lnm=>simp only [AOp.sem] at h;(repeat' split at h) <;> first | exact nil h.2 | exact h.elim
 | cnv=>simp only [AOp.sem] at h;split at h <;> first | exact nil h.2 | exact h.elim
 | mx=>simp only [AOp.sem] at h;split at h <;> first | exact nil h.2 | exact h.elim
 | nilc=>simp only [AOp.sem] at h;split at h <;> first | exact nil h.2 | exact h.elim
 | mkf=>exact nil h.2
 | callv =>
   simp only [AOp.sem] at h;split at h
   . obtain ⟨_,_,_,v,j⟩:=h;rcases j with ⟨_,rfl⟩ | ⟨m,s,C,_,_,rfl⟩
     . intro p u;cases hs:r.scalar with
       | true=>rw [hs] at u;simp at u
       | false=>rw [hs] at u;exact g (zp v) p u
     intro p u;rw [xm] at u;rcases u with u | u
     . exact g (zp v) p (Yo u)
     simp at u;subst u;exact Qs _
   exact h.elim
theorem FrOK.mono {w g w' g' F} {a:Act} (t:Trans w g w' g') (h:FrOK w g F a):FrOK w' g' F a:=fun i=>(h i).mono t
theorem FrOK.put {w g} {fr:List (Nat×AV)} {a:Act} (h:FrOK w g (get fr) a) {d:Option Nat} {r:AV} {v:Value} (q:∀ k,d=some k->k<a.tmps.size) (O:Rep w g false r v) :
 FrOK w g (get (zb fr d r)) (a.put d v):=by
 cases d with
 | none=>exact h
 | some d =>
   intro t;have y:=q d rfl;simp only [zb,get,Act.put];split
   . rename_i e;subst e;simp [y];exact O
   rename_i e;have:=h t;simp only [qmB] at this ⊢;rw [qmK e];exact this
theorem Sd (f:List (Nat×AV)):∀ (T:List Nat) (t:Nat),get (T.map fun t=>(t,get f t)) t=get f t\/get (T.map fun t=>(t,get f t)) t = .any
 | [],t => .inr rfl
 | k::T,t=>by
   simp only [wI,get];split
   . rename_i e;subst e;exact .inl rfl
   exact Sd f T t
theorem Sim.keep {N st a w g} (h:Sim N st a w g) (y:List Nat):Sim N (st.keep y) a w g:=by
 refine ⟨h.1,fun t=>?_,h.2.2⟩;rcases Sd st.fr y t with e | e
 . show Rep w g false (get (y.map fun t=>(t,get st.fr t)) t) _;rw [e];exact h.2.1 t
 show Rep w g false (get (y.map fun t=>(t,get st.fr t)) t) _;rw [e];exact .any _ _
def qfu (N:Nat) (t:St) (a:Act) (w:World) (g:G) (K:St->Prop) (next:Act->World->Prop):Prop :=
 ∀ s A u v,K s->Sim N s A u v->Upd (hpf t.hp) g w (hpf s.hp) v u->A.defers=a.defers->next A u
theorem zq (a:Act) (d:Option Tmp) (v:Value):(a.put d v).defers=a.defers:=by cases d <;> rfl
theorem VX (a:Act) (d:Option Tmp) (v:Value):(a.put d v).tmps.size=a.tmps.size:=by cases d <;> simp [Act.put]
section
variable {P:Program} {E:HE} {N:Nat} {ro:Option Nat} {n:Nat}
theorem Sim.step {st:St} {a:Act} {w O:World} {g q:G} (h:Sim N st a w g) {d:Option Nat} {r:AV} {v:Value} {y:List HObj} (K:∀ k,d=some k->k<N) (u:Upd (hpf st.hp) g w (hpf y) q O)
 (A:Rep O q false r v) (X:HeapOK (hpf y) q O):Sim N { fr:=zb st.fr d r,hp:=y } (a.put d v) O q :=
 ⟨by rw [VX];exact h.1,(h.2.1.mono u.tr).put (fun k e=>by rw [h.1];exact K k e) A,X⟩
theorem Wu {a:AOp} (u:Ql P N o=some a) (h:(∃ d f q,a = .call d f q)\/(∃ d f q,a = .callx d f q)\/∃ d x q,a = .callv d x q) :
 ∃ c d,o.op = .call c/\o.dst=some d/\d<N/\ZH P d c=some a:=by
 unfold Ql at u;split at u
 . exfalso;split at u <;> (cases u;try simp at h)
 . exfalso;simp only [ZE] at u;(repeat' split at u) <;> (cases u;try simp at h)
 . exfalso;simp only [ZE] at u;(repeat' split at u) <;> (cases u;try simp at h)
 . exfalso;split at u <;> (cases u;try simp at h)
 . exfalso;simp only [jL] at u;(repeat' split at u) <;> (cases u;try simp at h)
 . rename_i d v;split at u
   . rename_i l;generalize p:o.op=O at u;cases O with
     | call c=>exact ⟨c,d,rfl,v,l,u⟩
     | binOp O z x y T =>
       exfalso;simp only [zl,YZ,Vb,Va] at u
       (repeat' split at u) <;> first | (cases u;simp at h;done) | (cases u;done) | skip
       all_goals
        rename_i i
        (repeat' split at i) <;> first | (cases i;cases u;simp at h;done) | (cases i;done)
     | makeMap t r =>
       exfalso;cases r with
       | none=>simp only [zl] at u;cases u;simp at h
       | some x=>cases u
     | next x b =>
       exfalso;cases b with
       | false=>simp only [zl,RL] at u;obtain ⟨y,j,rfl⟩:=u;simp at h
       | true=>cases u
     | _ =>
       exfalso
       simp only [zl,Hj,Ws,Wt,RL] at u <;> first
        | (obtain ⟨_,_,rfl⟩:=u;simp at h;done)
        | ((repeat' split at u) <;> first | (cases u;done) | (cases u;simp at h;done) | (simp only [RL] at u;obtain ⟨_,_,rfl⟩:=u;simp at h;done))
   cases u
 cases u
theorem Dq {d f q} (h:Ql P N o=some (.call d f q)):∃ args a,o.op = .call { callee := .value (.func f),args:=args,argTypes:=a }/\o.dst=some d/\d<N/\jB P f=true/\opds args.toList=some q:=by
 obtain ⟨c,D,j,u,l,h⟩:=Wu h (.inl ⟨_,_,_,rfl⟩);simp only [ZH] at h;split at h
 . simp only [JG] at h;split at h <;> cases h
 . simp only [JF] at h;(repeat' split at h) <;> cases h
 . (repeat' split at h) <;> cases h
 . (repeat' split at h) <;> cases h
 . (repeat' split at h) <;> cases h
 . (repeat' split at h) <;> cases h
 . rename_i y args a;split at h
   . rename_i Q z;split at h
     . rename_i v;cases h;exact ⟨_,_,j,u,l,v,z⟩
     cases h
   cases h
 . split at h <;> cases h
 cases h
theorem TP {d f q} (h:Ql P N o=some (.callx d f q)):∃ args a,o.op = .call { callee := .value (.func f),args:=args,argTypes:=a }/\o.dst=some d/\d<N/\opds args.toList=some q:=by
 obtain ⟨c,D,v,u,l,h⟩:=Wu h (.inr (.inl ⟨_,_,_,rfl⟩));simp only [ZH] at h;split at h
 . simp only [JG] at h;split at h <;> cases h
 . simp only [JF] at h;(repeat' split at h) <;> cases h
 . (repeat' split at h) <;> cases h
 . (repeat' split at h) <;> cases h
 . (repeat' split at h) <;> cases h
 . (repeat' split at h) <;> cases h
 . rename_i z args a;split at h
   . rename_i Q j;split at h
     . cases h
     cases h;exact ⟨_,_,v,u,l,j⟩
   cases h
 . split at h <;> cases h
 cases h
theorem TO {d y q} (h:Ql P N o=some (.callv d y q)):∃ x args a,o.op = .call { callee := .value x,args:=args,argTypes:=a }/\o.dst=some d/\d<N/\opd x=some y/\opds args.toList=some q:=by
 obtain ⟨c,D,z,j,l,h⟩:=Wu h (.inr (.inr ⟨_,_,_,rfl⟩));simp only [ZH] at h;split at h
 . simp only [JG] at h;split at h <;> cases h
 . simp only [JF] at h;(repeat' split at h) <;> cases h
 . (repeat' split at h) <;> cases h
 . (repeat' split at h) <;> cases h
 . (repeat' split at h) <;> cases h
 . (repeat' split at h) <;> cases h
 . (repeat' split at h) <;> cases h
 . rename_i x args a _;split at h
   . rename_i u v;cases h;exact ⟨_,_,_,z,j,l,u,v⟩
   cases h
 cases h
theorem jH {V:AOp} (hc:Ql P N o=some V) {t:St} {K:St->Prop} (h:aop P E V t K) {a:Act} {w w1:World} {g g1:G} (hY:YS P E w1 g1) (x4:Trans w1 g1 w g) (s:Sim N t a w g)
 {next:Act->World->Prop} {Q:Exit->Act->World->Prop} (hn:qfu N t a w g K next):o.wpIn (W ro) n P a w next Q:=by
 have x9:(∃ r ws,V.sem P (evF (get t.fr)) (hpf t.hp) t.hp.length r ws/\K (t.step V.dst r ws))->o.wpIn (W ro) n P a w next Q:=fun ⟨r,ws,h1,h2⟩=>by
  have z:hpf t.hp t.hp.length=none:=by simp [hpf]
  obtain ⟨p1,p2,p3⟩:=CJ (ro:=ro) (n:=n) hc s.2.1 s.2.2 z h1;refine p1 next Q fun v m hp=>?_
  obtain ⟨j,q1,q2,L⟩:=hp;rw [<-zN (EH h1)] at q2 L;refine hn _ _ m j h2 ?_ L (zq _ _ _);have:=s.step (d:=o.dst) p3 L q1 q2;rw [p2];exact this
 have many:∀ {d:Nat},V.dst=some d->V.isMany=true->(V.many (evF (get t.fr)) (hpf t.hp) t.hp.length fun r ws=>K (t.step (some d) r ws))->o.wpIn (W ro) n P a w next Q:=fun {d} R hm h=>by
  have z:hpf t.hp t.hp.length=none:=by simp [hpf]
  obtain ⟨p1,p2,p3⟩:=xM (ro:=ro) (n:=n) hc hm s.2.1 s.2.2 z (vu h);refine p1 next Q fun v m hp=>?_
  obtain ⟨r,ws,⟨x5,O⟩,j,q1,q2,L⟩:=hp;rw [<-zN x5] at q2 L;refine hn _ _ m j O ?_ L (zq _ _ _);have:=s.step (d:=some d) (fun k e=>p3 k (by rw [<-p2,R];exact e)) L q1 q2;rw [<-p2,R];exact this
 cases V with
 | rng d x=>exact many rfl rfl h
 | nxt d x=>exact many rfl rfl h
 | ent d x=>exact many rfl rfl h
 | isn d b kd x=>exact many rfl rfl h
 | callx d f qs =>
   obtain ⟨A,x1,p,R,l,hq⟩:=TP hc;obtain ⟨r,x3,O⟩:=h;have hv:=CF (r:=r) p rfl hq s.2.1 s.2.2 x3;refine OpRun.of_value (by rw [p];simp) hv next Q fun v m hp=>?_
   obtain ⟨j,q1,q2,L⟩:=hp;refine hn _ _ m j O ?_ L (zq _ _ _);have:=s.step (d:=some d) (fun k e=>by cases e;exact l) L q1 q2;rw [R];exact this
 | call d f qs =>
   obtain ⟨A,x1,p,R,l,hf,hq⟩:=Dq hc;obtain ⟨l1,l2⟩:=ZJ hq;refine ⟨fun _ _=>trivial,?_⟩;rw [qn2 _ _ _ (by rw [p];simp)];have u:(execOp a.eval o).run P w = .ok (.enter f (A.map a.eval)) w:=by simp [execOp,p,resolve,Act.eval,Deferred.ofValue,invoke,zS hf]
   rw [u];refine ⟨fun h=>by simp [Fence.wide] at h,?_⟩;refine (h w1 g1 hY ro (n - 1) w g (A.map a.eval) s.2.2 x4 (by simp [l1]) (fun i J=>?_)).mono ?_
   . simp at J;have:=qr s.2.1 (l2 i (by omega) J);simpa [show i<A.size by simp at l1;omega] using this
   rintro e m ⟨v,r,x7,j,rfl,O,hr,q,Y⟩;refine hn _ _ m j O ?_ Y (zq _ _ _);have:=s.step (d:=some d) (fun k e=>by cases e;exact l) Y hr q;rw [R];exact this
 | callv d y qs =>
   obtain ⟨x,A,x1,p,R,l,hx,hq⟩:=TO hc;obtain ⟨l1,l2⟩:=ZJ hq;simp only [aop] at h;split at h
   . rename_i f first C hy
     obtain ⟨hf,h⟩:=h;have Z:=qr s.2.1 hx;rw [hy] at Z;generalize hv:a.eval x=v at Z;cases Z with
     | fn _ _ _ _ xs ys hl y2 hr y3 =>
       refine ⟨fun _ _=>trivial,?_⟩;rw [qn2 _ _ _ (by rw [p];simp)];have u:(execOp a.eval o).run P w = .ok (.enter f (xs.toArray++A.map a.eval++ys.toArray)) w:=by simp [execOp,p,resolve,hv,Deferred.ofValue,invoke,zS hf]
       rw [u];refine ⟨fun h=>by simp [Fence.wide] at h,?_⟩;refine (h ro (n - 1) w g (xs.toArray++A.map a.eval++ys.toArray) s.2.2 (by simp [l1,hl,y2]) (fun i J=>?_)).mono ?_
       . have D:A.size=qs.length:=by simpa using l1.symm
         have y4:i<first.length+qs.length+C.length:=by simpa [qmJ] using J
         by_cases c1:i<first.length
         . rw [qmz (by simp;omega),qmz c1];have:=hr i c1;simp only [qmB,qmp] at this ⊢;rw [qmN (by simp;omega),qmN (by simp;omega)];simpa using this
         by_cases c2:i<first.length+qs.length
         . rw [qmz (by simp;omega),qmx (by omega)];have:=qr s.2.1 (l2 (i - first.length) (by omega) (by omega))
           simp only [qmB];rw [qmN (by simp;omega),qnb (by simp;omega)];have X:i - xs.length<A.size:=by omega
           simp only [List.size_toArray,Array.getElem?_map];simp only [hl];rw [hl] at X;simpa [X] using this
         rw [qmx (by simp;omega)];have x6:i - (first++qs.map (evF (get t.fr))).length<C.length:=by simp;omega
         have:=y3 _ x6;simp only [qmB,qmp] at this ⊢;rw [qnb (by simp;omega)];have e:i - (xs.toArray++A.map a.eval).size=i - (first++qs.map (evF (get t.fr))).length:=by simp [hl,D]
         rw [e];simpa using this
       rintro e m ⟨v,r,x7,j,rfl,O,hr,q,Y⟩;refine hn _ _ m j O ?_ Y (zq _ _ _);have:=s.step (d:=some d) (fun k e=>by cases e;exact l) Y hr q;rw [R];exact this
   . rename_i id hy;have Z:=qr s.2.1 hx;rw [hy] at Z;generalize hv:a.eval x=v at Z;cases Z with
     | yl _ c hl =>
       obtain ⟨K0,y0,y1⟩:=h;obtain ⟨f,x8,M,x2,u,T⟩:=hY _ _ _ _ y0 ro (n - 1) w g c (A.map a.eval) s.2.2 x4 hl (by simp [l1]) (fun i J=>by simp at J;have:=qr s.2.1 (l2 i (by omega) J);simpa [show i<A.size by simp at l1;omega] using this);refine ⟨fun _ _=>trivial,?_⟩;rw [qn2 _ _ _ (by rw [p];simp)];have x0:(execOp a.eval o).run P w = .ok (.round c f x8 M x2) w:=by simp [execOp,p,resolve,hv,Deferred.ofValue,invoke,u]
       rw [x0];refine ⟨fun h=>by simp [Fence.wide] at h,?_⟩;refine T.mono ?_;rintro e m ⟨v,r,x7,j,rfl,O,hr,q,Y⟩;refine hn _ _ m j (y1 _ _ O) ?_ Y (zq _ _ _);have:=s.step (d:=some d) (fun k e=>by cases e;exact l) Y hr q;rw [R];exact this
   exact h.elim
 | _=>exact x9 h
def WC (O:Array Oper):Option (Nat×Bool)->Option (Option (Nat×Bool))
 | none=>some none
 | some (j,b)=>match O[j]? with
   | some o=>match o.dst with
     | some d=>some (some (d,b))
     | none=>none
   | none=>none
def QC (P:Program) (N:Nat) (O:Array Oper):List Oper->Option (List (Option (Nat×Bool)×AOp))
 | []=>some []
 | o::l=>match Ql P N o,WC O o.guard,QC P N O l with
   | some a,some g,some r=>some ((g,a)::r)
   | _,_,_=>none
def Wh (P:Program) (E:HE):List (Option (Nat×Bool)×AOp)->St->(St->Prop)->Prop
 | [],s,K=>K s
 | (none,o)::l,s,K=>aop P E o s fun s=>Wh P E l s K
 | (some (j,b),o)::l,s,K=>match get s.fr j with
   | .v (.bool c)=>(c=b->aop P E o s fun s=>Wh P E l s K)/\(c≠b->Wh P E l (zd [o] s) K)
   | .v (.tuple _)=>Wh P E l (zd [o] s) K
   | _=>False
def Az (g:Option (Nat×Bool)) (d:Option Nat):Bool:=match g with
 | some (j,_) => !(d==some j)
 | none=>true
def grp:List (Option (Nat×Bool)×AOp)->List Grp
 | []=>[]
 | (g,o)::l=>match grp l with
   | ⟨u,os⟩::gs=>if g=u/\Az g o.dst=true then ⟨g,o::os⟩::gs else ⟨g,[o]⟩::⟨u,os⟩::gs
   | []=>[⟨g,[o]⟩]
theorem jZ {o:AOp} {s:St} {K l:St->Prop} (k:∀ m,(∀ t,o.dst≠some t->get m.fr t=get s.fr t)->K m->l m) (h:aop P E o s K):aop P E o s l:=by
 have c:∀ O:AOp,O.dst=o.dst->(∃ r j,O.sem P (evF (get s.fr)) (hpf s.hp) s.hp.length r j/\K (s.step O.dst r j))->∃ r j,O.sem P (evF (get s.fr)) (hpf s.hp) s.hp.length r j/\l (s.step O.dst r j):=fun O e ⟨r,j,z,q⟩ =>
  ⟨r,j,z,k _ (fun t u=>by
   rw [e];cases a:o.dst with
   | none=>rfl
   | some d =>rw [a] at u;have:¬ d=t:=fun e=>u (by rw [e]);simp [St.step,zb,get,this]) q⟩
 have C:∀ {d:Nat} {f X},o.dst=some d->qB P f X s.hp (fun r p=>K { fr:=(d,r)::s.fr,hp:=p })->qB P f X s.hp (fun r p=>l { fr:=(d,r)::s.fr,hp:=p }):=fun {d f X} a Z ro n w g D z q Y =>
  (Z ro n w g D z q Y).mono fun e A ⟨v,r,p,V,M,R,T⟩=>⟨v,r,p,V,M,k _ (fun t u=>by rw [a] at u;have:¬ d=t:=fun e=>u (by rw [e]);simp [get,this]) R,T⟩
 cases o with
 | call d f Q =>have h:YC P E f (Q.map (evF (get s.fr))) s.hp (fun r p=>K { fr:=(d,r)::s.fr,hp:=p }):=h;exact Yf (fun r p h=>k _ (fun t u=>by have:¬ d=t:=fun e=>u (by rw [<-e];rfl);simp [get,this]) h) h
 | callv d y Q =>
   simp only [aop] at h ⊢;split at h
   . exact ⟨h.1,C rfl h.2⟩
   . obtain ⟨L,z,q⟩:=h;exact ⟨L,z,fun r p i=>k _ (fun t u=>by have:¬ d=t:=fun e=>u (by rw [<-e];rfl);simp [get,this]) (q r p i)⟩
   exact h.elim
 | callx d f Q =>obtain ⟨r,z,q⟩:=h;exact ⟨r,z,k _ (fun t u=>by have:¬ d=t:=fun e=>u (by rw [<-e];rfl);simp [get,this]) q⟩
 | rng d x =>simp only [aop] at h ⊢;exact jS (K:=fun r j=>K (s.step (some d) r j)) (fun r j h=>k _ (fun t u=>by have:¬ d=t:=fun e=>u (by rw [<-e];rfl);simp [St.step,zb,get,this]) h) h
 | nxt d x =>simp only [aop] at h ⊢;exact jS (K:=fun r j=>K (s.step (some d) r j)) (fun r j h=>k _ (fun t u=>by have:¬ d=t:=fun e=>u (by rw [<-e];rfl);simp [St.step,zb,get,this]) h) h
 | ent d x =>simp only [aop] at h ⊢;exact jS (K:=fun r j=>K (s.step (some d) r j)) (fun r j h=>k _ (fun t u=>by have:¬ d=t:=fun e=>u (by rw [<-e];rfl);simp [St.step,zb,get,this]) h) h
 | isn d b J x =>simp only [aop] at h ⊢;exact jS (K:=fun r j=>K (s.step (some d) r j)) (fun r j h=>k _ (fun t u=>by have:¬ d=t:=fun e=>u (by rw [<-e];rfl);simp [St.step,zb,get,this]) h) h
 | _=>exact c _ rfl h
theorem QG:∀ {os:List AOp} {s:St} {K u:St->Prop},(∀ t,K t->u t)->zz P E os s K->zz P E os s u
 | [],s,K,u,k,h=>k s h
 | o::os,s,K,u,k,h=>jZ (fun _ _ h=>QG k h) h
theorem jc (o:AOp) (O:List AOp) (s:St):zd (o::O) s=zd O (zd [o] s):=by simp only [zd,qnI,qok];cases o.dst <;> simp
theorem YB {o:AOp} {s:St} (h:o.dst≠some j):get (zd [o] s).fr j=get s.fr j:=by
 simp only [zd,qnI,qok];cases hd:o.dst with
 | none=>simp
 | some d =>rw [hd] at h;have:¬ d=j:=fun e=>h (by rw [e]);simp [get,this]
theorem jR:∀ {l:List (Option (Nat×Bool)×AOp)} {s:St} {K:St->Prop},zx P E (grp l) s K->Wh P E l s K
 | [],s,K,h=>h
 | (g,o)::l,s,K,h=>by
   have one:zx P E (⟨g,[o]⟩::grp l) s K->Wh P E ((g,o)::l) s K:=fun h=>by
    cases g with
    | none=>exact jZ (fun _ _ h=>jR h) h
    | some J =>
      obtain ⟨j,b⟩:=J;simp only [zx,Wh] at h ⊢;split at h
      . rename_i c u
        try rw [u]
        exact ⟨fun e=>jZ (fun _ _ h=>jR h) (h.1 e),fun e=>jR (h.2 e)⟩
      . rename_i c u
        try rw [u]
        exact jR h
      exact h.elim
   simp only [grp] at h;split at h
   . rename_i g' O q z;split at h
     . rename_i v;obtain ⟨rfl,d⟩:=v;have i:∀ s K,zx P E (⟨g,O⟩::q) s K->Wh P E l s K:=fun s K h=>jR (by rw [z];exact h);cases g with
       | none=>exact jZ (fun t _ h=>i _ _ h) h
       | some J =>
         obtain ⟨j,b⟩:=J;have d:o.dst≠some j:=by simpa [Az] using d
         simp only [zx,Wh] at h ⊢;split at h
         . rename_i c u
           try rw [u]
           refine ⟨fun e=>jZ (fun t f h=>i _ _ ?_) (h.1 e),fun e=>i _ _ ?_⟩
           . simp only [zx];rw [f j d,u];exact ⟨fun _=>h,fun y=>absurd e y⟩
           simp only [zx];rw [YB d,u];refine ⟨fun y=>absurd y e,fun _=>?_⟩;rw [<-jc];exact h.2 e
         . rename_i c u
           try rw [u]
           refine i _ _ ?_;simp only [zx];rw [YB d,u];simp only;rw [<-jc];exact h
         exact h.elim
     rw [<-z] at h;exact one h
   rename_i z;rw [<-z] at h;exact one h
theorem Sim.put_undef {q:St} {a:Act} {w:World} {g:G} (h:Sim N q a w g) {o:AOp} {d:Option Nat} (e:o.dst=d) (y:∀ k,d=some k->k<N):Sim N (zd [o] q) (a.put d undef) w g:=by have:=h.step (d:=d) (r := .v undef) (v:=undef) y (.refl _ _ _) (.v _ _) h.2.2;simp only [zd,qnI,qok,e];cases d <;> exact this
def Qv (a:Act) (gd:Option (Nat×Bool)):Bool:=match gd with
 | none=>true
 | some (d,b)=>(match a.tmps[d]? with | some (.bool c)=>some c | _=>none)==some b
theorem Qr {O:Array Oper} {gd:Option (Nat×Bool)} (g:WC O o.guard=some gd) {a:Act} :
 Region.wanted o (yielded O a.tmps)=Qv a gd:=by
 unfold Region.wanted Qv;generalize o.guard=z at g ⊢;cases h:z with
 | none=>subst h;simp [WC] at g;subst g;rfl
 | some J =>
   obtain ⟨j,b⟩:=J;subst h;simp only [WC] at g;split at g
   . rename_i q u;split at g
     . rename_i d v;cases g;simp only [yielded,u,Option.bind_some,v];cases a.tmps[d]? with
       | none=>rfl
       | some y=>cases y <;> rfl
     cases g
   cases g
theorem Gr {a:AOp} (h:Ql P N o=some a):a.dst=o.dst/\∀ d,o.dst=some d->d<N:=by
 unfold Ql at h;split at h
 . rename_i t x y u v;split at h
   . cases h;exact ⟨u.symm,fun d e=>by rw [u] at e;cases e⟩
   cases h
 . rename_i u _;simp only [ZE] at h
   (repeat' split at h) <;> first | (cases h;exact ⟨u.symm,fun d e=>by rw [u] at e;cases e⟩) | cases h
 . rename_i u _;simp only [ZE] at h
   (repeat' split at h) <;> first | (cases h;exact ⟨u.symm,fun d e=>by rw [u] at e;cases e⟩) | cases h
 . rename_i u _;split at h <;> first | (cases h;exact ⟨u.symm,fun d e=>by rw [u] at e;cases e⟩) | cases h
 . rename_i u _;simp only [jL] at h
   (repeat' split at h) <;> first | (cases h;exact ⟨u.symm,fun d e=>by rw [u] at e;cases e⟩) | cases h
 . rename_i d u;split at h
   . rename_i l;exact ⟨by rw [Kv h,u],fun D e=>by rw [u] at e;cases e;exact l⟩
   cases h
 cases h
theorem SY {s:St} {a:Act} {w:World} {g:G} (u:Sim N s a w g) {x:Value} (h:get s.fr j = .v x) (v:∀ b,x = .bool b\/x=undef->True):a.tmps.getD j undef=x:=by have:=u.2.1 j;rw [h] at this;exact zZ this
theorem Kk {ops:Array Oper} {J:World} {Z:G} (Y:YS P E J Z):∀ (k:Nat) {l:List Oper} {r:List (Option (Nat×Bool)×AOp)} {v:St} {K:St->Prop} {a:Act} {w:World} {g:G} {Q:Exit->Act->World->Prop},
 (∀ j,l[j]?=ops[k+j]?)->QC P N ops l=some r->Wh P E r v K->Trans J Z w g->Sim N v a w g->qfu N v a w g K (Q .normal)->wpOpsIn (W ro) n P ops Q (List.range' k l.length) a w
 | k,[],r,v,K,a,w,g,Q,L,z,h,u,q,O=>by simp [QC] at z;subst z;exact O v a w g h q (.refl _ _ _) rfl
 | k,o::l,r,v,K,a,w,g,Q,L,z,h,u,q,O=>by
   simp only [QC] at z;split at z
   . rename_i ao gd C i h2 h3;cases z;have ho:ops[k]?=some o:=by have:=L 0;simpa using this.symm
     have M:∀ j,l[j]?=ops[k+1+j]?:=fun j=>by have:=L (j+1);simpa [qmJ,qpC 1 j] using this
     obtain ⟨d1,d2⟩:=Gr i
     have s:∀ t A d g',Wh P E C t K->Sim N t A d g'->Upd (hpf v.hp) g w (hpf t.hp) g' d->A.defers=a.defers->wpOpsIn (W ro) n P ops Q (List.range' (k+1) l.length) A d:=fun t A d g' hK T D hd =>
      Kk Y (k+1) M h3 hK (u.trans D.tr) T (fun X a2 w2 g2 k2 s2 u2 e2=>O X a2 w2 g2 k2 s2 (D.trans u2) (e2.trans hd))
     simp only [qm5,qoz,wpOpsIn,ho];rw [Qr h2];unfold Qv;have skip:Wh P E C (zd [ao] v) K->wpOpsIn (W ro) n P ops Q (List.range' (k+1) l.length) (a.put o.dst undef) w:=fun h=>s _ _ w g h (q.put_undef d1 d2) (.refl _ _ _) (zq _ _ _);cases gd with
     | none=>simp only [qmA];exact jH i h Y u q s
     | some jb =>
       obtain ⟨j,b⟩:=jb;simp only [Wh] at h;split at h
       . rename_i c x;have f:=SY q x (fun _ _=>trivial)
         have m:j<a.tmps.size:=by
          rcases qmV j a.tmps.size with p | p
          . exact p
          simp [undef,p] at f
         have V:a.tmps[j]?=some (.bool c):=by simp [m] at f;simp [m,f]
         simp only [V];by_cases e:c=b
         . subst e;simp only [qoE,qmA];exact jH i (h.1 rfl) Y u q s
         have:(some c==some b)=false:=by simp [e]
         simp only [this,qmM,qnc];exact ⟨fun _ _=>trivial,skip (h.2 e)⟩
       . rename_i c x;have f:=SY q x (fun _ _=>trivial)
         have R:((match a.tmps[j]? with | some (.bool c)=>some c | _=>none)==some b)=false:=by
          cases ht:a.tmps[j]? with
          | none=>rfl
          | some y =>
            have:y = .tuple c:=by simpa [ht] using f
            subst this;rfl
         simp only [R,qmM,qnc];exact ⟨fun _ _=>trivial,skip h⟩
       exact h.elim
   cases z
end
structure Wr (κ β:Type) where
 on:κ->Bool
 c:κ->β
def Wr.app {κ β:Type} (a:Wr κ β) (F:κ->β):κ->β:=fun k=>if a.on k then a.c k else F k
def qy {κ β:Type}:List (Wr κ β)->(Nat->Bool)->(κ->β)->κ->β
 | [],_,F=>F
 | a::l,X,F=>qy l (fun j=>X (j+1)) (if X 0 then a.app F else F)
theorem qk {κ β:Type} {k:κ}:∀ {l:List (Wr κ β)} {X Y:Nat->Bool} {F F':κ->β},F k=F' k->(∀ i (h:i<l.length),l[i].on k=true->X i=Y i)->qy l X F k=qy l Y F' k
 | [],X,Y,F,F',h,_=>h
 | a::l,X,Y,F,F',h,u=>by
   simp only [qy];refine qk ?_ (fun i v o=>u (i+1) (by simpa using v) (by simpa using o));by_cases e:a.on k=true
   . rw [u 0 (by simp) (by simpa using e)];split <;> simp [Wr.app,e,h]
   have E:a.on k=false:=by simpa using e
   split <;> split <;> simp [Wr.app,E,h]
theorem IH {κ β:Type} {a b:Wr κ β} (h:∀ k,a.on k=true->b.on k=false) (F:κ->β):a.app (b.app F)=b.app (a.app F):=by
 funext k;simp only [Wr.app];by_cases e:a.on k=true
 . simp [e,h k e]
 simp [e]
theorem Hm {κ β:Type} {a:Wr κ β}:∀ {l:List (Wr κ β)} {X:Nat->Bool} {F:κ->β},(∀ i (h:i<l.length),X i=true->∀ k,a.on k=true->l[i].on k=false)->qy l X (a.app F)=a.app (qy l X F)
 | [],X,F,_=>rfl
 | b::l,X,F,h=>by
   simp only [qy];rw [<-Hm (fun i u x=>by have:=h (i+1) (by simpa using u) x;simpa using this)];congr 1;split
   . rename_i e;have:=h 0 (by simp) e;exact (IH (by simpa using this) F).symm
   rfl
theorem zR {κ β:Type}:∀ {l:List (Wr κ β)} {X Y:Nat->Bool} {F:κ->β} {i:Nat} (u:i<l.length),X i=false->Y i=true->(∀ j,j≠i->Y j=X j) ->
 (∀ k (h:k<l.length),i<k->X k=true->∀ K,l[i].on K=true->l[k].on K=false)->qy l Y F=l[i].app (qy l X F)
 | [],X,Y,F,i,u,_,_,_,_=>by simp at u
 | a::l,X,Y,F,0,u,x,y,v,h=>by
   simp only [qy,x,y,qmA,qnL];have:(fun j=>Y (j+1))=fun j=>X (j+1):=by funext j;exact v (j+1) (by omega)
   rw [this];exact Hm (fun k z x K o=>by have:=h (k+1) (by simpa using z) (by omega) x K (by simpa using o);simpa using this)
 | a::l,X,Y,F,i+1,u,x,y,v,h=>by simp only [qy,qna];rw [v 0 (by omega)];exact zR (by simpa using u) x y (fun j n=>v (j+1) (by omega)) (fun k z t x K o=>by have:=h (k+1) (by simpa using z) (by omega) x K (by simpa using o);simpa using this)
theorem PU {hp:Hp} {r w a s x} (h:ZM hp r w a s x) (l:∀ i∈x.ids,p i=hp i):ZM p r w a s x:=by
 unfold ZM at h ⊢;cases x with
 | ptr c off=>exact h
 | ref id off=>simp only at h ⊢;rw [l id (by simp [AV.ids,AV.ids1])];exact h
 | _=>exact h
theorem Nj {z p:Hp} {f v:AV->Option (AV×List Nat)} (j:∀ {x y s},f x=some (y,s)->(∀ i∈s,p i=z i)->v x=some (y,s)):∀ {X Y:List AV} {s:List Nat},YH f X=some (Y,s)->(∀ i∈s,p i=z i)->YH v X=some (Y,s)
 | [],Y,s,h,_=>h
 | x::X,Y,s,h,l=>by
   simp only [YH] at h ⊢;split at h
   . rename_i y a g b o q;simp only [xl,qmm] at h;obtain ⟨rfl,rfl⟩:=h;rw [j o (fun i u=>l i (qnR _ u)),Nj j q (fun i u=>l i (qnM _ u))]
   cases h
theorem JU {f v:AV->Option (AV×List Nat)} (o:∀ {x y s},f x=some (y,s)->(∀ i∈s,p i=u i)->v x=some (y,s)) {id:Nat} {Y:List AV} (h:jo f u id=some (Y,s)) (l:∀ i∈s,p i=u i):jo v p id=some (Y,s):=by obtain ⟨c,J,j,z,rfl⟩:=Yw h;have:=l id (by simp);unfold jo;rw [this,j];simp only;rw [Nj o z (fun i q=>l i (by simp [q]))]
theorem LA {j:Hp}:∀ {k:Nat} {x y:AV} {s:List Nat},Xr j k x=some (y,s)->(∀ i∈s,p i=j i)->Xr p k x=some (y,s):=by
 intro k
 induction k with
 | zero=>intro x y s h _;cases x <;> simp only [Xr] at h ⊢ <;> first | exact h | cases h
 | succ k v =>
   intro x y s h u;cases x <;> simp only [Xr] at h ⊢ <;> first | exact h | (cases h;done) | skip
   . split at h
     . rename_i Y J q;have e:=h;simp only [xl,qmm] at e;obtain ⟨-,rfl⟩:=e;rw [JU v q u];exact h
     cases h
   . split at h
     . rename_i Y J q;split at h
       . rename_i l;have e:=h;simp only [xl,qmm] at e;obtain ⟨-,rfl⟩:=e;rw [JU v q u];simp only [if_pos l];exact h
       cases h
     cases h
   split at h
   . rename_i Y J q;split at h
     . rename_i l;have e:=h;simp only [xl,qmm] at e;obtain ⟨-,rfl⟩:=e;rw [JU v q u];simp only [if_pos l];exact h
     cases h
   cases h
theorem VV {x y:AV} (h:zA u x=some (y,s)) (l:∀ i∈s,p i=u i):zA p x=some (y,s):=by cases x <;> simp only [zA] at h ⊢ <;> first | exact h | (cases h;done) | exact LA h l
theorem Zr {v p:Hp}:∀ {X Y:List AV} {s:List Nat},zY v X=some (Y,s)->(∀ i∈s,p i=v i)->zY p X=some (Y,s)
 | [],Y,s,h,_=>h
 | x::X,Y,s,h,l=>by
   simp only [zY] at h ⊢;split at h
   . rename_i y a o b j z;simp only [xl,qmm] at h;obtain ⟨rfl,rfl⟩:=h;rw [VV j (fun i u=>l i (qnR _ u)),Zr z (fun i u=>l i (qnM _ u))]
   cases h
theorem VW {z:Hp} {x y:AV} (h:qR z x=some (y,s)) (l:∀ i∈s,p i=z i):qR p x=some (y,s):=by
 cases x with
 | agg c =>simp only [qR,RL] at h ⊢;obtain ⟨⟨q,a⟩,v,u⟩:=h;have e:=u;simp only [qmm] at e;obtain ⟨-,rfl⟩:=e;exact ⟨_,Zr v l,u⟩
 | fn f as o =>
   simp only [qR] at h ⊢;split at h
   . rename_i y a Y b v u;simp only [xl,qmm] at h;obtain ⟨rfl,rfl⟩:=h;rw [Zr v (fun i j=>l i (qnR _ j)),Zr u (fun i j=>l i (qnM _ j))]
   cases h
 | _=>simp only [qR] at h ⊢;exact VV h l
theorem Ji {v p:Hp}:∀ {X Y:List AV} {s:List Nat},zC v X=some (Y,s)->(∀ i∈s,p i=v i)->zC p X=some (Y,s)
 | [],Y,s,h,_=>h
 | x::X,Y,s,h,l=>by
   simp only [zC] at h ⊢;split at h
   . rename_i y a o b j z;simp only [xl,qmm] at h;obtain ⟨rfl,rfl⟩:=h;rw [VW j (fun i u=>l i (qnR _ u)),Ji z (fun i u=>l i (qnM _ u))]
   cases h
theorem Xs {j:Hp} {x y:AV} (h:qH j x=some (y,s)) (l:∀ i∈s,p i=j i):qH p x=some (y,s):=by
 cases x with
 | agg c =>simp only [qH,RL] at h ⊢;obtain ⟨⟨Y,a⟩,v,u⟩:=h;have e:=u;simp only [qmm] at e;obtain ⟨-,rfl⟩:=e;exact ⟨_,Ji v l,u⟩
 | tup c =>simp only [qH,RL] at h ⊢;obtain ⟨⟨Y,a⟩,v,u⟩:=h;have e:=u;simp only [qmm] at e;obtain ⟨-,rfl⟩:=e;exact ⟨_,Ji v l,u⟩
 | _=>simp only [qH] at h ⊢;exact VW h l
theorem zg {hp p:Hp}:∀ {xs Y:List AV} {s:List Nat},qj hp xs=some (Y,s)->(∀ i∈s,p i=hp i)->qj p xs=some (Y,s)
 | [],Y,s,h,_=>h
 | x::xs,Y,s,h,l=>by
   simp only [qj] at h ⊢;split at h
   . rename_i y a z b v j;simp only [xl,qmm] at h;obtain ⟨rfl,rfl⟩:=h;rw [Xs v (fun i u=>l i (qnR _ u)),zg j (fun i u=>l i (qnM _ u))]
   cases h
theorem Zh {hp:Hp} {xs y:List AV} {i:List Nat} (h:qj hp xs=some (y,i)):yN hp xs=i:=by unfold yN;rw [h]
theorem Ja {hp h:Hp} {z:Nat} {x:AV} (l:∀ i∈x.ids,h i=hp i):elems h z x=elems hp z x:=by
 cases x with
 | ms id off n s=>simp only [elems];rw [l id (by simp [AV.ids,AV.ids1])]
 | mc id off n c s=>simp only [elems];rw [l id (by simp [AV.ids,AV.ids1])]
 | _=>rfl
theorem JZ {hp:Hp} {e:Nat} {r:AV} {q b m:Nat} {x:AV} {Y:List AV} (h:zG hp e r w q b x m Y) (o:∀ i∈x.ids,p i=hp i) (y:e∈w.map (·.1)->N=e):zG p N r w q b x m Y:=by
 simp only [zG] at h ⊢;split at h
 . obtain ⟨u,v,j,z,g,rfl,rfl⟩:=h;have:=y (by simp);subst this;exact ⟨u,v,j,z,g,rfl,rfl⟩
 . rename_i id off n s;have:=o id (by simp [AV.ids,AV.ids1]);simp only [this];split at h
   . obtain ⟨u,v,j,z,rfl,rfl⟩:=h;have:=y (by simp);subst this;exact ⟨u,v,j,z,rfl,rfl⟩
   exact h.elim
 . rename_i id off n c s;have:=o id (by simp [AV.ids,AV.ids1]);simp only [this];split at h
   . obtain ⟨u,v,j,z,h⟩:=h;refine ⟨u,v,j,z,?_⟩;rcases h with h | ⟨f,rfl,rfl⟩
     . exact .inl h
     have:=y (by simp);subst this;exact .inr ⟨f,rfl,rfl⟩
   exact h.elim
 exact h.elim
theorem Ho {o:AOp} {F F':Nat->AV} {v:Hp} {r:AV} {Q:List (Nat×HObj)} (h:o.sem P (evF F) u N r Q)
 (q:∀ x∈o.opds,evF F' x=evF F x) (t:∀ i∈o.foot F u,v i=u i):o.foot F' v=o.foot F u:=by
 have E:(bif o.looks then o.opds.flatMap fun x=>(evF F' x).ids else [])=bif o.looks then o.opds.flatMap fun x=>(evF F x).ids else []:=by
  have:∀ {l:List Opd},(∀ x∈l,evF F' x=evF F x)->(l.flatMap fun x=>(evF F' x).ids)=l.flatMap fun x=>(evF F x).ids:=by
   intro l g
   induction l with
   | nil=>rfl
   | cons a l O=>simp only [qmH,g a (by simp),O (fun x j=>g x (by simp [j]))]
  rw [this q]
 have m:o.more (evF F') v=o.more (evF F) u:=by
  have lst:∀ {xs:List Opd},(∀ x∈xs,x∈o.opds)->xs.map (evF F')=xs.map (evF F):=fun s=>qmL (fun x j=>q x (s x j));have M:∀ i∈o.more (evF F) u,v i=u i:=fun i w=>t i (by simp only [AOp.foot,xm];exact .inr w);cases o <;> first | rfl | skip
  . rename_i d n R z b;simp only [AOp.sem] at h;have e:(b.map fun p=>evF F' p.2)=b.map fun p=>evF F p.2:=qmL (fun p u=>q _ (by simp [AOp.opds];exact ⟨_,u⟩));obtain ⟨Y,ids,k,_⟩:=h;simp only [AOp.more] at M ⊢;rw [Zh k] at M ⊢;rw [e,Zh (zg k M)]
  . rename_i d f as;simp only [AOp.sem] at h;obtain ⟨Y,ids,k,_⟩:=h;simp only [AOp.more] at M ⊢;rw [Zh k] at M ⊢;rw [lst (xs:=as) (fun x j=>by simpa [AOp.opds] using j),Zh (zg k M)]
  rename_i d x as;simp only [AOp.sem] at h;simp only [AOp.more] at M ⊢;rw [q x (by simp [AOp.opds]),lst (xs:=as) (fun y L=>by simp [AOp.opds,L])];split at h
  . rename_i f first c j
    obtain ⟨_,Y,ids,k,_⟩:=h;rw [j] at M ⊢;simp only at M ⊢;rw [Zh k] at M ⊢;exact Zh (zg k M)
  exact h.elim
 unfold AOp.foot;rw [E,m]
theorem ZX {o:AOp} {F F':Nat->AV} {hp hp':Hp} {T new':Nat} {r:AV} {ws:List (Nat×HObj)} (h:o.sem P (evF F) hp T r ws)
 (s:∀ x∈o.opds,evF F' x=evF F x) (g:∀ i∈o.foot F hp,hp' i=hp i) (L:T∈ws.map (·.1)->new'=T):o.sem P (evF F') hp' new' r ws:=by
 have t:∀ {x},o.opds=[x]->evF F' x=evF F x:=fun e=>s _ (by simp [e]);have v:∀ {x y},o.opds=[x,y]->evF F' x=evF F x/\evF F' y=evF F y:=fun e=>⟨s _ (by simp [e]),s _ (by simp [e])⟩;have lst:∀ {xs:List Opd},(∀ x∈xs,x∈o.opds)->xs.map (evF F')=xs.map (evF F):=fun D=>qmL (fun x N=>s x (D x N));cases o with
 | mv d x=>simp only [AOp.sem] at h ⊢;rw [t rfl];exact h
 | pick d c a b=>simp only [AOp.sem] at h ⊢;rw [s c (by simp [AOp.opds]),s a (by simp [AOp.opds]),s b (by simp [AOp.opds])];exact h
 | bin d op x y=>simp only [AOp.sem] at h ⊢;rw [(v rfl).1,(v rfl).2];exact h
 | bing d op ty x y=>simp only [AOp.sem] at h ⊢;rw [(v rfl).1,(v rfl).2];exact h
 | un d op x=>simp only [AOp.sem] at h ⊢;rw [t rfl];exact h
 | ext d x i=>simp only [AOp.sem] at h ⊢;rw [t rfl];exact h
 | ld d agg l x =>simp only [AOp.sem] at h ⊢;rw [t rfl];exact PU h (fun i j=>g i (by simp [AOp.foot,AOp.looks,AOp.heapy,AOp.more,AOp.opds];exact j))
 | st l a x =>
   simp only [AOp.sem] at h ⊢;rw [(v rfl).1,(v rfl).2];simp only [Ux] at h ⊢;split at h
   . rename_i id off u;have:=g id (by simp [AOp.foot,AOp.looks,AOp.heapy,AOp.more,AOp.opds,u,AV.ids,AV.ids1]);rw [this];exact h
   exact h.elim
 | box d l x =>obtain ⟨A,w,rfl,rfl⟩:=h;have:=L (by simp);subst this;show (evF F' x).cells.length=l/\_;rw [t rfl];exact ⟨A,w,rfl,rfl⟩
 | al d z =>obtain ⟨rfl,rfl⟩:=h;have:=L (by simp);subst this;exact ⟨rfl,rfl⟩
 | bsl d n l z X =>
   simp only [AOp.sem] at h ⊢;have e:(X.map fun p=>evF F' p.2)=X.map fun p=>evF F p.2:=qmL (fun p hp=>s _ (by simp [AOp.opds];exact ⟨_,hp⟩));rw [e];obtain ⟨Y,ids,O,K,J⟩:=h;refine ⟨Y,ids,zg O (fun i j=>g i (by simp only [AOp.foot,AOp.more,Zh O,xm];exact .inr j)),K,?_⟩;rcases J with J | ⟨rfl,rfl⟩
   . exact .inl J
   have:=L (by simp);subst this;exact .inr ⟨rfl,rfl⟩
 | bld d z X =>simp only [AOp.sem] at h ⊢;have e:∀ p∈X,evF F' p.2.2=evF F p.2.2:=fun p hp=>s _ (by simp [AOp.opds];exact ⟨_,_,hp⟩);have e1:(X.map fun p=>(p.1,p.2.1,evF F' p.2.2))=X.map fun p=>(p.1,p.2.1,evF F p.2.2):=qmL (fun p hp=>by rw [e p hp]);rw [e1];refine ⟨LL.2 (fun p hp=>?_),h.2⟩;rw [e p hp];exact LL.1 h.1 p hp
 | fa d x off=>simp only [AOp.sem] at h ⊢;rw [t rfl];exact h
 | fld d agg l off x=>simp only [AOp.sem] at h ⊢;rw [t rfl];exact h
 | ia d l x i=>simp only [AOp.sem] at h ⊢;rw [(v rfl).1,(v rfl).2];exact h
 | iaa d ln l x i=>simp only [AOp.sem] at h ⊢;rw [(v rfl).1,(v rfl).2];exact h
 | idx d ln agg l x i=>simp only [AOp.sem] at h ⊢;rw [(v rfl).1,(v rfl).2];exact h
 | ids d x i=>simp only [AOp.sem] at h ⊢;rw [(v rfl).1,(v rfl).2];exact h
 | len d x=>simp only [AOp.sem] at h ⊢;rw [t rfl];exact h
 | lns d x=>simp only [AOp.sem] at h ⊢;rw [t rfl];exact h
 | lnm d x =>
   simp only [AOp.sem] at h ⊢;rw [t rfl];split at h
   . rename_i id u;have:=g id (by simp [AOp.foot,AOp.looks,AOp.heapy,AOp.more,AOp.opds,u,AV.ids,AV.ids1]);rw [this];exact h
   exact h.elim
 | slc d l x Q j mx =>
   simp only [AOp.sem] at h ⊢
   have M:∀ (m:Option Opd),(∀ y∈m.toList,y∈(AOp.slc d l x Q j mx).opds)->m.map (evF F')=m.map (evF F):=fun m hm=>by
    cases m with
    | none=>rfl
    | some y=>simp [s y (hm y (by simp))]
   rw [s x (by simp [AOp.opds]),M Q (fun y q=>by simp [AOp.opds] at q ⊢;exact .inr (.inl q)),M j (fun y q=>by simp [AOp.opds] at q ⊢;exact .inr (.inr (.inl q))),M mx (fun y q=>by simp [AOp.opds] at q ⊢;exact .inr (.inr (.inr q)))];exact h
 | sls d x Q j =>
   simp only [AOp.sem] at h ⊢
   have M:∀ (m:Option Opd),(∀ y∈m.toList,y∈(AOp.sls d x Q j).opds)->m.map (evF F')=m.map (evF F):=fun m hm=>by
    cases m with
    | none=>rfl
    | some y=>simp [s y (hm y (by simp))]
   rw [s x (by simp [AOp.opds]),M Q (fun y q=>by simp [AOp.opds] at q ⊢;exact .inr (.inl q)),M j (fun y q=>by simp [AOp.opds] at q ⊢;exact .inr (.inr q))];exact h
 | app d l bytes x y =>simp only [AOp.sem] at h ⊢;rw [(v rfl).1,(v rfl).2,Ja (hp:=hp) (fun i j=>g i (by simp [AOp.foot,AOp.looks,AOp.heapy,AOp.more,AOp.opds];exact .inr j))];obtain ⟨m,Y,A,w,R⟩:=h;exact ⟨m,Y,A,w,JZ R (fun i j=>g i (by simp [AOp.foot,AOp.looks,AOp.heapy,AOp.more,AOp.opds];exact .inl j)) L⟩
 | b2s d x =>simp only [AOp.sem] at h ⊢;rw [t rfl,Ja (hp:=hp) (fun i j=>g i (by simp [AOp.foot,AOp.looks,AOp.heapy,AOp.more,AOp.opds];exact j))];exact h
 | s2b d x=>simp only [AOp.sem] at h ⊢;rw [t rfl];exact h
 | apps d bytes x y =>
   simp only [AOp.sem] at h ⊢;rw [(v rfl).1,(v rfl).2];split at h
   . exact JZ h (fun i j=>g i (by simp [AOp.foot,AOp.looks,AOp.heapy,AOp.more,AOp.opds];exact .inl j)) L
   exact h.elim
 | cpy d l x y =>
   simp only [AOp.sem] at h ⊢;rw [(v rfl).1,(v rfl).2];split at h
   . rename_i id off n V u;obtain ⟨m,Y,C,A,w,R,Z⟩:=h;have:=g id (by simp [AOp.foot,AOp.looks,AOp.heapy,AOp.more,AOp.opds,u,AV.ids,AV.ids1]);refine ⟨m,Y,C,?_,w,by rw [this];exact R,Z⟩;rw [Ja (hp:=hp) (fun i j=>g i (by simp [AOp.foot,AOp.looks,AOp.heapy,AOp.more,AOp.opds];exact .inr j))];exact A
   . rename_i id off n c V u;obtain ⟨m,Y,C,A,w,R,Z⟩:=h;have:=g id (by simp [AOp.foot,AOp.looks,AOp.heapy,AOp.more,AOp.opds,u,AV.ids,AV.ids1]);refine ⟨m,Y,C,?_,w,by rw [this];exact R,Z⟩;rw [Ja (hp:=hp) (fun i j=>g i (by simp [AOp.foot,AOp.looks,AOp.heapy,AOp.more,AOp.opds];exact .inr j))];exact A
   exact h.elim
 | mks d l bytes z x y =>obtain ⟨k,A,w,R,Z,a5,rfl,rfl⟩:=h;have:=L (by simp);subst this;exact ⟨k,by rw [(v rfl).1];exact A,by rw [(v rfl).2];exact w,R,Z,a5,rfl,rfl⟩
 | cnv d k x=>simp only [AOp.sem] at h ⊢;rw [t rfl];exact h
 | mx d m x y=>simp only [AOp.sem] at h ⊢;rw [(v rfl).1,(v rfl).2];exact h
 | nilc d x=>simp only [AOp.sem] at h ⊢;rw [t rfl];exact h
 | mkf d f as bs =>simp only [AOp.sem] at h ⊢;rw [lst (fun x N=>by simp [AOp.opds,N]),lst (fun x N=>by simp [AOp.opds,N])];exact h
 | call d f as =>
   simp only [AOp.sem] at h ⊢;rw [lst (xs:=as) (fun x N=>by simpa [AOp.opds] using N)];obtain ⟨Y,ids,O,K⟩:=h;refine ⟨Y,ids,zg O (fun i j=>g i (by simp only [AOp.foot,AOp.more,Zh O,xm];exact .inr j)),?_⟩;rcases K with K | ⟨m,l,C,K,rfl,rfl⟩ | ⟨Φ,K,rfl,rfl⟩
   . exact .inl K
   . have:=L (by simp);subst this;exact .inr (.inl ⟨m,l,C,K,rfl,rfl⟩)
   have:=L (by simp);subst this;exact .inr (.inr ⟨Φ,K,rfl,rfl⟩)
 | callv d x as =>
   simp only [AOp.sem] at h ⊢;rw [s x (by simp [AOp.opds]),lst (xs:=as) (fun y q=>by simp [AOp.opds,q])];split at h
   . rename_i f first x0 N
     obtain ⟨h0,Y,ids,O,K⟩:=h;refine ⟨h0,Y,ids,?_,?_⟩
     . exact zg O (fun i j=>g i (by simp only [AOp.foot,AOp.more,N,Zh O,xm];exact .inr j))
     rcases K with K | ⟨m,l,C,K,rfl,rfl⟩
     . exact .inl K
     have:=L (by simp);subst this;exact .inr ⟨m,l,C,K,rfl,rfl⟩
   exact h.elim
 | callx d f as=>exact h.elim
 | rng=>exact h.elim
 | nxt=>exact h.elim
 | ent=>exact h.elim
 | isn=>exact h.elim
 | cap d x=>simp only [AOp.sem] at h ⊢;rw [t rfl];exact h
 | eqk d b E x y=>simp only [AOp.sem] at h ⊢;rw [(v rfl).1,(v rfl).2];exact h
 | clr l z x =>
   simp only [AOp.sem] at h ⊢;rw [t rfl];split at h
   . rename_i id off n V u;have:=g id (by simp [AOp.foot,AOp.looks,AOp.heapy,AOp.more,AOp.opds,u,AV.ids,AV.ids1]);rw [this];exact h
   . rename_i id off n c V u;have:=g id (by simp [AOp.foot,AOp.looks,AOp.heapy,AOp.more,AOp.opds,u,AV.ids,AV.ids1]);rw [this];exact h
   exact h.elim
 | appz d l bytes z x k =>simp only [AOp.sem] at h ⊢;rw [(v rfl).1,(v rfl).2];obtain ⟨m,A,w⟩:=h;exact ⟨m,A,JZ w (fun i j=>g i (by simp [AOp.foot,AOp.looks,AOp.heapy,AOp.more,AOp.opds];exact .inl j)) L⟩
 | slp d l ln x Q j mx =>
   simp only [AOp.sem] at h ⊢
   have M:∀ (m:Option Opd),(∀ y∈m.toList,y∈(AOp.slp d l ln x Q j mx).opds)->m.map (evF F')=m.map (evF F):=fun m hm=>by
    cases m with
    | none=>rfl
    | some y=>simp [s y (hm y (by simp))]
   rw [s x (by simp [AOp.opds]),M Q (fun y q=>by simp [AOp.opds] at q ⊢;exact .inr (.inl q)),M j (fun y q=>by simp [AOp.opds] at q ⊢;exact .inr (.inr (.inl q))),M mx (fun y q=>by simp [AOp.opds] at q ⊢;exact .inr (.inr (.inr q)))];split at h
   . rename_i id off u;have:=g id (by simp [AOp.foot,AOp.looks,AOp.heapy,AOp.more,AOp.opds,u,AV.ids,AV.ids1]);rw [this];exact h
   . exact h
   exact h.elim
 | mkm d =>obtain ⟨rfl,rfl⟩:=h;have:=L (by simp);subst this;exact ⟨rfl,rfl⟩
 | ins E x y z =>
   simp only [AOp.sem] at h ⊢;rw [s x (by simp [AOp.opds]),s y (by simp [AOp.opds]),s z (by simp [AOp.opds])];split at h
   . rename_i id u;have:=g id (by simp [AOp.foot,AOp.looks,AOp.heapy,AOp.more,AOp.opds,u,AV.ids,AV.ids1]);rw [this];exact h
   exact h.elim
 | lku d E z ok x y =>
   simp only [AOp.sem] at h ⊢;rw [(v rfl).1,(v rfl).2];split at h
   . rename_i id u;have:=g id (by simp [AOp.foot,AOp.looks,AOp.heapy,AOp.more,AOp.opds,u,AV.ids,AV.ids1]);rw [this];exact h
   exact h.elim
 | mpe d E z x y =>
   simp only [AOp.sem] at h ⊢;rw [(v rfl).1,(v rfl).2];split at h
   . rename_i id u;have:=g id (by simp [AOp.foot,AOp.looks,AOp.heapy,AOp.more,AOp.opds,u,AV.ids,AV.ids1]);rw [this];exact h
   exact h.elim
 | est x y z =>
   simp only [AOp.sem] at h ⊢;rw [s x (by simp [AOp.opds]),s y (by simp [AOp.opds]),s z (by simp [AOp.opds])];split at h
   . rename_i id u;have:=g id (by simp [AOp.foot,AOp.looks,AOp.heapy,AOp.more,AOp.opds,u,AV.ids,AV.ids1]);rw [this];exact h
   exact h.elim
 | del E x y =>
   simp only [AOp.sem] at h ⊢;rw [(v rfl).1,(v rfl).2];split at h
   . rename_i id u;have:=g id (by simp [AOp.foot,AOp.looks,AOp.heapy,AOp.more,AOp.opds,u,AV.ids,AV.ids1]);rw [this];exact h
   exact h.elim
structure Rec where
 dst:Option Nat
 r:AV
 ws:List (Nat×HObj)
 foot:List Nat
def Rec.F (R:Rec):Wr Nat AV:=⟨fun t=>R.dst==some t,fun _=>R.r⟩
def Rec.H (R:Rec):Wr Nat (Option HObj):=⟨fun id=>(R.ws.map (·.1)).contains id,fun id=>Hp.write (fun _=>none) R.ws id⟩
theorem QN (R:Rec) (f:List (Nat×AV)):R.F.app (get f)=get (zb f R.dst R.r):=by
 funext t;obtain ⟨d,r,ws,u⟩:=R;cases d with
 | none=>simp [Wr.app,Rec.F,zb]
 | some d =>
   simp only [Wr.app,Rec.F,zb,get];by_cases e:d=t
   . simp [e]
   simp [e]
theorem ER:∀ (w:List (Nat×HObj)) (H:Hp) (id:Nat),Hp.write H w id=if (w.map (·.1)).contains id then Hp.write (fun _=>none) w id else H id
 | [],H,id=>by simp [Hp.write]
 | (i,o)::w,H,id=>by
   simp only [Hp.write];rw [ER w (Hp.set H i o) id,ER w (Hp.set (fun _=>none) i o) id];by_cases h:(w.map (·.1)).contains id=true
   . have:(((i,o)::w).map (·.1)).contains id=true:=by simp at h ⊢;exact .inr h
     rw [if_pos h,if_pos this,if_pos h]
   rw [if_neg h,if_neg h];by_cases e:id=i
   . subst e;simp [Hp.set]
   have:¬ (((i,o)::w).map (·.1)).contains id=true:=by simp [e] at h ⊢;exact h
   rw [if_neg this,Hp.set_other _ _ e]
theorem Jk (R:Rec) (H:Hp):R.H.app H=Hp.write H R.ws:=by funext id;simp only [Wr.app,Rec.H];exact (ER R.ws H id).symm
def Ir (gd:Option (Nat×Bool)) (F:Nat->AV):Prop:=match gd with
 | none=>True
 | some (j,b)=>F j = .v (.bool b)
def Hr (g:Option (Nat×Bool)) (F:Nat->AV):Prop:=match g with
 | none=>False
 | some (j,b)=>(∃ c,F j = .v (.bool c)/\c≠b)\/∃ c,F j = .v (.tuple c)
def UV (P:Program) (gd:Option (Nat×Bool)) (o:AOp) (R:Rec) (F:Nat->AV) (H:Hp) (n:Nat):Prop :=
 R.dst=o.dst/\((Ir gd F/\o.sem P (evF F) H n R.r R.ws/\R.foot=o.foot F H)\/(Hr gd F/\R.r = .v undef/\R.ws=[]/\R.foot=[]))
inductive DRun (P:Program):List (Option (Nat×Bool)×AOp)->St->List Rec->St->Prop
 | nil (st:St):DRun P [] st [] st
 | cons {gd o l st R Rs st'}:UV P gd o R (get st.fr) (hpf st.hp) st.hp.length->DRun P l (st.step R.dst R.r R.ws) Rs st'->DRun P ((gd,o)::l) st (R::Rs) st'
def EO (R:Rec):List Nat×List Nat:=(R.foot,R.ws.map (·.1))
section
variable {P:Program}
def Ww (P:Program):List (Option (Nat×Bool)×AOp)->St->Tr->(St->Tr->Prop)->Prop
 | [],s,t,K=>K s t
 | (none,o)::l,s,t,K=>∃ r w,o.sem P (evF (get s.fr)) (hpf s.hp) s.hp.length r w/\Ww P l (s.step o.dst r w) (t++[(o.foot (get s.fr) (hpf s.hp),w.map (·.1))]) K
 | (some (j,b),o)::l,s,t,K=>match get s.fr j with
   | .v (.bool c)=>(c=b->∃ r w,o.sem P (evF (get s.fr)) (hpf s.hp) s.hp.length r w/\Ww P l (s.step o.dst r w) (t++[(o.foot (get s.fr) (hpf s.hp),w.map (·.1))]) K)/\(c≠b->Ww P l (zd [o] s) (t++[([],[])]) K)
   | .v (.tuple _)=>Ww P l (zd [o] s) (t++[([],[])]) K
   | _=>False
theorem xP {s:St} {o:AOp} {r w} (h:o.dst≠some j):get (s.step o.dst r w).fr j=get s.fr j:=by
 simp only [St.step,zb];cases hd:o.dst with
 | none=>rfl
 | some d =>rw [hd] at h;have:¬ d=j:=fun e=>h (by rw [e]);simp [get,this]
theorem QQ:∀ {l:List (Option (Nat×Bool)×AOp)} {st:St} {t:Tr} {K:St->Tr->Prop},zu P (grp l) st t K->Ww P l st t K
 | [],st,t,K,h=>h
 | (g,o)::l,st,t,K,h=>by
   have one:zu P (⟨g,[o]⟩::grp l) st t K->Ww P ((g,o)::l) st t K:=fun h=>by
    cases g with
    | none =>obtain ⟨r,ws,v,z⟩:=h;exact ⟨r,ws,v,QQ z⟩
    | some J =>
      obtain ⟨j,b⟩:=J;simp only [zu,Ww] at h ⊢;split at h
      . rename_i c u
        try rw [u]
        exact ⟨fun e=>by obtain ⟨r,ws,v,z⟩:=h.1 e;exact ⟨r,ws,v,QQ z⟩,fun e=>QQ (h.2 e)⟩
      . rename_i c u
        try rw [u]
        exact QQ h
      exact h.elim
   simp only [grp] at h;split at h
   . rename_i m O s y;split at h
     . rename_i n;obtain ⟨rfl,d⟩:=n;have i:∀ st t K,zu P (⟨g,O⟩::s) st t K->Ww P l st t K:=fun st t K h=>QQ (by rw [y];exact h);cases g with
       | none =>obtain ⟨r,ws,v,z⟩:=h;exact ⟨r,ws,v,i _ _ _ z⟩
       | some J =>
         obtain ⟨j,b⟩:=J;have d:o.dst≠some j:=by simpa [Az] using d
         simp only [zu,Ww] at h ⊢;split at h
         . rename_i c u
           try rw [u]
           refine ⟨fun e=>?_,fun e=>i _ _ _ ?_⟩
           . obtain ⟨r,ws,v,z⟩:=h.1 e;refine ⟨r,ws,v,i _ _ _ ?_⟩;simp only [zu];rw [xP d,u];exact ⟨fun _=>z,fun q=>absurd e q⟩
           simp only [zu];rw [YB d,u];refine ⟨fun q=>absurd q e,fun _=>?_⟩;rw [<-jc];have:=h.2 e;simpa using this
         . rename_i c u
           try rw [u]
           refine i _ _ _ ?_;simp only [zu];rw [YB d,u];simp only;rw [<-jc];simpa using h
         exact h.elim
     rw [<-y] at h;exact one h
   rename_i y;rw [<-y] at h;exact one h
theorem Ny (o:AOp) (s:St):zd [o] s=s.step o.dst (.v undef) []:=by simp only [zd,St.step,zb,qf,qnI,qok];cases o.dst <;> rfl
theorem Zw:∀ {l:List (Option (Nat×Bool)×AOp)} {st:St} {t:Tr} {K:St->Tr->Prop},Ww P l st t K->∃ R s,DRun P l st R s/\K s (t++R.map EO)
 | [],st,t,K,h=>⟨[],st,.nil st,by have q:K st t:=h;simpa using q⟩
 | (gd,o)::l,st,t,K,h=>by
   have y:Ir gd (get st.fr)->(∃ r ws,o.sem P (evF (get st.fr)) (hpf st.hp) st.hp.length r ws/\Ww P l (st.step o.dst r ws) (t++[(o.foot (get st.fr) (hpf st.hp),ws.map (·.1))]) K)->∃ R s,DRun P ((gd,o)::l) st R s/\K s (t++R.map EO):=fun g ⟨r,ws,m,f⟩=>by obtain ⟨R,s,v,z⟩:=Zw f;exact ⟨⟨o.dst,r,ws,o.foot (get st.fr) (hpf st.hp)⟩::R,s,.cons ⟨rfl,.inl ⟨g,m,rfl⟩⟩ v,by simpa [EO] using z⟩
   have k:Hr gd (get st.fr)->Ww P l (zd [o] st) (t++[([],[])]) K->∃ R s,DRun P ((gd,o)::l) st R s/\K s (t++R.map EO):=fun g h=>by rw [Ny] at h;obtain ⟨R,s,v,z⟩:=Zw h;exact ⟨⟨o.dst,.v undef,[],[]⟩::R,s,.cons ⟨rfl,.inr ⟨g,rfl,rfl,rfl⟩⟩ v,by simpa [EO] using z⟩
   cases gd with
   | none=>exact y trivial h
   | some J =>
     obtain ⟨j,b⟩:=J;simp only [Ww] at h;split at h
     . rename_i c u;by_cases e:c=b
       . subst e;exact y u (h.1 rfl)
       exact k (.inl ⟨c,u,e⟩) (h.2 e)
     . rename_i c u;exact k (.inr ⟨c,u⟩) h
     exact h.elim
theorem Nr {l st R s} (h:DRun P l st R s):R.length=l.length:=by
 induction h with
 | nil=>rfl
 | cons _ _ i=>simp [i]
theorem WZ:∀ (w:List (Nat×HObj)) (l:List HObj),l.length<=(qf l w).length
 | [],l=>Qs _
 | (i,o)::w,l=>qmT (XZ l i o) (WZ w _)
theorem fN (l:List HObj) {id:Nat} (o:HObj) (h:id<=l.length):id<(qz l id o).length:=by simp only [qz];split <;> simp <;> omega
theorem UL:∀ {w:List (Nat×HObj)} {l:List HObj},(∀ p∈w,p.1<=l.length)->∀ p∈w,p.1<(qf l w).length
 | [],l,_,p,u=>by simp at u
 | (i,o)::w,l,h,p,u=>by
   simp only [qf];rcases sg.1 u with rfl | u
   . exact qnY (fN l o (h (i,o) (by simp))) (WZ _ _)
   exact UL (fun q v=>qmT (h q (by simp [v])) (XZ _ _ _)) p u
theorem ZV {l st v s} (h:DRun P l st v s):st.hp.length<=s.hp.length/\∀ R∈v,∀ p∈R.ws,p.1<s.hp.length:=by
 induction h with
 | nil=>exact ⟨Qs _,by simp⟩
 | @cons gd o l st R v s k _ z =>
   have i:∀ p∈R.ws,p.1<=st.hp.length:=by
    rcases k.2 with ⟨_,j,_⟩ | ⟨_,_,j,_⟩
    . exact EH j
    rw [j];simp
   refine ⟨qmT (WZ R.ws st.hp) z.1,fun q u p y=>?_⟩;rcases sg.1 u with rfl | u
   . exact qnY (UL i p y) z.1
   exact z.2 q u p y
theorem qP {κ β:Type}:∀ {l:List (Wr κ β)} {X:Nat->Bool} {F:κ->β},(∀ i,X i=false)->qy l X F=F
 | [],_,_,_=>rfl
 | a::l,X,F,h=>by simp only [qy,h 0];exact qP (fun i=>h (i+1))
theorem ZA {l st s t} (h:DRun P l st s t):∀ i (z:i<l.length) (v:i<s.length),∃ new,UV P l[i].1 l[i].2 s[i] (qy (s.map Rec.F) (fun k=>decide (k<i)) (get st.fr)) (qy (s.map Rec.H) (fun k=>decide (k<i)) (hpf st.hp)) new /\
 (qy (s.map Rec.H) (fun k=>decide (k<i)) (hpf st.hp)) new=none:=by
 induction h with
 | nil=>intro i z;simp at z
 | @cons gd o l st R s t j r q =>
   have d:∀ p∈R.ws,p.1<=st.hp.length:=by
    rcases j.2 with ⟨_,u,_⟩ | ⟨_,_,u,_⟩
    . exact EH u
    rw [u];simp
   intro i z v;cases i with
   | zero =>
     refine ⟨st.hp.length,?_,?_⟩
     . rw [qP (fun i=>by simp),qP (fun i=>by simp)];exact j
     rw [qP (fun i=>by simp)];simp [hpf]
   | succ i =>
     obtain ⟨new,u,y⟩:=q i (by simpa using z) (by simpa using v);refine ⟨new,?_,?_⟩
     . simp only [wI,qy,qna,qo1,qpk,qmA,qod];rw [QN,Jk,<-zN d];exact u
     simp only [wI,qy,qo1,qpk,qmA,qod];rw [Jk,<-zN d];exact y
theorem EB {l st u s} (h:DRun P l st u s):get s.fr=qy (u.map Rec.F) (fun _=>true) (get st.fr)/\hpf s.hp=qy (u.map Rec.H) (fun _=>true) (hpf st.hp):=by
 induction h with
 | nil=>exact ⟨rfl,rfl⟩
 | @cons gd o l st R u s k r j =>
   have i:∀ p∈R.ws,p.1<=st.hp.length:=by
    rcases k.2 with ⟨_,v,_⟩ | ⟨_,_,v,_⟩
    . exact EH v
    rw [v];simp
   simp only [wI,qy,qmA];rw [QN,Jk,<-zN i];exact j
def AOp.touch (o:AOp):Bool:=o.heapy || (match o with | .box .. | .al .. | .mks .. | .mkm .. => true | _=>false)
def Opd.tmp:Opd->List Nat
 | .t n=>[n]
 | .k _=>[]
def zf (c:Option (Nat×Bool)×AOp):List Nat:=c.2.opds.flatMap Opd.tmp++(match c.1 with | some (j,_)=>[j] | none=>[])
def QX (d:Option Nat) (l:List Nat):Bool:=match d with
 | some d => !l.contains d
 | none=>true
def Jr (a b:Option (Nat×Bool)×AOp):Bool:=QX a.2.dst (zf b)&&QX b.2.dst (zf a)&&(match a.2.dst,b.2.dst with | some x,some y=>x != y | _,_=>true)
def Ly (o:Array Oper):List (List Nat) :=
 let b:=Region.before o
 (List.range o.size).map fun k=>(List.range k).filter fun i=>(b.getD k 0).testBit i
def zEq:AV->AV->Bool
 | .v (.int k a),.v (.int K b)=>decide (k=K)&&a==b
 | .v (.bool a),.v (.bool b)=>a==b
 | _,_=>false
theorem qfq {x y:AV} (h:zEq x y=true):x=y:=by
 unfold zEq at h;split at h
 . simp at h;rw [h.1,h.2]
 . simp at h;rw [h]
 cases h
def BH:Opd->Opd->Bool
 | .t a,.t b=>a==b
 | _,_=>false
theorem Eh {x y:Opd} (h:BH x y=true):x=y:=by
 unfold BH at h;split at h
 . simp at h;rw [h]
 cases h
def Qc (C:List (Option (Nat×Bool)×AOp)) (i k:Nat):Bool:=match C[i]?,C[k]? with
 | some (_,.lku _ s z false m q),some (_,.mpe _ K Z M Q)=>decide (i<k)&&decide (s=K)&&zEq z Z&&BH m M&&BH q Q &&
  (List.range k).all fun j=>decide (j<i) || (match C[j]? with | some c=>QX c.2.dst (m.tmp++q.tmp) | none=>false)
 | _,_=>false
def qjp (p:List (List Nat)) (c:List (Option (Nat×Bool)×AOp)):List (Nat×Nat) :=
 (List.range c.length).flatMap fun k=>((List.range k).filter fun i => !(p.getD k []).contains i && !Qc c i k&&((c.getD i (none,.callv 0 (.t 0) [])).2.touch&&(c.getD k (none,.callv 0 (.t 0) [])).2.touch)).map fun i=>(i,k)
def Xh (O:Array Oper) (c:List (Option (Nat×Bool)×AOp)) (p:List (List Nat)) (n:List (Nat×Nat)):Bool :=
 (List.range O.size).all fun k=>match O[k]?,c[k]? with
  | some o,some u=>o.after.toList.all (fun e => !Region.binds .any e || decide (e.on<k)) &&
   (p.getD k []).all (fun j=>o.after.toList.any fun e=>Region.binds .any e&&(e.on==j || (p.getD e.on []).contains j)) &&
   (List.range k).all fun i=>(p.getD k []).contains i || (match c[i]? with
    | some C=>Jr C u&&(!C.2.touch || !u.2.touch || n.contains (i,k) || Qc c i k)
    | none=>false)
  | _,_=>false
theorem Ns {o:AOp} {e:Opd->AV} {H:Hp} {n:Nat} {r:AV} (t:o.touch=false) (h:o.sem P e H n r w):w=[]:=by
 cases o with
 | pick=>simp only [AOp.sem] at h;split at h <;> first | exact h.2 | exact h.elim
 | bin=>simp only [AOp.sem] at h;split at h <;> first | (obtain ⟨_,_,_,h⟩:=h;exact h) | exact h.elim
 | bing=>obtain ⟨_,_,_,_,_,_,_,_,h⟩:=h;exact h
 | un=>simp only [AOp.sem] at h;split at h <;> first | (obtain ⟨_,_,_,h⟩:=h;exact h) | exact h.elim
 | ext=>simp only [AOp.sem] at h;split at h <;> first | (obtain ⟨_,_,_,h⟩:=h;exact h) | exact h.elim
 | mv=>exact h.2
 | bld=>exact h.2.2
 | mkf=>exact h.2
 | fa=>simp only [AOp.sem] at h;split at h <;> first | exact h.2 | exact h.elim
 | fld=>simp only [AOp.sem] at h;split at h <;> first | exact h.2 | exact h.elim
 | ia=>simp only [AOp.sem] at h;split at h <;> first | exact h.2.2.1 | exact h.2.2.2 | exact h.elim
 | iaa=>simp only [AOp.sem] at h;split at h <;> first | exact h.2.2 | exact h.elim
 | idx=>simp only [AOp.sem] at h;split at h <;> first | exact h.2.2 | exact h.elim
 | ids=>simp only [AOp.sem] at h;split at h <;> first | exact h.2.2 | exact h.elim
 | len=>simp only [AOp.sem] at h;split at h <;> first | exact h.2 | exact h.elim
 | lns=>simp only [AOp.sem] at h;split at h <;> first | exact h.2 | exact h.elim
 | cnv=>simp only [AOp.sem] at h;split at h <;> first | exact h.2 | exact h.elim
 | mx=>simp only [AOp.sem] at h;split at h <;> first | exact h.2 | exact h.elim
 | nilc=>simp only [AOp.sem] at h;split at h <;> first | exact h.2 | exact h.elim
 | slc d s x l i mx =>
   simp only [AOp.sem,Xx] at h;split at h
   . obtain ⟨_,_,_,_,_,_,_,_,h⟩:=h;exact h
   . obtain ⟨_,_,_,_,_,_,_,_,_,h⟩:=h;exact h
   . obtain ⟨_,_,_,_,_,_,_,_,_,_,_,h⟩:=h;exact h
   exact h.elim
 | sls d x l i =>
   simp only [AOp.sem] at h;split at h
   . obtain ⟨_,_,_,_,_,_,_,h⟩:=h;exact h
   exact h.elim
 | isn=>exact h.elim
 | cap=>simp only [AOp.sem] at h;split at h <;> first | exact h.2.2 | exact h.2 | exact h.elim
 | eqk=>obtain ⟨_,_,_,_,_,_,_,h⟩:=h;exact h
 | _=>simp [AOp.touch,AOp.heapy] at t
theorem WP {o:AOp} (h:o.touch=false) (F:Nat->AV) (H:Hp):o.foot F H=[]:=by cases o <;> first | rfl | (simp [AOp.touch,AOp.heapy] at h)
theorem Zy {gd:Option (Nat×Bool)} {o:AOp} {R:Rec} {F H n} (t:o.touch=false) (h:UV P gd o R F H n):R.ws=[]/\R.foot=[]:=by
 rcases h.2 with ⟨_,u,v⟩ | ⟨_,_,u,v⟩
 . refine ⟨Ns t u,?_⟩;rw [v];exact WP t _ _
 exact ⟨u,v⟩
theorem Yi:∀ {n:List (Nat×Nat)} {t:Tr},Qm t n=true->∀ {i j:Nat},(i,j)∈n->∃ a b,t[i]?=some a/\t[j]?=some b/\UN a.2 b.1=true/\UN a.2 b.2=true/\UN b.2 a.1=true
 | [],t,h,i,j,hm=>by simp at hm
 | (p,q)::n,t,h,i,j,hm=>by
   simp only [Qm,qd] at h;rcases sg.1 hm with e | hm
   . cases e;have u:=h.1;split at u
     . rename_i r w R y v z;simp only [qd] at u;exact ⟨_,_,v,z,u.1.1,u.1.2,u.2⟩
     cases u
   exact Yi h.2 hm
theorem ZI {a b:List Nat} (h:UN a b=true) {x:Nat} (u:x∈a):x∉b:=by have:=LL.1 h x u;simpa using this
end
def unl (X:Nat->Bool):Nat->Nat
 | 0=>0
 | n+1=>unl X n+if X n then 0 else 1
theorem EP {X:Nat->Bool} {Y:Nat->Bool} {i:Nat} (x:X i=false) (y:Y i=true) (u:∀ j,j≠i->Y j=X j):∀ n,i<n->unl Y n<unl X n
 | 0,h=>by omega
 | n+1,h=>by
   simp only [unl];by_cases e:n=i
   . subst e
     have:unl Y n=unl X n:=by
      have:∀ m,m<=n->unl Y m=unl X m:=fun m=>by
       induction m with
       | zero=>intro _;rfl
       | succ m v=>intro hm;simp only [unl];rw [v (by omega),u m (by omega)]
      exact this n (Qs _)
     rw [this,x,y];simp
   rw [u n e];have:=EP x y u n (by omega);omega
theorem Kc {X:Nat->Bool}:∀ {n},unl X n=0->∀ i,i<n->X i=true
 | 0,_,i,h=>by omega
 | n+1,h,i,u=>by
   simp only [unl] at h;by_cases e:i=n
   . subst e;cases hx:X i with
     | true=>rfl
     | false=>rw [hx] at h;simp at h
   exact Kc (n:=n) (by omega) i (by omega)
section
variable {P:Program} {N:Nat} {ro:Option Nat} {n:Nat}
theorem zr {O:Array Oper}:∀ {l:List Oper} {c},QC P N O l=some c->c.length=l.length/\∀ i (h:i<l.length) (q:i<c.length),Ql P N l[i]=some c[i].2/\WC O l[i].guard=some c[i].1
 | [],c,h=>by simp [QC] at h;subst h;exact ⟨rfl,fun i h=>by simp at h⟩
 | o::l,c,h=>by
   simp only [QC] at h;split at h
   . rename_i a gd C v j z;cases h;obtain ⟨e,E⟩:=zr z;refine ⟨by simp [e],fun i y u=>?_⟩;cases i with
     | zero=>exact ⟨v,j⟩
     | succ i=>simpa using E i (by simpa using y) (by simpa using u)
   cases h
theorem Yk {o:Array Oper} {c pre q} (h:Xh o c pre q=true) {i:Nat} (j:i<k) (y:k<o.size) (g:k<c.length) :
 i∈pre.getD k []\/(Jr c[i] c[k]=true/\(Qc c i k=true\/(c[i].2.touch=true->c[k].2.touch=true->(i,k)∈q))):=by
 have z:=LL.1 h k (qmO.2 y);have e:c[i]?=some c[i]:=Wd _;have E:c[k]?=some c[k]:=Wd _;simp only [qmW y,E,qd] at z;have u:=LL.1 z.2 i (qmO.2 j);rw [e] at u;simp only [qm2,qd] at u;rcases u with u | ⟨u,v⟩
 . exact .inl (by simpa using u)
 rcases v with v | v
 . refine .inr ⟨u,.inr fun t1 t2=>?_⟩;rw [t1,t2] at v;simpa using v
 exact .inr ⟨u,.inl v⟩
theorem ZO {o:Array Oper} {c pre s} (h:Xh o c pre s=true) (y:k<o.size) (g:k<c.length) :
 (∀ e∈o[k].after,Region.binds .any e=true->e.on<k)/\(∀ j∈pre.getD k [],∃ e∈o[k].after,Region.binds .any e=true/\(e.on=j\/j∈pre.getD e.on [])):=by
 have u:=LL.1 h k (qmO.2 y);have E:c[k]?=some c[k]:=Wd _;simp only [qmW y,E,qd] at u;refine ⟨fun e z b=>?_,fun j q=>?_⟩
 . have:=LL.1 u.1.1 e (by simpa using z);simpa [b] using this
 have:=LL.1 u.1.2 j q;obtain ⟨e,z,v⟩:=qnG.1 this;simp only [qd,qm2,qon] at v;exact ⟨e,by simpa using z,v.1,by simpa using v.2⟩
structure Fixed (P:Program) (N:Nat) (ops:Array Oper) (cl:List (Option (Nat×Bool)×AOp)) (pre:List (List Nat)) (un:List (Nat×Nat)) (st:St) (Rs:List Rec) (st':St):Prop where
 comp:QC P N ops ops.toList=some cl
 ok:Xh ops cl pre un=true
 run:DRun P cl st Rs st'
 cm:Qm (Rs.map EO) un=true
variable {ops:Array Oper} {cl:List (Option (Nat×Bool)×AOp)} {pre:List (List Nat)} {un:List (Nat×Nat)} {st:St} {Rs:List Rec} {st':St}
theorem Fixed.lens (f:Fixed P N ops cl pre un st Rs st'):cl.length=ops.size/\Rs.length=ops.size :=
 ⟨by simpa using (zr f.comp).1,by rw [Nr f.run];simpa using (zr f.comp).1⟩
structure Apart (ex:Bool) (ci ck:Option (Nat×Bool)×AOp) (Ri Rk:Rec):Prop where
 look:∀ d,Ri.dst=some d->d∉zf ck
 look':∀ d,Rk.dst=some d->d∉zf ci
 dst:∀ d,Ri.dst=some d->Rk.dst≠some d
 wr:∀ x∈Ri.ws.map (·.1),x∉Rk.foot
 ww:∀ x∈Ri.ws.map (·.1),x∉Rk.ws.map (·.1)
 rw:ex=true\/∀ x∈Rk.ws.map (·.1),x∉Ri.foot
theorem FT {R:Rec} {F:Nat->AV} {H:Hp} {e:Nat} (h:Qc cl i k=true) (y:i<cl.length) (v:UV P cl[i].1 cl[i].2 R F H e):R.ws=[]:=by
 unfold Qc at h;rw [Wd y] at h;generalize cl[i]=c at h v;split at h
 . rename_i j o;cases j;rcases v.2 with ⟨_,u,_⟩ | ⟨_,_,u,_⟩
   . simp only [AOp.sem] at u;split at u
     . split at u
       . obtain ⟨_,_,_,z,_⟩:=u;exact z
       . exact absurd u.1 (by decide)
       exact u.elim
     exact u.elim
   exact u
 cases h
theorem Fixed.apart (f:Fixed P N ops cl pre un st Rs st') {i:Nat} (x0:i<k) (hk:k<cl.length) (x1:k<Rs.length) (hp:i∉pre.getD k []):Apart (Qc cl i k) cl[i] cl[k] Rs[i] Rs[k]:=by
 obtain ⟨l1,l2⟩:=f.lens;rcases Yk f.ok x0 (by omega) hk with h | ⟨h1,y⟩
 . exact absurd h hp
 obtain ⟨ni,K,_⟩:=ZA f.run i (by omega) (by omega);obtain ⟨nk,ok,_⟩:=ZA f.run k hk x1;simp only [Jr,qd] at h1;obtain ⟨⟨a1,a2⟩,a3⟩:=h1;refine ⟨fun d O=>?_,fun d O=>?_,fun d O A=>?_,?_,?_,?_⟩
 . rw [<-K.1,O] at a1;simpa [QX] using a1
 . rw [<-ok.1,O] at a2;simpa [QX] using a2
 . rw [<-K.1,<-ok.1,O,A] at a3;simp at a3
 all_goals
  rcases y with y | y
  . have hw:=FT y (by omega) K
    first
     | (rw [hw];simp;done)
     | exact .inl y
  cases t1:cl[i].2.touch with
  | false=>obtain ⟨e,q⟩:=Zy t1 K;simp [e,q]
  | true =>
    cases t2:cl[k].2.touch with
    | false=>obtain ⟨e,q⟩:=Zy t2 ok;simp [e,q]
    | true =>
      obtain ⟨a,b,b1,b2,b3,b4,b5⟩:=Yi f.cm (y t1 t2);have e:(Rs.map EO)[i]?=some (EO Rs[i]):=by rw [qnn,Wd (by omega)];rfl
      have q:(Rs.map EO)[k]?=some (EO Rs[k]):=by rw [qnn,Wd (by omega)];rfl
      rw [e] at b1;rw [q] at b2;cases b1;cases b2
      first
       | exact .inr fun x X=>ZI b5 X
       | (intro x X
          first
           | exact ZI b3 X
           | exact ZI b4 X)
def Clo (pre:List (List Nat)) (ops:Array Oper) (X:Nat->Bool):Prop:=∀ k,k<ops.size->X k=true->∀ j∈pre.getD k [],X j=true
def frX (Rs:List Rec) (X:Nat->Bool) (st:St):Nat->AV:=qy (Rs.map Rec.F) X (get st.fr)
def hpX (Rs:List Rec) (X:Nat->Bool) (st:St):Hp:=qy (Rs.map Rec.H) X (hpf st.hp)
theorem ZF {R:Rec} (h:R.F.on d=true):R.dst=some d:=by simpa [Rec.F] using h
theorem Zk {R:Rec} (h:R.H.on d=true):d∈R.ws.map (·.1):=by simpa [Rec.H] using h
theorem Js {F F':Nat->AV} {x:Opd} (h:∀ d∈x.tmp,F' d=F d):evF F' x=evF F x:=by
 cases x with
 | t n=>exact h n (by simp [Opd.tmp])
 | k v=>rfl
theorem Yp {gd:Option (Nat×Bool)} {F F':Nat->AV} (h:∀ j b,gd=some (j,b)->F' j=F j):(Ir gd F->Ir gd F')/\(Hr gd F->Hr gd F'):=by
 cases gd with
 | none=>exact ⟨id,id⟩
 | some J=>obtain ⟨j,b⟩:=J;simp only [Ir,Hr];rw [h j b rfl];exact ⟨id,id⟩
theorem jN (h:Qc cl i k=true):∃ g v d K z m q D,cl[i]?=some (g,.lku d K z false m q)/\cl[k]?=some (v,.mpe D K z m q)/\i<k/\∀ j,i<=j->j<k->∃ c,cl[j]?=some c/\QX c.2.dst (m.tmp++q.tmp)=true:=by
 unfold Qc at h;split at h
 . rename_i g d K z m q v D t Z M Q f r;simp only [qd,qmE] at h;obtain ⟨⟨⟨⟨⟨y,s⟩,e⟩,E⟩,u⟩,b⟩:=h;have e:=qfq e;have E:=Eh E;have u:=Eh u;subst s e E u;refine ⟨g,v,d,K,z,m,q,D,f,r,y,fun j p o=>?_⟩;have:=LL.1 b j (qmO.2 o);simp only [qm2,qmE] at this;rcases this with h | h
   . omega
   split at h
   . rename_i c l;exact ⟨c,l,h⟩
   cases h
 cases h
theorem KX {k:KS} {K:Value} {e:Value×Nat×AV} (s:eqK k K e.1=some true):∀ {E:List (Value×Nat×AV)} {n:Nat},zO k K E n=some none->zO k K (E++[e]) n=some (some (n+E.length))
 | [],n,h=>by simp [zO,s]
 | a::E,n,h=>by
   simp only [zO,qmP] at h ⊢;split at h
   . cases h
   . rename_i u;rw [KX s h];simp;omega
   cases h
theorem Lc {κ β:Type} {l:List (Wr κ β)} {X:Nat->Bool} {F:κ->β} (u:j<l.length):qy l (fun k=>X k&&decide (k<j+1)) F=if X j then l[j].app (qy l (fun k=>X k&&decide (k<j)) F) else qy l (fun k=>X k&&decide (k<j)) F:=by
 split
 . rename_i h;refine zR u (by simp) (by simp [h]) (fun k v=>?_) (fun k v t x=>?_)
   . by_cases e:k<j
     . simp [e,show k<j+1 by omega]
     simp [e,show ¬ k<j+1 by omega]
   simp at x;omega
 rename_i h;congr 1;funext k;by_cases e:k=j
 . subst e;simp [h]
 by_cases E:k<j
 . simp [E,show k<j+1 by omega]
 simp [E,show ¬ k<j+1 by omega]
theorem Fixed.lku (f:Fixed P N ops cl pre un st Rs st') {X:Nat->Bool} (hX:Clo pre ops X) {i:Nat} (hi:i<cl.length) (u8:i<Rs.length) (hx:X i=false) (hr:∀ j∈pre.getD i [],X j=true) {k0:Nat} (v1:k0<Rs.length) (u3:Qc cl i k0=true)
 (ZL:∀ d∈zf cl[i],frX Rs X st d=qy (Rs.map Rec.F) (fun k=>decide (k<i)) (get st.fr) d)
 (ap:∀ k (hk:k<Rs.length) (v0:k<cl.length),X k≠decide (k<i)->Apart (Qc cl k i) cl[k] cl[i] Rs[k] Rs[i]\/Apart (Qc cl i k) cl[i] cl[k] Rs[i] Rs[k]) {u6:Nat}
 (h2:cl[i].2.sem P (evF (qy (Rs.map Rec.F) (fun k=>decide (k<i)) (get st.fr))) (qy (Rs.map Rec.H) (fun k=>decide (k<i)) (hpf st.hp)) u6 Rs[i].r Rs[i].ws)
 (h3:Rs[i].foot=cl[i].2.foot (qy (Rs.map Rec.F) (fun k=>decide (k<i)) (get st.fr)) (qy (Rs.map Rec.H) (fun k=>decide (k<i)) (hpf st.hp))) (z4:Nat) :
 cl[i].2.sem P (evF (frX Rs X st)) (hpX Rs X st) z4 Rs[i].r Rs[i].ws:=by
 obtain ⟨l1,l2⟩:=f.lens;obtain ⟨gi,gk,d,ks,z,m,q,d',c1,_,_,_⟩:=jN u3;have y3:cl[i]=(gi,.lku d ks z false m q):=by rw [Wd hi] at c1;exact qnq c1
 rw [y3] at h2 h3 ⊢;have look:∀ t∈m.tmp++q.tmp,t∈zf cl[i]:=fun t ht=>by rw [y3];simp only [zf,AOp.opds,xm,qmH,qoW,qm3] at ht ⊢;exact .inl ht
 have em:evF (frX Rs X st) m=evF (qy (Rs.map Rec.F) (fun k=>decide (k<i)) (get st.fr)) m:=Js fun t ht=>ZL t (look t (by simp [ht]));have z8:evF (frX Rs X st) q=evF (qy (Rs.map Rec.F) (fun k=>decide (k<i)) (get st.fr)) q:=Js fun t ht=>ZL t (look t (by simp [ht]));simp only [AOp.sem] at h2 ⊢;rw [em,z8];generalize y5:evF (qy (Rs.map Rec.F) (fun k=>decide (k<i)) (get st.fr)) m=um at h2 ⊢;generalize u0:evF (qy (Rs.map Rec.F) (fun k=>decide (k<i)) (get st.fr)) q=uq at h2 ⊢;split at h2
 . rename_i x;split at h2
   . rename_i es z6 u1;obtain ⟨kv,x6,x0,z1,x8⟩:=h2;have x2:x∈Rs[i].foot:=by rw [h3];simp [AOp.foot,AOp.looks,AOp.heapy,AOp.more,AOp.opds,y5,AV.ids,AV.ids1]
     have z3:∀ j,i<=j->j<=Rs.length->(∃ y,qy (Rs.map Rec.H) (fun k=>X k&&decide (k<j)) (hpf st.hp) x=some (.mp es y)) \/
      (zO ks kv es 0=some none/\∃ b y,qy (Rs.map Rec.H) (fun k=>X k&&decide (k<j)) (hpf st.hp) x=some (.mp (es++[(kv,b,z)]) y)):=by
      intro j y1;obtain ⟨t,rfl⟩:∃ t,j=i+t:=⟨j - i,by omega⟩;clear y1
      induction t with
      | zero =>
        intro _;refine .inl ⟨z6,?_⟩;rw [<-u1];refine qk rfl fun k hk O=>?_;simp only [qmq] at hk;simp only [qmv] at O;by_cases y2:k<i
        . by_cases x7:X k=true
          . simp [x7,y2]
          rcases ap k hk (by omega) (by simp [y2,x7]) with a | a
          . exact absurd x2 (a.wr x (Zk O))
          rcases a.rw with a | a
          . obtain ⟨_,_,_,_,_,_,_,_,_,_,v2,_⟩:=jN a;omega
          exact absurd x2 (a x (Zk O))
        simp [y2]
      | succ t ih =>
        intro hj;have ih:=ih (by omega);have x3:i+t<Rs.length:=by omega
        generalize u9:i+t=j at ih x3;rw [show i+(t+1)=j+1 by omega,Lc (by simpa using x3)];by_cases x4:X j=true
        . rw [if_pos x4];by_cases O:x∈Rs[j].ws.map (·.1)
          . have y1:i<j:=by
             rcases qoK (show i<=j by omega) with e | e
             . subst e;rw [hx] at x4;cases x4
             exact e
            have y9:i∉pre.getD j []:=fun hp=>by have:=hX j (by omega) x4 i hp;rw [hx] at this;cases this
            have aj:=f.apart y1 (by omega) x3 y9;rcases aj.rw with y6 | y7
            . obtain ⟨u7,gj,d2,v3,z2,m2,q2,z7,b1,b2,_,b4⟩:=jN y6;rw [c1] at b1;cases b1;have z5:cl[j]'(by omega)=(gj,.mpe z7 ks z m q):=by rw [Wd (by omega)] at b2;exact qnq b2
              obtain ⟨nj,oj,_⟩:=ZA f.run j (by omega) x3;rw [z5] at oj
              have x5:∀ t2∈m.tmp++q.tmp,qy (Rs.map Rec.F) (fun k=>decide (k<j)) (get st.fr) t2=qy (Rs.map Rec.F) (fun k=>decide (k<i)) (get st.fr) t2:=fun t2 z0=>qk rfl fun k hk x1=>by
               simp only [qmq] at hk;simp only [qmv] at x1;by_cases k1:k<i
               . simp [k1,show k<j by omega]
               by_cases k2:k<j
               . obtain ⟨c,hc,K⟩:=b4 k (by omega) k2;obtain ⟨_,ok,_⟩:=ZA f.run k (by omega) hk;have u2:cl[k]'(by omega)=c:=by rw [Wd (by omega)] at hc;exact qnq hc
                 rw [<-u2,<-ok.1,ZF x1] at K;simp [QX] at K z0;rcases z0 with h | h
                 . exact absurd h K.1
                 exact absurd h K.2
               simp [k1,k2]
              have y4:evF (qy (Rs.map Rec.F) (fun k=>decide (k<j)) (get st.fr)) m = .mp x:=by rw [<-y5];exact Js fun t2 h=>x5 t2 (by simp [h])
              have z9:evF (qy (Rs.map Rec.F) (fun k=>decide (k<j)) (get st.fr)) q=uq:=by rw [<-u0];exact Js fun t2 h=>x5 t2 (by simp [h])
              rcases oj.2 with ⟨_,s2,s3⟩ | ⟨_,_,s2,_⟩
              . have y0:x∈Rs[j].foot:=by rw [s3];simp [AOp.foot,AOp.looks,AOp.heapy,AOp.more,AOp.opds,y4,AV.ids,AV.ids1]
                have hT:qy (Rs.map Rec.H) (fun k=>decide (k<j)) (hpf st.hp) x=qy (Rs.map Rec.H) (fun k=>X k&&decide (k<j)) (hpf st.hp) x:=qk rfl fun k hk x1=>by
                 simp only [qmq] at hk;simp only [qmv] at x1;by_cases k2:k<j
                 . cases x7:X k with
                   | true=>simp
                   | false =>
                     have u4:k∉pre.getD j []:=fun hp=>by have:=hX j (by omega) x4 k hp;rw [x7] at this;cases this
                     exact absurd y0 ((f.apart k2 (by omega) x3 u4).wr x (Zk x1))
                 simp [k2]
                simp only [AOp.sem,y4,z9] at s2;rw [hT] at s2;rcases ih with ⟨y,e⟩ | ⟨A,b,y,e⟩
                . rw [e] at s2;obtain ⟨u5,g1,g2,g3⟩:=s2;rw [x6] at g1;cases g1;rcases g3 with ⟨_,_,_,_,_,g⟩ | ⟨g4,_,g⟩
                  . rw [g] at O;simp at O
                  refine .inr ⟨g4,y,y+1,?_⟩;simp [Wr.app,Rec.H,g,Hp.write,Hp.set_same]
                rw [e] at s2;obtain ⟨u5,g1,g2,g3⟩:=s2;rw [x6] at g1;cases g1;rcases g3 with ⟨_,_,_,_,_,g⟩ | ⟨g4,_,g⟩
                . rw [g] at O;simp at O
                rw [KX (e:=(kv,b,z)) x0 A] at g4;cases g4
              rw [s2] at O;simp at O
            exact absurd x2 (y7 x O)
          have y8:((Rs.map Rec.H)[j]'(by simpa using x3)).on x=false:=by simp only [qmv,Rec.H];simpa using O
          have:(((Rs.map Rec.H)[j]'(by simpa using x3)).app (qy (Rs.map Rec.H) (fun k=>X k&&decide (k<j)) (hpf st.hp))) x=qy (Rs.map Rec.H) (fun k=>X k&&decide (k<j)) (hpf st.hp) x:=by simp only [Wr.app,y8];rfl
          rw [this];exact ih
        rw [if_neg x4];exact ih
     have x9:hpX Rs X st x=qy (Rs.map Rec.H) (fun k=>X k&&decide (k<Rs.length)) (hpf st.hp) x:=qk rfl fun k hk _=>by simp only [qmq] at hk;simp [hk]
     rcases z3 Rs.length (by omega) (Qs _) with ⟨y,e⟩ | ⟨A,b,y,e⟩
     . rw [<-x9] at e;simp only [e];exact ⟨kv,x6,x0,z1,x8⟩
     rw [<-x9] at e;simp only [e];rcases x8 with ⟨_,_,g,_⟩ | ⟨_,g⟩
     . rw [A] at g;cases g
     exact ⟨kv,x6,x0,z1,.inl ⟨es.length,(kv,b,z),by rw [KX (e:=(kv,b,z)) x0 A];simp,by simp,g⟩⟩
   . exact absurd h2.1 (by decide)
   exact h2.elim
 exact h2.elim
theorem Fixed.serves (f:Fixed P N ops cl pre un st Rs st') {X:Nat->Bool} (hX:Clo pre ops X) {i:Nat} (hi:i<cl.length) (x1:i<Rs.length) (hx:X i=false) (hr:∀ j∈pre.getD i [],X j=true) :
 ∃ new,hpX Rs X st new=none/\UV P cl[i].1 cl[i].2 Rs[i] (frX Rs X st) (hpX Rs X st) new:=by
 obtain ⟨l1,l2⟩:=f.lens;obtain ⟨new,ok,x4⟩:=ZA f.run i hi x1
 have ap:∀ k (K:k<Rs.length) (x3:k<cl.length),X k≠decide (k<i)->Apart (Qc cl k i) cl[k] cl[i] Rs[k] Rs[i]\/Apart (Qc cl i k) cl[i] cl[k] Rs[i] Rs[k]:=fun k K x3 A=>by
  rcases qnT k i with h | h | h
  . refine .inl (f.apart h hi x1 (fun hp=>A ?_));rw [hr k hp];simp [h]
  . subst h;rw [hx] at A;simp at A
  refine .inr (f.apart h x3 K (fun hp=>A ?_))
  have:X k=true:=by
   cases e:X k with
   | true=>rfl
   | false=>rw [e] at A;exact absurd (by symm;simp;omega) A
  have:=hX k (by omega) this i hp;rw [hx] at this;cases this
 have ZL:∀ d∈zf cl[i],frX Rs X st d=qy (Rs.map Rec.F) (fun k=>decide (k<i)) (get st.fr) d:=fun d hd=>by
  refine qk rfl fun k K y=>?_;simp only [qmq] at K;simp only [qmv] at y;by_cases e:X k=decide (k<i)
  . exact e
  rcases ap k K (by omega) e with a | a
  . exact absurd hd (a.look d (ZF y))
  exact absurd hd (a.look' d (ZF y))
 have Jz:∀ x,(x∈Rs[i].ws.map (·.1)\/(∀ k,k<Rs.length->Qc cl i k=false)/\x∈Rs[i].foot)->hpX Rs X st x=qy (Rs.map Rec.H) (fun k=>decide (k<i)) (hpf st.hp) x:=fun x x5=>by
  refine qk rfl fun k K y=>?_;simp only [qmq] at K;simp only [qmv] at y;by_cases e:X k=decide (k<i)
  . exact e
  have y:=Zk y;rcases ap k K (by omega) e with a | a
  . rcases x5 with h | ⟨h0,h⟩
    . exact absurd h (a.ww x y)
    exact absurd h (a.wr x y)
  rcases x5 with h | ⟨h0,h⟩
  . exact absurd y (a.ww x h)
  rcases a.rw with a | a
  . rw [h0 k K] at a;cases a
  exact absurd h (a x y)
 obtain ⟨b1,b2⟩:=ZV f.run
 have x0:hpX Rs X st st'.hp.length=none:=by
  have:hpX Rs X st st'.hp.length=qy (Rs.map Rec.H) (fun _=>false) (hpf st.hp) st'.hp.length:=qk rfl fun k K y=>by simp only [qmq] at K;simp only [qmv] at y;have:=Zk y;obtain ⟨p,hp,e⟩:=gm.1 this;have:=b2 Rs[k] (qmr _) p hp;omega
  rw [this,qP (fun _=>rfl)];simp [hpf,b1]
 have hg:=Yp (gd:=cl[i].1) (F:=qy (Rs.map Rec.F) (fun k=>decide (k<i)) (get st.fr)) (F':=frX Rs X st) (fun j b e=>ZL j (by simp [zf,e]));refine ⟨if new∈Rs[i].ws.map (·.1) then new else st'.hp.length,?_,ok.1,?_⟩
 . split
   . rename_i h;rw [Jz new (.inl h)];exact x4
   exact x0
 rcases ok.2 with ⟨h1,h2,h3⟩ | ⟨h1,h2,h3,h4⟩
 . refine .inl ⟨hg.1 h1,?_,?_⟩
   . by_cases O:∃ k,k<Rs.length/\Qc cl i k=true
     . obtain ⟨k,K,O⟩:=O;exact f.lku hX hi x1 hx hr K O ZL ap h2 h3 _
     refine ZX h2 (fun x hx=>Js fun d hd=>ZL d ?_) (fun id x2=>Jz id (.inr ⟨fun k K=>by
      cases e:Qc cl i k with
      | false=>rfl
      | true=>exact absurd ⟨k,K,e⟩ O,by rw [h3];exact x2⟩)) (fun h=>by rw [if_pos h])
     simp only [zf,xm,qob];exact .inl ⟨x,hx,hd⟩
   rw [h3];have sF:∀ x∈cl[i].2.opds,evF (frX Rs X st) x=evF (qy (Rs.map Rec.F) (fun k=>decide (k<i)) (get st.fr)) x:=fun x hx=>Js fun d hd=>ZL d (by simp only [zf,xm,qob];exact .inl ⟨x,hx,hd⟩);by_cases O:∃ k,k<Rs.length/\Qc cl i k=true
   . obtain ⟨k,K,O⟩:=O;obtain ⟨gi,gk,d,ks,z,m,q,d',c1,_,_,_⟩:=jN O;have x6:cl[i]=(gi,.lku d ks z false m q):=by rw [Wd hi] at c1;exact qnq c1
     rw [x6] at sF ⊢;simp only [AOp.foot,AOp.looks,AOp.heapy,AOp.more,AOp.opds,qpq,qmH,qoW];rw [sF m (by simp [AOp.opds]),sF q (by simp [AOp.opds])]
   exact (Ho h2 sF fun id x2=>Jz id (.inr ⟨fun k K=>by
    cases e:Qc cl i k with
    | false=>rfl
    | true=>exact absurd ⟨k,K,e⟩ O,by rw [h3];exact x2⟩)).symm
 exact .inr ⟨hg.2 h1,h2,h3,h4⟩
theorem Fixed.next (f:Fixed P N ops cl pre un st Rs st') {X Y:Nat->Bool} (hX:Clo pre ops X) {i:Nat} (hi:i<cl.length) (A:i<Rs.length) (hx:X i=false) (hy:Y i=true) (hj:∀ j,j≠i->Y j=X j) :
 frX Rs Y st=Rs[i].F.app (frX Rs X st)/\hpX Rs Y st=Hp.write (hpX Rs X st) Rs[i].ws:=by
 obtain ⟨l1,l2⟩:=f.lens;have ap:∀ k (O:k<Rs.length) (x0:k<cl.length),i<k->X k=true->Apart (Qc cl i k) cl[i] cl[k] Rs[i] Rs[k]:=fun k O x0 y e=>f.apart y x0 O (fun hp=>by have:=hX k (by omega) e i hp;rw [hx] at this;cases this);constructor
 . have:=zR (l:=Rs.map Rec.F) (F:=get st.fr) (by simpa using A) hx hy hj (fun k O y e K q=>by simp only [qmq] at O;simp only [qmv] at q ⊢;have a:=ap k O (by omega) y e;have:=a.dst K (ZF q);simpa [Rec.F] using this);simpa [frX] using this
 have:=zR (l:=Rs.map Rec.H) (F:=hpf st.hp) (by simpa using A) hx hy hj (fun k O y e K q=>by simp only [qmq] at O;simp only [qmv] at q ⊢;have a:=ap k O (by omega) y e;have:=a.ww K (Zk q);simpa [Rec.H] using this);rw [qmv,Jk] at this;exact this
theorem FrOK.app {w g F} {a:Act} (h:FrOK w g F a) {R:Rec} {v:Value} (O:∀ k,R.dst=some k->k<a.tmps.size) (X:Rep w g false R.r v):FrOK w g (R.F.app F) (a.put R.dst v):=by
 obtain ⟨d,r,K,q⟩:=R;cases d with
 | none =>
   have:(Rec.F ⟨none,r,K,q⟩).app F=F:=by funext t;simp [Wr.app,Rec.F]
   rw [this];exact h
 | some d =>
   intro t;have y:=O d rfl;simp only [Wr.app,Rec.F,Act.put];by_cases e:d=t
   . subst e;simp [y];exact X
   have:=h t;simp only [qmB] at this ⊢;rw [qmK e];simpa [e] using this
theorem Zx {gd:Option (Nat×Bool)} {F:Nat->AV} {w g} {a:Act} (o:FrOK w g F a):(Ir gd F->Qv a gd=true)/\(Hr gd F->Qv a gd=false):=by
 cases gd with
 | none=>exact ⟨fun _=>rfl,fun h=>h.elim⟩
 | some J =>
   obtain ⟨j,b⟩:=J;have k:∀ x,F j = .v x->a.tmps.getD j undef=x:=fun x q=>by have:=o j;rw [q] at this;exact zZ this
   constructor
   . intro h;have v:=k _ h
     have l:j<a.tmps.size:=by
      rcases qmV j a.tmps.size with u | u
      . exact u
      simp [undef,u] at v
     have z:a.tmps[j]?=some (.bool b):=by simp [l] at v;simp [l,v]
     simp [Qv,z]
   rintro (⟨c,h,e⟩ | ⟨c,h⟩)
   . have v:=k _ h
     have l:j<a.tmps.size:=by
      rcases qmV j a.tmps.size with u | u
      . exact u
      simp [undef,u] at v
     have z:a.tmps[j]?=some (.bool c):=by simp [l] at v;simp [l,v]
     simp [Qv,z,e]
   have v:=k _ h;cases ht:a.tmps[j]? with
   | none=>simp [Qv,ht]
   | some y =>
     have:y = .tuple c:=by simpa [ht] using v
     subst this;simp [Qv,ht]
theorem Fixed.step (f:Fixed P N ops cl pre un st Rs st') {X Y:Nat->Bool} (hX:Clo pre ops X) {i:Nat} (hi:i<ops.size) (hx:X i=false) (hr:∀ j∈pre.getD i [],X j=true) (hy:Y i=true) (hj:∀ j,j≠i->Y j=X j)
 {a:Act} {w:World} {g:G} (hN:a.tmps.size=N) (hF:FrOK w g (frX Rs X st) a) (x1:HeapOK (hpX Rs X st) g w) {K:Act->World->Prop} {Q:Exit->Act->World->Prop}
 (hK:∀ a' O A,a'.tmps.size=N->a'.defers=a.defers->FrOK O A (frX Rs Y st) a'->HeapOK (hpX Rs Y st) A O->Upd (hpX Rs X st) g w (hpX Rs Y st) A O->K a' O) :
 wpOpIn (W ro) n P ops Q i K a w:=by
 obtain ⟨l1,l2⟩:=f.lens;obtain ⟨new,x0,q⟩:=f.serves hX (i:=i) (by omega) (by omega) hx hr;obtain ⟨e1,e2⟩:=f.next hX (i:=i) (by omega) (by omega) hx hy hj
 obtain ⟨c1,c2⟩:=(zr f.comp).2 i (by simpa using hi) (by omega);simp only [qox] at c1 c2;obtain ⟨d1,d2⟩:=Gr c1;unfold wpOpIn;simp only [qmW hi];rw [Qr c2];have y:Rs[i].dst=ops[i].dst:=q.1.trans d1;rcases q.2 with ⟨h1,h2,h3⟩ | ⟨h1,h2,h3,h4⟩
 . rw [(Zx hF).1 h1];simp only [qmA];obtain ⟨p1,p2,p3⟩:=CJ (ro:=ro) (n:=n) c1 hF x1 x0 h2;refine p1 K Q fun v O hp=>?_;obtain ⟨A,q1,q2,q3⟩:=hp;rw [<-e2] at q2 q3;rw [<-y];refine hK _ O A (by rw [VX];exact hN) (zq _ _ _) ?_ q2 q3;rw [e1];exact FrOK.app (hF.mono q3.tr) (fun k e=>by rw [hN];exact d2 k (by rw [<-y];exact e)) q1
 rw [(Zx hF).2 h1];simp only [qmM,qnc];refine ⟨fun _ _=>trivial,?_⟩;rw [<-y];have e3:hpX Rs Y st=hpX Rs X st:=by rw [e2,h3];rfl
 refine hK _ w g (by rw [VX];exact hN) (zq _ _ _) ?_ (by rw [e3];exact x1) (by rw [e3];exact .refl _ _ _);rw [e1];exact FrOK.app hF (fun k e=>by rw [hN];exact d2 k (by rw [<-y];exact e)) (by rw [h2];exact .v _ _)
theorem WR {l:Array Bool} (h:i∈Region.ready .any ops l):∃ (u:i<ops.size),l.getD i true=false/\∀ e∈ops[i].after,Region.binds .any e=true->l.getD e.on false=true:=by simp only [Region.ready,qo9,qmO,qd,qmZ] at h;obtain ⟨u,j,v⟩:=h;refine ⟨u,j,fun e z b=>?_⟩;simp only [qmW u,qm6,qoD] at v;have:=(Array.all_eq_true_iff_forall_mem.1 v) e z;simpa [b] using this
theorem Nn {l:Array Bool} (o:l.size=ops.size) (j:∀ k (y:k<ops.size),∀ e∈ops[k].after,Region.binds .any e=true->e.on<k) (h:Region.ready .any ops l=[]):∀ i,i<ops.size->l.getD i true=true:=fun i=>by
 induction i using Nat.strongRecOn with
 | _ i z =>
   intro u;cases hx:l.getD i true with
   | true=>rfl
   | false =>
     exfalso
     have:i∈Region.ready .any ops l:=by
      simp only [Region.ready,qo9,qmO,qd,qmZ];refine ⟨u,hx,?_⟩;simp only [qmW u,qm6,qoD];refine Array.all_eq_true_iff_forall_mem.2 fun e hm=>?_;cases hb:Region.binds .any e with
      | false=>rfl
      | true =>
        have v:=j i u e hm hb;have:=z e.on v (by omega);have t:e.on<l.size:=by omega
        simpa [t] using this
     rw [h] at this;simp at this
theorem WQ {l:Array Bool} (h:∀ i,i<ops.size->l.getD i true=true):Region.ready .any ops l=[]:=by simp only [Region.ready,qop,qmO,qd,qmZ];intro i v ⟨u,_⟩;rw [h i v] at u;cases u
def lst (l:Array Bool):Nat->Bool:=fun i=>l.getD i true
theorem Fixed.done (f:Fixed P N ops cl pre un st Rs st') {X:Nat->Bool} (h:∀ i,i<ops.size->X i=true):frX Rs X st=get st'.fr/\hpX Rs X st=hpf st'.hp:=by
 obtain ⟨O,K⟩:=f.lens;obtain ⟨e,q⟩:=EB f.run;rw [e,q];constructor
 . funext t;exact qk rfl fun k y _=>h k (by simp at y;omega)
 funext t;exact qk rfl fun k y _=>h k (by simp at y;omega)
theorem Fixed.all (f:Fixed P N ops cl pre un st Rs st') {w0:World} {g0:G} {Q:Exit->Act->World->Prop} {a0:Act}
 (hQ:∀ a w g,Sim N st' a w g->Upd (hpf st.hp) g0 w0 (hpf st'.hp) g w->a.defers=a0.defers->Q .normal a w) :
 ∀ (JM:Nat) (y:Array Bool) (a:Act) (w:World) (g:G),y.size=ops.size->Clo pre ops (lst y)->unl (lst y) ops.size<=JM->a.tmps.size=N->a.defers=a0.defers->FrOK w g (frX Rs (lst y) st) a->HeapOK (hpX Rs (lst y) st) g w ->
   Upd (hpf st.hp) g0 w0 (hpX Rs (lst y) st) g w->wpAnyIn (W ro) n P .any ops Q JM y a w:=by
 obtain ⟨l1,l2⟩:=f.lens
 have fin:∀ (y:Array Bool) (a:Act) (w:World) (g:G),(∀ i,i<ops.size->lst y i=true)->a.tmps.size=N->a.defers=a0.defers->FrOK w g (frX Rs (lst y) st) a->HeapOK (hpX Rs (lst y) st) g w ->
  Upd (hpf st.hp) g0 w0 (hpX Rs (lst y) st) g w->Q .normal a w:=fun y a w g h hN hD K q hu=>by
  obtain ⟨e1,e2⟩:=f.done h;rw [e1] at K;rw [e2] at q hu;exact hQ a w g ⟨hN,K,q⟩ hu hD
 have ed:=fun k (hk:k<ops.size)=>(ZO f.ok hk (by omega)).1;intro JM
 induction JM with
 | zero =>intro y a w g hl hX x7 hN hD K q hu;have h:=Kc (X:=lst y) (n:=ops.size) (by omega);exact ⟨WQ h,fin y a w g h hN hD K q hu⟩
 | succ JM ih =>
   intro y a w g hl hX x7 hN hD K q hu;refine ⟨fun h=>fin y a w g (Nn hl ed h) hN hD K q hu,fun i hi=>?_⟩;obtain ⟨O,hx,he⟩:=WR hi
   have x0:∀ j,j<ops.size->(y.getD j false=true)->lst y j=true:=fun j A h=>by
    have:j<y.size:=by omega
    simpa [lst,this] using h
   have hr:∀ j∈pre.getD i [],lst y j=true:=fun j A=>by
    obtain ⟨e,hm,hb,h⟩:=(ZO f.ok O (by omega)).2 j A;have y1:=ed i O e hm hb;have hL:=x0 e.on (by omega) (he e hm hb);rcases h with h | h
    . rw [<-h];exact hL
    exact hX e.on (by omega) hL j h
   have x8:i<y.size:=by omega
   have hy:lst (y.setIfInBounds i true) i=true:=by simp [lst,x8]
   have A:∀ j,j≠i->lst (y.setIfInBounds i true) j=lst y j:=fun j x9=>by simp only [lst,qmB];rw [qmK (qmG x9)]
   refine f.step hX O hx hr hy A hN K q fun a' w' g' x6 x4 x5 x3 y0=>?_;refine ih _ a' w' g' (by simpa using hl) (fun k hk x2 j x1=>?_) ?_ x6 (x4.trans hD) x5 x3 (hu.trans y0)
   . by_cases e:j=i
     . subst e;exact hy
     rw [A j e];by_cases e':k=i
     . subst e';exact hr j x1
     rw [A k e'] at x2;exact hX k hk x2 j x1
   have:=EP hx hy A ops.size O;omega
theorem Qd (n:Nat):∀ i,i<n->lst (Array.replicate n false) i=false:=fun i h=>by simp [lst,h]
theorem TU {id:Nat} {ops:Array Oper} {cl pre un} {st:St} {K:St->Prop} {a:Act} {w:World} {g:G} {Q:Exit->Act->World->Prop} (l:P.follows .mixedOrders=true)
 (q:QC P N ops ops.toList=some cl) (b:Xh ops cl pre un=true) (h:zu P (grp cl) st [] fun st T=>Qm T un=true/\K st) (s:Sim N st a w g) (p:qfu N st a w g K (Q .normal)) :
 (Code.region id ops true).wpIn (W ro) n P Q a w:=by
 obtain ⟨Rs,st',r,c,y⟩:=Zw (QQ h);simp only [qmF] at c;have f:Fixed P N ops cl pre un st Rs st':=⟨q,b,r,c⟩;obtain ⟨L,M⟩:=f.lens;refine qpH l ?_;obtain ⟨o,d⟩:=s.2.2.drew
 have E:frX Rs (lst (Array.replicate ops.size false)) st=get st.fr:=by
  have:frX Rs (lst (Array.replicate ops.size false)) st=qy (Rs.map Rec.F) (fun _=>false) (get st.fr):=by funext t;exact qk rfl fun k u _=>Qd _ k (by simp at u;omega)
  rw [this,qP (fun _=>rfl)]
 have e:hpX Rs (lst (Array.replicate ops.size false)) st=hpf st.hp:=by
  have:hpX Rs (lst (Array.replicate ops.size false)) st=qy (Rs.map Rec.H) (fun _=>false) (hpf st.hp):=by funext t;exact qk rfl fun k u _=>Qd _ k (by simp at u;omega)
  rw [this,qP (fun _=>rfl)]
 refine f.all (g0:=g) (w0:=w) (a0:=a) (fun A i g' j z D=>p st' A i g' y j z D) ops.size _ a w.drew g (by simp) (fun k u v=>?_) ?_ s.1 rfl ?_ ?_ ?_
 . rw [Qd _ k u] at v;cases v
 . have:∀ m,unl (lst (Array.replicate ops.size false)) m<=m:=fun m=>by
    induction m with
    | zero=>exact Qs _
    | succ m x=>simp only [unl];split <;> omega
   exact this _
 . rw [E];exact s.2.1.mono d.tr
 . rw [e];exact o
 rw [e];exact d
end
def NI (P:Program) (N:Nat):Code->AC->Prop
 | .skip,.skip=>True
 | .region _ ops d,.rgn s _=>d=false/\∃ C,QC P N ops ops.toList=some C/\s=grp C
 | .region _ ops d,.drw s n _=>d=true/\P.follows .mixedOrders=true/\∃ C pre,QC P N ops ops.toList=some C/\Xh ops C pre n=true/\s=grp C
 | .seq a b,.seq x y=>NI P N a x/\NI P N b y
 | .cond c a b,.cond d x y=>opd c=some d/\NI P N a x/\NI P N b y
 | .block id a,.block i x=>id=i/\NI P N a x
 | .loop a,.loop x=>NI P N a x
 | .exit id,.exit i=>id=i
 | .ret,.ret=>True
 | .label l,.label L=>l=L
 | .scope a,.scope x=>NI P N a x
 | .rangeFunc g u a b,.rf g' q x y _=>opd g=some g'/\q=u.toList/\(∀ p∈q,p<N)/\NI P N a x/\NI P N b y
 | _,.dead=>True
 | _,_=>False
def comp (P:Program) (N:Nat):Code->AC
 | .skip => .skip
 | .region _ ops d=>match QC P N ops ops.toList with
   | some C=>bif d then (bif Xh ops C (Ly ops) (qjp (Ly ops) C)&&P.follows .mixedOrders then .drw (grp C) (qjp (Ly ops) C) [] else .dead) else .rgn (grp C) []
   | none => .dead
 | .seq a b => .seq (comp P N a) (comp P N b)
 | .cond c a b=>match opd c with
   | some d => .cond d (comp P N a) (comp P N b)
   | none => .dead
 | .block id a => .block id (comp P N a)
 | .loop a => .loop (comp P N a)
 | .exit id => .exit id
 | .ret => .ret
 | .label l => .label l
 | .scope a => .scope (comp P N a)
 | .rangeFunc g s a b=>match opd g with
   | some u=>bif s.toList.all (fun p=>decide (p<N)) then .rf u s.toList (comp P N a) (comp P N b) [] else .dead
   | none => .dead
 | _ => .dead
theorem zK {P:Program} {N:Nat}:∀ (c:Code),NI P N c (comp P N c)
 | .skip=>trivial
 | .region id ops d=>by
   simp only [comp];split
   . rename_i C h;cases d with
     | false=>exact ⟨rfl,C,h,rfl⟩
     | true =>
       simp only [qpq];cases hk:(Xh ops C (Ly ops) (qjp (Ly ops) C)&&P.follows .mixedOrders) with
       | false=>exact trivial
       | true =>simp only [qd] at hk;exact ⟨rfl,hk.2,C,Ly ops,h,hk.1,rfl⟩
   exact trivial
 | .seq a b=>⟨zK a,zK b⟩
 | .cond c a b=>by
   simp only [comp];split
   . rename_i u;exact ⟨u,zK a,zK b⟩
   exact trivial
 | .block id a=>⟨rfl,zK a⟩
 | .loop a=>zK a
 | .exit id=>rfl
 | .ret=>trivial
 | .label l=>rfl
 | .rangeFunc g s a b=>by
   simp only [comp];split
   . rename_i j u;cases hk:(s.toList.all (fun p=>decide (p<N))) with
     | false=>exact trivial
     | true =>exact ⟨u,rfl,fun p v=>by simpa using LL.1 hk p v,zK a,zK b⟩
   exact trivial
 | .scope a=>zK (P:=P) (N:=N) a
 | .goto _=>trivial
 | .refuse _=>trivial
def qh8 (n:Nat):List Nat->List Nat
 | []=>[n]
 | m::l=>bif n<m then n::m::l else bif n==m then m::l else m::qh8 n l
def nC:List Nat->List Nat->List Nat
 | [],l=>l
 | n::k,l=>qh8 n (nC k l)
def qlw (n:Option Nat) (l:List Nat):List Nat:=match n with
 | some n=>l.filter (· != n)
 | none=>l
def uY:List AOp->List Nat->List Nat
 | [],l=>l
 | o::O,l=>nC (o.opds.flatMap Opd.tmp) (qlw o.dst (uY O l))
def Sj:List Grp->List Nat->List Nat
 | [],l=>l
 | ⟨none,o⟩::g,l=>uY o (Sj g l)
 | ⟨some (j,_),o⟩::g,l=>qh8 j (uY o (Sj g l))
def qkH (id:Nat):List (Nat×List Nat)->List Nat
 | []=>[]
 | (i,l)::r=>bif i==id then l else qkH id r
def ann (r:List Nat):AC->List (Nat×List Nat)->List Nat->AC×List Nat
 | .skip,_,l=>(.skip,l)
 | .rgn s _,_,l=>(.rgn s l,Sj s l)
 | .drw s u _,_,l=>(.drw s u l,Sj s l)
 | .seq x y,e,l=>(.seq (ann r x e (ann r y e l).2).1 (ann r y e l).1,(ann r x e (ann r y e l).2).2)
 | .cond c x y,e,l=>(.cond c (ann r x e l).1 (ann r y e l).1,nC c.tmp (nC (ann r x e l).2 (ann r y e l).2))
 | .block id x,e,l=>(.block id (ann r x ((id,l)::e) l).1,(ann r x ((id,l)::e) l).2)
 | .loop x,e,l=>(.loop (ann r x e (ann r x e []).2).1,(ann r x e []).2)
 | .exit id,e,_=>(.exit id,qkH id e)
 | .ret,_,_=>(.ret,r)
 | .label i,_,l=>(.label i,l)
 | .scope x,e,l=>(.scope (ann r x e l).1,(ann r x e l).2)
 | .rf g p x y _,e,l=>(.rf g p (ann r x e (ann r y e []).2).1 (ann r y e []).1 l,nC g.tmp (nC ((ann r x e (ann r y e []).2).2.filter fun t => !p.contains t) (nC r (nC (e.flatMap (·.2)) l))))
 | .dead,_,_=>(.dead,[])
theorem Qu {P:Program} {N:Nat} {rt:List Nat}:∀ {ac:AC} {c:Code} {ex l},NI P N c ac->NI P N c (ann rt ac ex l).1
 | .skip,c,ex,l,h=>by cases c <;> exact h
 | .rgn s k,c,ex,l,h=>by cases c <;> exact h
 | .drw s n k,c,ex,l,h=>by cases c <;> exact h
 | .seq x y,c,ex,l,h=>by cases c <;> first | exact ⟨Qu h.1,Qu h.2⟩ | exact h
 | .cond d x y,c,ex,l,h=>by cases c <;> first | exact ⟨h.1,Qu h.2.1,Qu h.2.2⟩ | exact h
 | .block id x,c,ex,l,h=>by cases c <;> first | exact ⟨h.1,Qu h.2⟩ | exact h
 | .loop x,c,ex,l,h=>by cases c <;> first | exact Qu (ac:=x) h | exact h
 | .exit id,c,ex,l,h=>by cases c <;> exact h
 | .ret,c,ex,l,h=>by cases c <;> exact h
 | .label i,c,ex,l,h=>by cases c <;> exact h
 | .scope x,c,ex,l,h=>by cases c <;> first | exact Qu (ac:=x) h | exact h
 | .rf g p x y k,c,ex,l,h=>by
   cases c <;> first | exact h.elim | skip
   obtain ⟨u,v,j,z,o⟩:=h;exact ⟨u,v,j,Qu z,Qu o⟩
 | .dead,c,ex,l,h=>by cases c <;> exact h
section
variable {F:Fence} {n:Nat} {P:Program} {Q:Exit->Act->World->Prop} {a:Act} {w:World}
theorem Zn {b:Frame} {k:List Item} {C:List Frame} {c:Code}:step P (lone (b.atR a (.code (.scope c)::k)) C w) = .next (lone (b.atR a (.code c :: .inScope c::k)) C w) :=
 step_lone_go (by simp [stepG,stepG.exec,Frame.atR])
theorem EM {b:Frame} {k:List Item} {C:List Frame} {c:Code}:step P (lone (b.atR a (.inScope c::k)) C w) = .next (lone (b.atR a k) C w) :=
 step_lone_go (by simp [stepG,stepG.exec,Frame.atR])
theorem jd {c:Code} (h:c.wpIn F n P (Exit.noGoto Q) a w):(Code.scope c).wpIn F n P Q a w:=by
 intro b k C g j y;have u:(lone (b.atR a (.code (.scope c)::k)) C w).fenced P F:=fenced_calm j y rfl;obtain ⟨e,A,v,q,r⟩:=h b (.inScope c::k) C g j y;cases e with
 | normal=>exact ⟨.normal,A,v,q,.head u Zn (StepsIn.trans r (.one (fenced_calm j y rfl) EM))⟩
 | exit id =>
   have x:exitTo id (.inScope c::k)=exitTo id k:=by simp [exitTo]
   exact ⟨.exit id,A,v,q,fun K z => .head u Zn (r.1 K (by rw [x];exact z)),
    fun o z=>let ⟨f,s,m⟩:=r.2 o (by rw [x];exact z);⟨f,s,.head u Zn m⟩⟩
 | goto l=>exact q.elim
 | ret=>exact ⟨_,A,v,q,.of_steps (.one u Zn) r⟩
 | panic t=>exact ⟨_,A,v,q,.of_steps (.one u Zn) r⟩
 | outgrown=>exact ⟨_,A,v,q,.of_steps (.one u Zn) r⟩
end
theorem HeapOK.allocX {X g w} (h:HeapOK X g w) (O:Obj):HeapOK X g (w.alloc O)/\Upd X g w X g (w.alloc O):=by have tr:Trans w g (w.alloc O) g:=⟨fun _ _ x=>x,Wn h.ex O,fun _ _ x=>x,fun b A ty fz e=>⟨A,(qne w O b (qms.1 e).1).trans e,rfl⟩,rfl,rfl,rfl,by simp,Qs _⟩;refine ⟨h.change (fun _=>False) tr (fun _ _=>rfl) (fun _ _=>rfl) (fun i o c d hi ho hl y=>qne _ _ _ (h.lt ho hl y)) (fun i o c d hi ho hl y q hq=>hq) (fun _ h=>h.elim) (fun _ _ _ _ _ _ _ h=>h.elim) (fun b q K=>?_),tr,fun c hc => .inl hc,fun b q K => .inl K,fun b e _=>qne _ _ _ e⟩;obtain ⟨v,hv⟩:=h.ex b q K;exact ⟨v,(tr.cell b q K).trans hv⟩
theorem HeapOK.mark {A g w} (h:HeapOK A g w) {id:Nat} (hn:A id=none) (L:Loop):HeapOK (Hp.set A id .gone) (g.home id (.base L)) w/\Upd A g w (Hp.set A id .gone) (g.home id (.base L)) w:=by
 have tr:Trans w g w (g.home id (.base L)):=⟨fun _ _ x=>x,fun _ _ _=>rfl,
  fun i l' y=>by
   have:i≠id:=fun e=>by subst e;rw [h.dom i hn] at y;cases y
   simp [G.home,this,y],
  fun b x0 ty fz hb=>⟨x0,hb,rfl⟩,rfl,rfl,rfl,Qs _,Qs _⟩
 refine ⟨h.change (fun i=>i=id) tr (fun i y=>Hp.set_other _ _ y) (fun i y=>by simp [G.home,y]) (fun _ _ _ _ _ _ _ _=>rfl) (fun i o c d y O K x3 q hq=>hq) ?_ ?_ h.ex,tr,?_,fun b q hs => .inl hs,fun b hb _=>rfl⟩
 . rintro i rfl;exact ⟨.gone,.base L,Hp.set_same _ _ _,by simp [G.home],trivial⟩
 . rintro i i' o o' c d d' rfl O x2 K x1 X x4;rw [Hp.set_same] at O;cases O;cases K
 rintro c ⟨i,o,d,O,K,X⟩;by_cases e:i=id
 . subst e;rw [Hp.set_same] at O;cases O;cases K
 rw [Hp.set_other _ _ e] at O;simp [G.home,e] at X;exact .inl ⟨i,o,d,O,K,X⟩
abbrev mark (D:Nat):Deferred:={ target := .collected D,args:=#[] }
theorem CN {z m y p g w} (h:HeapOK p g w) (u:Upd z m y p g w) {D:Nat} (f:w.heap[D]?=some (.deferred (some []))) (a:¬ UU p g D) (s:y.heap.size<=D) :
 HeapOK p g (w.putObj D (.deferred none))/\Upd z m y p g (w.putObj D (.deferred none))/\Trans w g (w.putObj D (.deferred none)) g:=by
 have t:Trans w g (w.putObj D (.deferred none)) g:=⟨fun _ _ x=>x,fun b q _=>Kr f rfl rfl _,fun _ _ x=>x,fun b A t1 f1 j=>by
  by_cases e:b=D
  . subst e;rw [f] at j;cases j
  exact ⟨A,(qnf e).trans j,rfl⟩,rfl,rfl,rfl,by simp,Qs _⟩
 refine ⟨h.change (fun _=>False) t (fun _ _=>rfl) (fun _ _=>rfl) (fun i o c d L k l r=>qnf (fun e=>a (e ▸ ⟨i,o,d,k,l,r⟩))) (fun i o c d L k a r q N=>N) (fun _ h=>h.elim) (fun _ _ _ _ _ _ _ h=>h.elim) (fun b q s=>?_),
  ⟨u.tr.trans t,u.live,u.S,fun b n M=>(qnf (by omega)).trans (u.keep b n M)⟩,t⟩
 obtain ⟨v,O⟩:=h.ex b q s;exact ⟨v,(t.cell b q s).trans O⟩
def DStep (w:World) (a:Act) (h:Hp) (g':G) (u:World) (A:Act):Prop :=
 ∃ m:List Nat,A.defers=m.map mark++a.defers/\m.Nodup/\∀ D∈m,w.heap.size<=D/\u.heap[D]?=some (.deferred (some []))/\¬ UU h g' D
theorem DStep.nil {w a y g' w' a'} (h:a'.defers=a.defers):DStep w a y g' w' a':=⟨[],by simpa using h,List.nodup_nil,fun D h=>by simp at h⟩
theorem DStep.keep {w a y X O A q K w2} (h:DStep w a y X O A) (u:Upd y X O q K w2):DStep w a q K w2 A:=by
 obtain ⟨ms,h1,h2,h3⟩:=h;refine ⟨ms,h1,h2,fun D hD=>?_⟩;obtain ⟨k1,k2,k3⟩:=h3 D hD;have e:D<O.heap.size:=(qms.1 k2).1;refine ⟨k1,(u.keep D e k3).trans k2,fun hl=>?_⟩;rcases u.live D hl with h | h
 . exact k3 h
 omega
theorem DStep.trans {w a hp1 g1 K a1 q A w2 a2} (h:DStep w a hp1 g1 K a1) (hs:w.heap.size<=K.heap.size) (u:Upd hp1 g1 K q A w2) (k:DStep K a1 q A w2 a2):DStep w a q A w2 a2:=by
 have h':=h.keep u;obtain ⟨O,q1,q2,q3⟩:=h;obtain ⟨ms,h1,h2,h3⟩:=h';obtain ⟨x2,k1,k2,k3⟩:=k
 have x0:O=ms:=by
  have:O.map mark=ms.map mark:=List.append_cancel_right (q1.symm.trans h1);have x1:Function.Injective mark:=fun x y e=>by simpa [mark] using e
  exact (List.map_inj_right (fun x y e=>x1 e)).1 this
 subst x0;refine ⟨x2++O,by rw [k1,h1];simp,?_,fun D X=>?_⟩
 . rw [qns];refine ⟨k2,h2,fun x hx y hy e=>?_⟩;subst e;have:=(k3 x hx).1;have:=(qms.1 (q3 x hy).2.1).1;omega
 rcases xm.1 X with X | X
 . obtain ⟨c1,c2,c3⟩:=k3 D X;exact ⟨by omega,c2,c3⟩
 exact h3 D X
section
variable {P:Program} {E:HE} {N:Nat} {ro:Option Nat} {n:Nat}
def RS (P:Program) (E:HE):Prop :=
 ∀ (v:AV) (p:List HObj) (H:List AV->List HObj->(AV->List HObj->Prop)->Prop) (u:List HObj->Prop),E.R v p H u->∃ f c,v = .fn (.func f) [] c/\jB P f=true /\
   ∀ (w:World) (g:G),(∀ x h K,H x h K->bn P w g p.length x h K)->NH P w g f (.yl p.length::c) (p++[.lp .ready (p.length+1),.gone]) fun _ h=>u h
def Dc (N:Nat) (t:St) (a:Act) (w:World) (g:G) (Q:Exit->St->Prop) (R:Exit->Act->World->Prop):Prop :=
 ∀ e s A u g',Q e s->Sim N s A u g'->Upd (hpf t.hp) g w (hpf s.hp) g' u->DStep w a (hpf s.hp) g' u A->R e A u
theorem YL (s:List Nat) (V:List Value):∀ (t:Array Value),((s.zip V).foldl (fun T (t,a)=>T.setIfInBounds t a) t).size=t.size:=by
 induction s generalizing V with
 | nil=>intro t;rfl
 | cons p s i =>
   intro t;cases V with
   | nil=>rfl
   | cons v V=>simp [i]
theorem FrOK.putPs {w g}:∀ {y:List Nat} {X:List AV} {A:List Value} {O:List (Nat×AV)} {t:Array Value} {df:List Deferred},(∀ p∈y,p<t.size)->X.length=y.length->A.length=y.length->FrOK w g (get O) { tmps:=t,defers:=df } ->
 (∀ i (h:i<X.length),Rep w g false X[i] (A.getD i undef))->FrOK w g (get (AM.putPs y X O)) { tmps:=(y.zip A).foldl (fun tmps (t,a)=>tmps.setIfInBounds t a) t,defers:=df }
 | [],X,A,O,t,df,hp,K,h2,hF,hr=>by have:X=[]:=qmk (by simpa using K);subst this;exact hF
 | p::y,[],A,O,t,df,hp,K,h2,hF,hr=>by simp at K
 | p::y,x::X,[],O,t,df,hp,K,h2,hF,hr=>by simp at h2
 | p::y,x::X,v::A,O,t,df,hp,K,h2,hF,hr=>by simp only [AM.putPs,qpp,qnZ];refine FrOK.putPs (fun q hq=>by simpa using hp q (by simp [hq])) (by simpa using K) (by simpa using h2) ?_ (fun i hi=>by have:=hr (i+1) (by simpa using hi);simpa using this);have h0:=hr 0 (by simp);have:=FrOK.put (d:=some p) (r:=x) (v:=v) hF (fun k e=>by cases e;exact hp _ (by simp)) (by simpa using h0);exact this
theorem Pk {p g w} (k:HeapOK p g w) {id m:Nat} {s:LpSt} (j:p id=some (.lp s m)) (v:g.ρ m=some (.base L)):∃ c,g.ρ id=some (.blk c 0)/\w.heap[c]?=some (.loop { L with state:=s.state,pending:=s.pend })/\∀ o,¬ g.S c o:=by
 obtain ⟨l,u,h⟩:=k.rep id _ j;cases l with
 | virg=>exact h.elim
 | base L=>exact h.elim
 | blk c d =>obtain ⟨q,K,z,rfl,y⟩:=h;rw [v] at K;cases K;exact ⟨c,u,z,y⟩
theorem KV {p:List HObj} {g w} (h:HeapOK (hpf p) g w) {id m:Nat} {s s':LpSt} (o:hpf p id=some (.lp s m)) (u:g.ρ m=some (.base L)) (v:g.ρ id=some (.blk c 0)) :
 HeapOK (hpf (qz p id (.lp s' m))) g (w.putObj c (.loop { L with state:=s'.state,pending:=s'.pend }))/\Upd (hpf p) g w (hpf (qz p id (.lp s' m))) g (w.putObj c (.loop { L with state:=s'.state,pending:=s'.pend })):=by
 obtain ⟨C,k,K,z⟩:=Pk h o u;rw [v] at k;cases k;rw [Zg (qmu (qF o))];exact h.putO o rfl rfl v K rfl rfl (fun t j=>⟨L,t.ρ _ _ u,j,rfl,z⟩)
end
section
variable {P:Program} {E:HE} {N:Nat} {ro:Option Nat} {n:Nat}
theorem GR (l:List HObj) (x y:HObj):hpf (l++[x,y])=Hp.set (Hp.set (hpf l) (l.length+1) y) l.length x:=by
 funext i;simp only [hpf,Hp.set];by_cases e:i=l.length
 . subst e;simp
 rw [if_neg e];by_cases u:i=l.length+1
 . subst u;simp
 rw [if_neg u];rcases qmV i l.length with h | h
 . rw [qmw h]
 rw [qm1 (by simp;omega),qm1 (by omega)]
theorem qef {w1:World} {C:G} {g':Operand} {Y:Array Tmp} {A o:Code} {x y:AC} {a:Act} {fr:List (Nat×AV)} {id:Nat} {c0:Nat}
 (y8:∀ {Z:St} {Q:Exit->St->Prop} {a:Act} {w:World} {g:G} {R:Exit->Act->World->Prop} {ro:Option Nat} {n:Nat},AWP P E x Z Q->Trans w1 C w g->Sim N Z a w g->Dc N Z a w g Q R->A.wpIn (W ro) n P R a w)
 (y9:∀ {Z:St} {Q:Exit->St->Prop} {a:Act} {w:World} {g:G} {R:Exit->Act->World->Prop} {ro:Option Nat} {n:Nat},AWP P E y Z Q->Trans w1 C w g->Sim N Z a w g->Dc N Z a w g Q R->o.wpIn (W ro) n P R a w)
 (hL:C.ρ (id+1)=some (.base L)) (y4:C.ρ id=some (.blk c0 0)) (y0:L.assign=A) (y1:L.body=o) (M:L.params=Y) (x0:L.tmps=a.tmps) (y7:∀ p∈Y.toList,p<N) (hN:a.tmps.size=N)
 (hF:FrOK w1 C (get fr) a) {xs:List AV} {hp:List HObj} {K:AV->List HObj->Prop}
 (y6:hpf hp id=some (.lp .ready (id+1))) (l:xs.length=Y.toList.length)
 (h:AWP P E x { fr:=putPs Y.toList xs fr,hp:=hp } (Exit.th (fun s=>hpf s.hp id=some (.lp .ready (id+1))/\AWP P E y { fr:=s.fr,hp:=qz s.hp id (.lp .busy (id+1)) } (Jq id K)) (fun _ _=>False))) :
 bn P w1 C id xs hp K:=by
 intro ro n w g c vs x3 z hc x8 x4;have J:=z.ρ _ _ hL;have T:=z.ρ _ _ y4;rw [hc] at T;simp only [xl,Loc.blk.injEq,qoM] at T;subst T;obtain ⟨c',k1,k2,k3⟩:=Pk x3 y6 J;rw [hc] at k1;simp only [xl,Loc.blk.injEq,qoM] at k1;subst k1;have z1:w.heap[c]?=some (.loop { L with state := .ready,pending:=none }):=k2;have z0:=run_yield (P:=P) (args:=vs) z1 (by rw [x8,l,M];simp);refine ⟨L.fn,_,L.assign,L.body,z0,roundIn_of_wpIn (by trivial) ?_⟩;rw [y0,y1];show A.wpIn (W (some c)) n P _ _ w;have ht:(Y.zip vs).foldl (fun tmps (t,a)=>tmps.setIfInBounds t a) a.tmps=(Y.toList.zip vs.toList).foldl (fun tmps (t,a)=>tmps.setIfInBounds t a) a.tmps:=by rw [<-qpl,Array.toList_zip]
 have x7:Sim N { fr:=putPs Y.toList xs fr,hp:=hp } { tmps:=(L.params.zip vs).foldl (fun tmps (t,a)=>tmps.setIfInBounds t a) L.tmps,defers:=[] } w g:=by
  refine ⟨?_,?_,x3⟩
  . rw [M,x0,ht,YL];exact hN
  rw [M,x0,ht];refine FrOK.putPs (df:=[]) (fun p hp=>by rw [hN];exact y7 p hp) l (by simp [x8,l]) (fun i=>(hF i).mono z) (fun i hi=>?_);have:=x4 i hi;simpa [show i<vs.size by omega] using this
 refine y8 h z x7 ?_;intro e s a1 w2 g2 hq m f z2;cases e with
 | normal =>
   obtain ⟨d,hb⟩:=hq;have k:=f.tr.ρ _ _ J;have O:=f.tr.ρ _ _ hc;obtain ⟨c',j1,j2,j3⟩:=Pk m.2.2 d k;rw [O] at j1;simp only [xl,Loc.blk.injEq,qoM] at j1;subst j1;have y3:=run_beginRound (P:=P) (r:={ L with state := .ready,pending:=none }) j2 rfl;obtain ⟨s1,s2⟩:=KV (s' := .busy) m.2.2 d k O;refine ⟨_,y3,?_⟩;show o.wpIn (W (some c)) n P _ a1 _;have V:Sim N { fr:=s.fr,hp:=qz s.hp id (.lp .busy (id+1)) } a1 (w2.putObj c (.loop { L with state := .busy,pending:=none })) g2:=⟨m.1,fun i=>(m.2.1 i).mono s2.tr,s1⟩;refine y9 hb ((z.trans f.tr).trans s2.tr) V ?_;intro e3 x9 a3 w3 g3 q x6 X z3;have D:=X.tr.ρ _ _ k;have x2:=X.tr.ρ _ _ O
   have fin:∀ (j:Option Code) (s':LpSt) (b:Bool),hpf x9.hp id=some (.lp .busy (id+1))->K (B b) (qz x9.hp id (.lp s' (id+1)))->b=j.isNone->s'.state=(if j.isNone then .ready else .done)->s'.pend=j ->
    ∃ v w',(Instr.endRound c j).run P w3 = .ok v w'/\∃ v' r u g',Ending.returned v = .returned v'/\K r u/\Rep w' g' false r v'/\HeapOK (hpf u) g' w'/\Upd (hpf hp) g w (hpf u) g' w':=fun j s' b x1 hK y2 x5 u=>by
    obtain ⟨c',i1,i2,i3⟩:=Pk x6.2.2 x1 D;rw [x2] at i1;simp only [xl,Loc.blk.injEq,qoM] at i1;subst i1;have y5:=run_endRound (P:=P) (r:={ L with state := .busy,pending:=none }) j i2;obtain ⟨u1,u2⟩:=KV (s':=s') x6.2.2 x1 D x2;refine ⟨_,_,y5,_,B b,_,g3,rfl,hK,by rw [y2];exact .v _ _,?_,?_⟩
    . rw [<-x5,<-u];exact u1
    rw [<-x5,<-u];exact ((f.trans s2).trans X).trans u2
   cases e3 with
   | normal=>exact fin none .ready true q.1 q.2 rfl rfl rfl
   | ret=>exact fin (some .ret) (.done none) false q.1 q.2 rfl rfl rfl
   | exit i=>exact fin (some (.exit i)) (.done (some i)) false q.1 q.2 rfl rfl rfl
   | _=>exact q.elim
 | _=>exact hq.elim
theorem zw {w1:World} {g1:G} (hY:YS P E w1 g1) (hR:RS P E):∀ {ac:AC} {c:Code} {p:St} {Q:Exit->St->Prop} {a:Act} {w:World} {g:G} {R:Exit->Act->World->Prop} {ro:Option Nat} {n:Nat},
 NI P N c ac->(ro=none\/ac.noRf=true)->AWP P E ac p Q->Trans w1 g1 w g->Sim N p a w g->Dc N p a w g Q R->c.wpIn (W ro) n P R a w
 | .skip,c,p,Q,a,w,g,R,ro,n,u,O,h,T,k,z=>by
   cases c <;> first | exact u.elim | skip
   exact wpIn_skip (z _ p a w g h k (.refl _ _ _) (.nil rfl))
 | .rgn gs ks,c,p,Q,a,w,g,R,ro,n,u,O,h,T,k,z=>by
   cases c <;> first | exact u.elim | skip
   rename_i id ops d;obtain ⟨rfl,cl,hc,rfl⟩:=u;refine wpIn_region ?_;rw [qpa];have:=Kk (ro:=ro) (n:=n) (ops:=ops) (Q:=R) hY 0 (l:=ops.toList) (by simp) hc (jR h) T k (fun y2 a' w' g' hK M hu Z=>z _ _ a' w' g' hK (M.keep ks) hu (.nil Z));simpa using this
 | .drw gs un ks,c,p,Q,a,w,g,R,ro,n,u,O,h,T,k,z=>by
   cases c <;> first | exact u.elim | skip
   rename_i id ops d;obtain ⟨rfl,hm,cl,pre,hc,Z,rfl⟩:=u;exact TU hm hc Z h k (fun y2 a' w' g' hK M hu Z=>z _ _ a' w' g' hK (M.keep ks) hu (.nil Z))
 | .seq x y,c,p,Q,a,w,g,R,ro,n,u,O,h,T,k,z=>by
   cases c <;> first | exact u.elim | skip
   rename_i c1 c2;have z0:ro=none\/x.noRf=true:=O.imp (fun h=>h) (fun h=>by simp [AC.noRf] at h;exact h.1);have z1:ro=none\/y.noRf=true:=O.imp (fun h=>h) (fun h=>by simp [AC.noRf] at h;exact h.2);refine wpIn_seq (zw hY hR u.1 z0 h T k fun e y2 a' w' g' hq M hu Z=>?_);cases e with
   | normal=>exact zw hY hR u.2 z1 hq (T.trans hu.tr) M (fun e v4 a2 w2 g2 q2 s2 u2 d2=>z e v4 a2 w2 g2 q2 s2 (hu.trans u2) (Z.trans hu.tr.size u2 d2))
   | _=>exact z _ _ _ _ _ hq M hu Z
 | .cond d x y,c,p,Q,a,w,g,R,ro,n,u,O,h,T,k,z=>by
   cases c <;> first | exact u.elim | skip
   rename_i d' c1 c2;have z0:ro=none\/x.noRf=true:=O.imp (fun h=>h) (fun h=>by simp [AC.noRf] at h;exact h.1);have z1:ro=none\/y.noRf=true:=O.imp (fun h=>h) (fun h=>by simp [AC.noRf] at h;exact h.2);obtain ⟨Z,h1,h2⟩:=u;simp only [AWP] at h;split at h
   . rename_i t a8;have:=qr k.2.1 Z;rw [a8] at this;have hv:a.eval d' = .bool t:=zZ this;exact wpIn_cond_split hv (fun e=>zw hY hR h1 z0 (h.1 e) T k z) (fun e=>zw hY hR h2 z1 (h.2 e) T k z)
   exact h.elim
 | .block id x,c,p,Q,a,w,g,R,ro,n,u,O,h,T,k,z=>by
   cases c <;> first | exact u.elim | skip
   obtain ⟨rfl,u⟩:=u;refine wpIn_block (zw hY hR u O h T k fun e y2 a' w' g' hq M hu Z=>?_);cases e with
   | exit b9 =>
     simp only [Exit.blk] at hq;simp only [Exit.inBlock];split
     . rename_i e;rw [if_pos e] at hq;exact z _ _ _ _ _ hq M hu Z
     rename_i e;rw [if_neg e] at hq;exact z _ _ _ _ _ hq M hu Z
   | _=>exact z _ _ _ _ _ hq M hu Z
 | .loop x,c,p,Q,a,w,g,R,ro,n,u,O,h,T,k,z=>by
   cases c <;> first | exact u.elim | skip
   rename_i c;obtain ⟨α,I,C,μ,a0,h0,w7,x8⟩:=h;have u:NI P N c x:=u;obtain ⟨g2,a6,b0⟩:=w7 N a w g k;let Inv:Nat->Act->World->Prop:=fun m a' w'=>∃ b g',C b/\μ b=m/\Sim N (I b) a' w' g'/\Upd (hpf p.hp) g w (hpf (I b).hp) g' w'/\DStep w a (hpf (I b).hp) g' w' a'
   have v3:∀ (m:Nat) (a':Act) (w':World),Inv m a' w'->(Code.loop c).wpIn (W ro) n P R a' w':=fun m=>by
    intro a' w' hI;refine qpG Inv m hI ?_;intro m a' w' ⟨b,g',hb,hm,M,x4,z6⟩;refine zw hY hR u O (x8 b hb) (T.trans x4.tr) M fun e v4 a2 w2 g2 q2 s2 u2 d2=>?_;cases e with
    | normal =>obtain ⟨b',v8,b6,z8⟩:=q2;obtain ⟨g3,a7,u9⟩:=z8 N a2 w2 g2 s2;exact ⟨μ b',by omega,b',g3,v8,rfl,a7,(x4.trans u2).trans u9,(z6.trans x4.tr.size u2 d2).keep u9⟩
    | _=>exact z _ _ _ _ _ q2 s2 (x4.trans u2) (z6.trans x4.tr.size u2 d2)
   exact v3 (μ a0) a w ⟨a0,g2,h0,rfl,a6,b0,.nil rfl⟩
 | .exit id,c,p,Q,a,w,g,R,ro,n,u,O,h,T,k,z=>by
   cases c <;> first | exact u.elim | skip
   cases u;exact wpIn_exit (z _ p a w g h k (.refl _ _ _) (.nil rfl))
 | .ret,c,p,Q,a,w,g,R,ro,n,u,O,h,T,k,z=>by
   cases c <;> first | exact u.elim | skip
   exact wpIn_ret (z _ p a w g h k (.refl _ _ _) (.nil rfl))
 | .label i,c,p,Q,a,w,g,R,ro,n,u,O,h,T,k,z=>by
   cases c <;> first | exact u.elim | skip
   exact wpIn_label (z _ p a w g h k (.refl _ _ _) (.nil rfl))
 | .scope x,c,p,Q,a,w,g,R,ro,n,u,O,h,T,k,z=>by
   cases c <;> first | exact u.elim | skip
   refine jd (zw hY hR (ac:=x) u O h T k fun e y2 a' w' g' hq M hu Z=>?_);cases e with
   | goto l=>exact hq.elim
   | _=>exact z _ _ _ _ _ hq M hu Z
 | .rf gg qs x y ks,c,p,Q,a,w,g,R,ro,n,u,O,h,T,k,z=>by
   cases c <;> first | exact u.elim | skip
   rename_i g' ps assign body;obtain ⟨hg,rfl,a4,hx,hy⟩:=u;have a5:ro=none:=O.resolve_right (by simp [AC.noRf]);subst a5;obtain ⟨u3,K0,v6,y4⟩:=h;rw [qd] at u3;obtain ⟨nx,ny⟩:=u3;obtain ⟨f,y3,hv,z7,x2⟩:=hR _ _ _ _ v6;obtain ⟨id,x0⟩:∃ id,id=p.hp.length:=⟨_,rfl⟩;rw [<-x0] at x2 y4;have eg:=qr k.2.1 hg;rw [hv] at eg;generalize w6:a.eval g'=gv at eg;cases eg with
   | fn _ _ _ _ as bs la lb ra rb =>
     have b2:as=[]:=qmk (by simpa using la);subst b2;refine qpL ?_;intro fn b5;obtain ⟨Y,V⟩:∃ Y:Loop,Y={ state := .ready,pending:=none,fn,tmps:=a.tmps,params:=ps,assign,body,defers:=w.heap.size }:=⟨_,rfl⟩;obtain ⟨y5,a9⟩:=k.2.2.allocX (.deferred (some []));have w9:hpf p.hp (id+1)=none:=by simp [hpf,x0]
     obtain ⟨u5,b1⟩:=y5.mark w9 Y;have a1:Hp.set (hpf p.hp) (id+1) .gone id=none:=by rw [Hp.set_other _ _ (by omega)];simp [hpf,x0]
     have b8:(w.alloc (.deferred (some []))).heap.size=w.heap.size+1:=by simp
     obtain ⟨x1,y0⟩:=u5.allocO a1 (.loop Y) (.lp .ready (id+1)) (fun tr=>⟨Y,tr.ρ _ _ (by simp [G.home]),by rw [zk,V];rfl,rfl,fun q h=>WL y5 q h⟩);have u6:hpf (p.hp++[.lp .ready (id+1),.gone])=Hp.set (Hp.set (hpf p.hp) (id+1) .gone) id (.lp .ready (id+1)):=by rw [x0];exact GR _ _ _
     rw [<-u6] at x1 y0;obtain ⟨W1,y7⟩:∃ W1,W1=(w.alloc (.deferred (some []))).alloc (.loop Y):=⟨_,rfl⟩;rw [<-y7] at x1 y0;obtain ⟨gB,x6⟩:∃ gB,gB=(g.home (id+1) (.base Y)).home id (.blk (w.alloc (.deferred (some []))).heap.size 0):=⟨_,rfl⟩;rw [<-x6] at x1 y0;have z4:gB.ρ (id+1)=some (.base Y):=by rw [x6];simp [G.home]
     have x5:gB.ρ id=some (.blk (w.heap.size+1) 0):=by rw [x6];simp [G.home]
     have y1:=(a9.trans b1).trans y0;have z2:=T.trans y1.tr
     have x3:∀ xs L K',(hpf L id=some (.lp .ready (id+1))/\xs.length=ps.toList.length /\
      AWP P E x { fr:=putPs ps.toList xs p.fr,hp:=L } (Exit.th (fun z3=>hpf z3.hp id=some (.lp .ready (id+1))/\AWP P E y { fr:=z3.fr,hp:=qz z3.hp id (.lp .busy (id+1)) } (Jq id K')) (fun _ _=>False)))->bn P W1 gB id xs L K':=fun xs L K' ⟨q1,q2,q3⟩=>by
      have b4:YS P E W1 gB:=fun i xs hp K hh ro n w g c vs k1 k2 k3 k4 k5=>hY i xs hp K hh ro n w g c vs k1 (z2.trans k2) k3 k4 k5;exact qef (g':=g') (a:=a) (fun {p Q a w g R ro n} f3 f4 f5 f6=>zw hY hR hx (.inr nx) f3 (z2.trans f4) f5 f6) (fun {p Q a w g R ro n} f3 f4 f5 f6=>zw hY hR hy (.inr ny) f3 (z2.trans f4) f5 f6) z4 x5 (by rw [V]) (by rw [V]) (by rw [V]) (by rw [V]) a4 k.1 (fun i=>(k.2.1 i).mono y1.tr) q1 q2 q3
     have hc:=x2 W1 gB x3;refine ⟨w.heap.size+1,[mark w.heap.size],W1,{ target := .fn (.func f) bs.toArray,args:=#[.func (.yield (w.heap.size+1)) #[] #[]] },W1,f,#[.func (.yield (w.heap.size+1)) #[] #[]]++bs.toArray,W1,?_,?_,fun _ _=>trivial,?_,fun h=>by simp [Fence.wide] at h,?_⟩
     . rw [y7,V];exact run_enterLoop_outer _ _ _ _ _
     . simp only [resolve,w6];simp [go_sem]
     . simp [invoke,zS z7]
     have y8:∀ i (h:i<(AV.yl id::y3).length),Rep W1 gB false (AV.yl id::y3)[i] ((#[Value.func (.yield (w.heap.size+1)) #[] #[]]++bs.toArray).getD i undef):=fun i hi=>by
      cases i with
      | zero=>simpa using Rep.yl (w:=W1) (g:=gB) id (w.heap.size+1) x5
      | succ i =>have h2:=(rb i (by simpa using hi)).mono y1.tr;simp only [qna];simp only [qmB,qmp] at h2 ⊢;rw [qnb (by simp)];simpa using h2
     have v9:=hc none (n - 1) W1 gB (#[Value.func (.yield (w.heap.size+1)) #[] #[]]++bs.toArray) x1 (.refl _ _) (by simp [lb]) y8;refine v9.mono ?_;rintro e w2 ⟨v,r,L,g2,rfl,hK,b7,y6,x9⟩;have he:=y4 L hK;have b3:=x9.tr.ρ _ _ z4;have z5:=x9.tr.ρ _ _ x5;have v5:W1.heap[w.heap.size]?=some (.deferred (some [])):=by rw [y7];exact (qne _ _ _ (by simp)).trans (zk _ _)
     have x7:¬ UU (hpf (p.hp++[.lp .ready (id+1),.gone])) gB w.heap.size:=by
      rintro ⟨i,o,d,ho,z,O⟩;rw [u6] at ho;by_cases e:i=id
      . subst e;rw [x5] at O;simp at O
      rw [Hp.set_other _ _ e] at ho;by_cases e2:i=id+1
      . subst e2;rw [Hp.set_same] at ho;cases ho;cases z
      rw [Hp.set_other _ _ e2] at ho;rw [x6] at O;simp [G.home,e,e2] at O;exact absurd (k.2.2.lt ho z O) (qny _)
     have w0:DStep w a (hpf (p.hp++[.lp .ready (id+1),.gone])) gB W1 { a with defers:=[mark w.heap.size]++a.defers } :=
      ⟨[w.heap.size],rfl,by simp,fun D hD=>by simp at hD;subst hD;exact ⟨Qs _,v5,x7⟩⟩
     have fin:∀ (s:LpSt) (mk:Nat) (Qe:Exit) (J:Option Code),hpf L id=some (.lp s mk)->s.state ≠ .busy->s.pend=J->(∀ g4 w4,Sim N { fr:=p.fr,hp:=qz L id .gone } { a with defers:=[mark w.heap.size]++a.defers } w4 g4->Upd (hpf p.hp) g w (hpf (qz L id .gone)) g4 w4->DStep w a (hpf (qz L id .gone)) g4 w4 { a with defers:=[mark w.heap.size]++a.defers } ->
      (match J with
       | none=>R .normal { a with defers:=[mark w.heap.size]++a.defers } w4
       | some c=>c.wpIn (W none) n P R { a with defers:=[mark w.heap.size]++a.defers } w4)) ->
      ∃ J w₄,(Instr.endLoop (w.heap.size+1)).run P w2 = .ok J w₄ /\
      (match J with
       | none=>R .normal { a with defers:=[mark w.heap.size]++a.defers } w₄
       | some c=>c.wpIn (W none) n P R { a with defers:=[mark w.heap.size]++a.defers } w₄):=fun s mk Qe J X u8 a3 w5=>by
      subst a3;have w8:∃ L',g2.ρ mk=some (.base L')/\w2.heap[w.heap.size+1]?=some (.loop { L' with state:=s.state,pending:=s.pend }):=by obtain ⟨l,h1,h2⟩:=y6.rep id _ X;rw [z5] at h1;cases h1;obtain ⟨L',m0,m1,m2,m3⟩:=h2;exact ⟨L',m0,m1⟩
      obtain ⟨L',v7,u0⟩:=w8;have w3:=run_endLoop (P:=P) (r:={ L' with state:=s.state,pending:=s.pend }) u0 u8
      have y9:∃ s':LpSt,s'.state = .exhausted/\s'.pend=s.pend:=by
       cases s with
       | ready=>exact ⟨.over none,rfl,rfl⟩
       | busy=>exact absurd rfl u8
       | done j =>
         cases j with
         | none=>exact ⟨.over (some none),rfl,rfl⟩
         | some i=>exact ⟨.over (some (some i)),rfl,rfl⟩
       | over j=>exact ⟨.over j,rfl,rfl⟩
      obtain ⟨s',e1,e2⟩:=y9;obtain ⟨u1,u2⟩:=KV (s':=s') y6 X v7 z5;rw [e1,e2] at u1 u2;have A:id<L.length:=qF X;have z9:hpf (qz L id (.lp s' mk)) id=some (.lp s' mk):=by rw [Zg (qmu A)];exact Hp.set_same _ _ _
      obtain ⟨v1,v2⟩:=u1.drop z9;have u7:Hp.set (hpf (qz L id (.lp s' mk))) id .gone=hpf (qz L id .gone):=by rw [Zg (qmu A),Zg (qmu A),Hp.set_set]
      rw [u7] at v1 v2;have v0:=((y1.trans x9).trans u2).trans v2;refine ⟨_,_,w3,?_⟩;exact w5 g2 _ ⟨k.1,fun i=>(k.2.1 i).mono v0.tr,v1⟩ v0 (((w0.keep x9).keep u2).keep v2)
     simp only [Vu] at he;show ∃ J w₄,_/\_;split at he
     . rename_i X;exact fin .ready _ .normal none X (by simp [LpSt.state]) rfl (fun g4 w4 s4 u4 d4=>z _ _ _ _ g4 he (s4.keep ks) u4 d4)
     . rename_i X;exact fin (.done none) _ .ret (some .ret) X (by simp [LpSt.state]) rfl (fun g4 w4 s4 u4 d4=>wpIn_ret (z _ _ _ _ g4 he s4 u4 d4))
     . rename_i i _ X;exact fin (.done (some i)) _ (.exit i) (some (.exit i)) X (by simp [LpSt.state]) rfl (fun g4 w4 s4 u4 d4=>wpIn_exit (z _ _ _ _ g4 he s4 u4 d4))
     exact he.elim
 | .dead,c,p,Q,a,w,g,R,ro,n,u,O,h,T,k,z=>h.elim
end
end Go.AM
