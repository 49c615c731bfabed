/-
  Kt2: texts joined: Am10b Am10c Am10d Am11 Am12 Am13 Am14 Am15 Am16 Am17 Am17b Am17c. Own work.
-/
import Derived.Test.YtlahcgdnieenpaaGreatDoorKt1
import Derived.Laws.StructEq
import Derived.ChangeKeysEq
import Derived.RangeFuncOwn
import Derived.Lib.ConvBytes
import Derived.Laws.AppendOwn
import Derived.Laws.BytesArg
import Derived.OrdersIn
import Derived.Sort.LoopGhostIn
set_option linter.all false
set_option linter.unusedSimpArgs false
set_option linter.unusedVariables false
set_option linter.unusedSectionVars false

namespace Go.AM
open Go.RowKit
def Zb : Option TypeDesc -> Bool
 | some (.struct _) | some (.array _ _)=>true
 | _=>false
def qhc : Nat -> List Leaf -> List Leaf
 | 0,_=>[]
 | n+1,l=>l++qhc n l
def Y4 (P : Program) (t : TypeId) : Option (List Leaf) -> Option (List Leaf)
 | some ls=>if (qE P t).map (·.2)=some ls.length then some ls else none
 | none=>none
def JY (lv : TypeId -> Option (List Leaf)) : List Field -> Nat -> Option (List Leaf)
 | [],_=>some []
 | f::fs,off=>match lv f.type with
   | some ls => if f.offset = off ∧ f.name ≠ "_" then (JY lv fs (off + ls.length)).map (ls ++ ·) else none
   | none=>none
def Qr (P : Program) : Nat -> TypeId -> Option (List Leaf)
 | 0,_=>none
 | n + 1,t => Y4 P t (match P.underlying t with
   | some (.int _)=>some [.int]
   | some .bool=>some [.bool]
   | some .string=>some [.str]
   | some (.array k e)=>(Qr P n e).map (qhc k)
   | some (.struct fs)=>if P.stoodInHeld t then none else JY (Qr P n) fs.toList 0
   | _=>none)
abbrev j8 (P:Program) (n:Nat):List Field->Nat->Option (List Leaf):=JY (Qr P n)
theorem Q9 : ∀ {l1 l2 : List Leaf} {xs ys : List Value} {z : Bool},qg (l1 ++ l2) xs ys = some z ->
 ∃ z1,qg l1 (xs.take l1.length) (ys.take l1.length)=some z1/\(z1=false->z=false)/\(z1=true->qg l2 (xs.drop l1.length) (ys.drop l1.length)=some z)
 | [],l2,xs,ys,z,h=>⟨true,by simp [qg],by simp,fun _=>by simpa using h⟩
 | l::l1,l2,[],ys,z,h=>by simp [qg] at h
 | l::l1,l2,x::xs,[],z,h=>by simp [qg] at h
 | l::l1, l2, x::xs, y::ys, z, h=>by
   simp only [List.cons_append,qg] at h;simp only [List.length_cons,List.take_succ_cons,List.drop_succ_cons,qg];cases hl:zG l x y with
   | none=>rw [hl] at h;cases h
   | some b =>
     rw [hl] at h;cases b with
     | false=>cases h;exact ⟨false,rfl,fun _=>rfl,by simp⟩
     | true=>exact Q9 h
theorem Wk {P : Program} {t : TypeId} {l : Leaf} (d : Nat) (w : World) (h : (l = .int /\ ∃ k,P.underlying t = some (.int k)) \/ (l = .bool /\ P.underlying t = some .bool) \/ (l = .str /\ P.underlying t = some .string))
 {a b:Value} {z:Bool} (hz:zG l a b=some z):(Op.equalIn (d+1) t a b).run P w = .ok z w:=by
 rcases h with ⟨rfl,k,hu⟩ | ⟨rfl,hu⟩ | ⟨rfl,hu⟩
 . cases a <;> cases b <;> simp only [zG,reduceCtorEq] at hz;split at hz
   . rename_i e;subst e;simp at hz;subst hz;simp [Op.equalIn,run_underlying hu]
   cases hz
 . cases a <;> cases b <;> simp only [zG,reduceCtorEq] at hz;simp at hz;subst hz;simp [Op.equalIn,run_underlying hu]
 cases a <;> cases b <;> simp only [zG,reduceCtorEq] at hz;simp at hz;subst hz;simp [Op.equalIn,run_underlying hu]
def Je (P:Program) (d:Nat) (t:TypeId) (ls:List Leaf):Prop :=
 ∃ agg,qE P t = some (agg,ls.length) /\ ∀ (w : World) (xs ys : Array Value) (off : Nat) (z : Bool),qg ls ((xs.toList.drop off).take ls.length) ((ys.toList.drop off).take ls.length) = some z ->
   ∃ a b,(part t xs off).run P w = .ok a w/\(part t ys off).run P w = .ok b w/\(Op.equalIn d t a b).run P w = .ok z w/\eqK (Zb (P.underlying t),ls) a b=some z
theorem qbt {P : Program} {t : TypeId} {l : Leaf} (d : Nat) (h : (l = .int /\ ∃ k,P.underlying t = some (.int k)) \/ (l = .bool /\ P.underlying t = some .bool) \/ (l = .str /\ P.underlying t = some .string)) (hi : qE P t = some (false,1)) :
 Je P (d+1) t [l]:=by
 refine ⟨false,hi,fun w xs ys off z hz=>?_⟩;have hp:P.plainKey t=true:=by unfold Program.plainKey;rcases h with ⟨_,k,hu⟩ | ⟨_,hu⟩ | ⟨_,hu⟩ <;> rw [hu]
 cases hx:(xs.toList.drop off).take 1 with
 | nil=>simp only [List.length_singleton] at hz;rw [hx] at hz;simp [qg] at hz
 | cons a as =>
   cases hy:(ys.toList.drop off).take 1 with
   | nil=>simp only [List.length_singleton] at hz;rw [hx,hy] at hz;simp [qg] at hz
   | cons b bs =>
     have ea:xs[off]?=some a:=by have:=congrArg (·[0]?) hx;simpa using this
     have eb:ys[off]?=some b:=by have:=congrArg (·[0]?) hy;simpa using this
     have has:as=[]:=by have:=congrArg List.length hx;simp at this;exact List.eq_nil_of_length_eq_zero (by omega)
     have hbs:bs=[]:=by have:=congrArg List.length hy;simp at this;exact List.eq_nil_of_length_eq_zero (by omega)
     subst has hbs;simp only [List.length_singleton] at hz;rw [hx,hy] at hz
     have hlf:zG l a b=some z:=by
      simp only [qg] at hz;split at hz
      . rename_i hl;rw [hl];simpa using hz
      . rename_i hl;rw [hl];exact hz
      cases hz
     have hb:Zb (P.underlying t)=false:=by rcases h with ⟨_,k,hu⟩ | ⟨_,hu⟩ | ⟨_,hu⟩ <;> rw [hu] <;> rfl
     exact ⟨a,b,run_part_plain w hp ea,run_part_plain w hp eb,Wk d w h hlf,by rw [hb];exact hlf⟩
theorem Yy {P:Program} {t:TypeId} {sz:Nat} (h:qE P t=some (true,sz)) (w:World) (xs:Array Value) (off:Nat):(part t xs off).run P w = .ok (.agg (xs.extract off (off+sz))) w:=by simp [part,jg h,qf h]
theorem qam {P : Program} {d : Nat} {e : TypeId} {ls : List Leaf} (hp : Je P d e ls) (hc : P.cellsOf e = ls.length) (xs ys : Array Value) (w : World) : ∀ (k j : Nat) (z : Bool),
 qg (qhc k ls) (xs.toList.drop (j*ls.length)) (ys.toList.drop (j*ls.length))=some z->(Op.eqItems d e (P.cellsOf e) xs ys (List.range' j k)).run P w = .ok z w
 | 0,j,z,h=>by simp only [qhc] at h;cases hx:xs.toList.drop (j*ls.length) <;> cases hy:ys.toList.drop (j*ls.length) <;> rw [hx,hy] at h <;> simp [qg] at h;subst h;simp [Op.eqItems]
 | k+1, j, z, h=>by
   simp only [qhc] at h;obtain ⟨z1,h1,h2,h3⟩:=Q9 h;obtain ⟨agg,_,hpp⟩:=hp;obtain ⟨a,b,p1,p2,p3,_⟩:=hpp w xs ys (j*ls.length) z1 h1;simp only [List.range'_succ,Op.eqItems,Sem.run_bind,hc,p1,p2,p3,Result.andThen_ok];cases z1 with
   | false=>simp [h2 rfl]
   | true =>simp only [Bool.not_true,Bool.false_eq_true,if_false];have:=h3 rfl;rw [List.drop_drop,List.drop_drop,<-Nat.succ_mul] at this;rw [<-hc];exact qam ⟨agg,‹_›,hpp⟩ hc xs ys w k (j+1) z this
theorem WI {P:Program} {e:TypeId} {agg sz} (h:qE P e=some (agg,sz)):P.cellsOf e=sz/\∃ i,P.info? e=some i/\i.size=sz:=by
 unfold qE at h;cases hd:P.underlying e with
 | none=>simp [hd] at h
 | some d =>
   cases hi:P.info? e with
   | none=>simp [hd,hi] at h
   | some i =>simp [hd,hi] at h;exact ⟨by simp [Program.cellsOf,hi,h.2],i,rfl,h.2⟩
theorem Wl {P : Program} {d : Nat} (xs ys : Array Value) (w : World) {n : Nat} (ih : ∀ t ls,Qr P n t = some ls -> Je P d t ls) : ∀ (fs : List Field) (off : Nat) (ls : List Leaf) (z : Bool),j8 P n fs off = some ls ->
 qg ls (xs.toList.drop off) (ys.toList.drop off)=some z->(Op.eqFields d xs ys fs).run P w = .ok z w
 | [],off,ls,z,h,hz=>by simp [j8,JY] at h;subst h;cases hx:xs.toList.drop off <;> cases hy:ys.toList.drop off <;> rw [hx,hy] at hz <;> simp [qg] at hz;subst hz;simp [Op.eqFields]
 | f::fs, off, ls, z, h, hz=>by
   simp only [j8,JY] at h;split at h
   . rename_i l1 h1;split at h
     . rename_i hc;obtain ⟨rfl,hn⟩:=hc;simp only [Option.map_eq_some_iff] at h;obtain ⟨l2,h2,rfl⟩:=h;obtain ⟨z1,k1,k2,k3⟩:=Q9 hz;obtain ⟨agg,_,hpp⟩:=ih _ _ h1;obtain ⟨a,b,p1,p2,p3,_⟩:=hpp w xs ys f.offset z1 k1;simp only [Op.eqFields,hn,ne_eq,not_false_eq_true,if_true,Sem.run_bind,p1,p2,p3,Result.andThen_ok];cases z1 with
       | false=>simp [k2 rfl]
       | true =>have:=k3 rfl;rw [List.drop_drop,List.drop_drop] at this;simpa using Wl xs ys w ih fs _ l2 z h2 this
     cases h
   cases h
theorem qbi {P:Program} {t:TypeId} {fs:Array Field} (h:P.underlying t=some (.struct fs)):P.fieldsOf t=fs:=by simp [Program.fieldsOf,h]
def qaK (P:Program) (d:Nat) (t:TypeId) (ks:KS):Prop :=
 ∀ (w:World) (a b:Value) (z:Bool),eqK ks a b=some z->(Op.equalIn d t a b).run P w = .ok z w
theorem j9 {P : Program} (d : Nat) : ∀ (n : Nat) (t : TypeId) (ls : List Leaf), Qr P n t = some ls -> Je P (d + n) t ls /\ qaK P (d + n) t (Zb (P.underlying t), ls)
 | 0,t,ls,h=>by simp [Qr] at h
 | n+1, t, ls, h=>by
   simp only [Qr] at h
   generalize hr : (match P.underlying t with
    | some (.int _)=>some [Leaf.int]
    | some .bool=>some [.bool]
    | some .string=>some [.str]
    | some (.array k e)=>(Qr P n e).map (qhc k)
    | some (.struct fs)=>if P.stoodInHeld t then none else j8 P n fs.toList 0
    | _=>none)=raw at h
   cases raw with
   | none=>simp [Y4] at h
   | some l =>
     simp only [Y4] at h;split at h
     . rename_i hlen;cases h;obtain ⟨p,hp,hp2⟩:=Option.map_eq_some_iff.1 hlen;obtain ⟨agg,sz⟩:=p;simp only at hp2;subst hp2;have ih:∀ t ls,Qr P n t=some ls->Je P (d+n) t ls:=fun t ls h=>(j9 (P:=P) d n t ls h).1
       have hagg:agg=Zb (P.underlying t):=by
        unfold qE at hp;cases hd:P.underlying t with
        | none=>simp [hd] at hp
        | some de =>
          cases hi:P.info? t with
          | none=>simp [hd,hi] at hp
          | some i =>simp [hd,hi] at hp;rw [<-hp.1];cases de <;> rfl
       have aggcase : Zb (P.underlying t) = true -> (∀ (w : World) (xs ys : Array Value) (z : Bool),qg ls xs.toList ys.toList = some z -> (Op.equalIn (d + n + 1) t (.agg xs) (.agg ys)).run P w = .ok z w) ->
        Je P (d+(n+1)) t ls/\qaK P (d+(n+1)) t (Zb (P.underlying t),ls):=fun hb hw=>by
        rw [hb] at hagg ⊢;subst hagg;refine ⟨⟨true,hp,fun w xs ys off z hz=>?_⟩,fun w a b z hz=>?_⟩
        . have e : ∀ (xs : Array Value),(xs.extract off (off + ls.length)).toList = (xs.toList.drop off).take ls.length := fun xs => by simp [List.extract_eq_take_drop,List.take_drop]
          rw [<-e,<-e] at hz;exact ⟨_,_,Yy hp w xs off,Yy hp w ys off,hw w _ _ z hz,by rw [hb];exact hz⟩
        unfold eqK at hz;split at hz
        . rename_i heq;cases heq;exact hw w _ _ z hz
        . rename_i heq;cases heq
        cases hz
       have leafcase : ∀ (lf : Leaf),ls = [lf] -> Zb (P.underlying t) = false -> ((lf = .int /\ ∃ k,P.underlying t = some (.int k)) \/ (lf = .bool /\ P.underlying t = some .bool) \/ (lf = .str /\ P.underlying t = some .string)) ->
        Je P (d+(n+1)) t ls/\qaK P (d+(n+1)) t (Zb (P.underlying t),ls):=fun lf hl hb hh=>by
        rw [hb] at hagg ⊢;subst hl hagg;refine ⟨qbt (d+n) hh hp,fun w a b z hz=>Wk (d+n) w hh ?_⟩;simpa [eqK] using hz
       cases hu:P.underlying t with
       | none=>rw [hu] at hr;simp at hr
       | some de =>
         rw [hu] at hr aggcase leafcase;cases de with
         | int k=>simp at hr;exact leafcase .int hr.symm rfl (.inl ⟨rfl,k,rfl⟩)
         | bool=>simp at hr;exact leafcase .bool hr.symm rfl (.inr (.inl ⟨rfl,rfl⟩))
         | string=>simp at hr;exact leafcase .str hr.symm rfl (.inr (.inr ⟨rfl,rfl⟩))
         | array k e =>simp only [Option.map_eq_some_iff] at hr;obtain ⟨l1,h1,rfl⟩:=hr;refine aggcase rfl fun w xs ys z hz=>?_;obtain ⟨agg1,hti,hpp⟩:=ih _ _ h1;obtain ⟨hc,i,hi,_⟩:=WI hti;rw [run_equalIn_array w (d+n) xs ys hu hi,List.range_eq_range'];exact qam ⟨agg1,hti,hpp⟩ hc xs ys w k 0 z (by simpa using hz)
         | struct fs =>
           simp only at hr;split at hr
           . cases hr
           rename_i hst;refine aggcase rfl fun w xs ys z hz=>?_;have hfs:=qbi hu;rw [run_equalIn_struct w (d+n) t xs ys (by rw [hfs];exact hu) (by simpa using hst),hfs];exact Wl xs ys w ih fs.toList 0 ls z hr (by simpa using hz)
         | _=>simp at hr
     cases h
def W9 (P:Program) (t:TypeId):Option KS:=(Qr P 8 t).map fun ls=>(Zb (P.underlying t),ls)
theorem Xs {P:Program} {t:TypeId} {ks:KS} (h:W9 P t=some ks) (w:World) {a b:Value} {z:Bool} (hz:eqK ks a b=some z):(Op.equal t a b).run P w = .ok z w:=by simp only [W9,Option.map_eq_some_iff] at h;obtain ⟨ls,h1,rfl⟩:=h;exact (j9 9992 8 t ls h1).2 w a b z hz
theorem qhw {a b:ByteArray} (h:(a==b)=true):a=b:=by
 cases a with | mk x=>cases b with | mk y =>
 have:(x==y)=true:=h;rw [eq_of_beq this]
theorem qcY (a:ByteArray):(a==a)=true:=by
 cases a with | mk x =>
 show (x==x)=true;simp
theorem Va {l:Leaf} {a b:Value} (h:zG l a b=some true):a=b:=by
 cases l <;> cases a <;> cases b <;> simp only [zG,reduceCtorEq] at h
 . split at h
   . rename_i e;subst e;simp at h;rw [h]
   cases h
 . simp at h;rw [h]
 simp only [Option.some.injEq] at h;rw [qhw h]
theorem jV : ∀ {ls : List Leaf} {xs ys : List Value},qg ls xs ys = some true -> xs = ys
 | [],[],[],_=>rfl
 | [],_::_,_,h=>by simp [qg] at h
 | [],[],_::_,h=>by simp [qg] at h
 | _::_,[],_,h=>by simp [qg] at h
 | _::_,_::_,[],h=>by simp [qg] at h
 | l::ls,x::xs,y::ys,h=>by
   simp only [qg] at h;split at h
   . rename_i hl;rw [Va hl,jV h]
   . cases h
   cases h
theorem qb4 {ks:KS} {a b:Value} (h:eqK ks a b=some true):a=b:=by
 unfold eqK at h;split at h
 . have:=jV h;rename_i xs ys;rw [show xs=ys from Array.toList_inj.1 this]
 . exact Va h
 cases h
theorem JD {l:Leaf} {a b:Value} (h:zG l a b=some true) (n:Nat):Instr.sameBits n a b=true:=by have e:=Va h;subst e;cases l <;> cases a <;> simp only [zG,reduceCtorEq] at h <;> simp [Instr.sameBits,qcY]
theorem Yz : ∀ {ls : List Leaf} {xs ys : List Value},qg ls xs ys = some true -> ∀ n,((xs.zip ys).all fun (x,y) => Instr.sameBits n x y) = true
 | [],[],[],_,n=>rfl
 | [],_::_,_,h,n=>by simp [qg] at h
 | [],[],_::_,h,n=>by simp [qg] at h
 | _::_,[],_,h,n=>by simp [qg] at h
 | _::_,_::_,[],h,n=>by simp [qg] at h
 | l::ls, x::xs, y::ys, h, n=>by
   simp only [qg] at h;split at h
   . rename_i hl;have:=Yz h n;simp [List.all_cons,JD hl n,this]
   . cases h
   cases h
theorem Yx {ks:KS} {a b:Value} (h:eqK ks a b=some true) {P:Program} (w:World):(Instr.keyThatStays a b).run P w = .ok b w:=by
 have:Instr.sameBits 10000 a b=true:=by
  unfold eqK at h;split at h
  . rename_i xs ys;have hs:=Yz h 9999;have e:=jV h;show (xs.size==ys.size&&((xs.toList.zip ys.toList).all fun (x,y)=>Instr.sameBits 9999 x y))=true;rw [hs,show xs=ys from Array.toList_inj.1 e];simp
  . exact JD h _
  cases h
 simp [Instr.keyThatStays,this]
theorem Zt:∀ {l1 l2:List Leaf} {xs:List Value},qg (l1++l2) xs xs=some true->qg l1 (xs.take l1.length) (xs.take l1.length)=some true/\qg l2 (xs.drop l1.length) (xs.drop l1.length)=some true:=fun {l1 l2 xs} h=>by
 obtain ⟨z1,h1,h2,h3⟩:=Q9 h;cases z1 with
 | false=>exact absurd (h2 rfl) (by simp)
 | true=>exact ⟨h1,h3 rfl⟩
theorem JC {P : Program} {bb : Bool} {d : Nat} {e : TypeId} {ls : List Leaf} {dd : Nat} (hp : Je P dd e ls) (hchk : ∀ (w : World) (v : Value),eqK (Zb (P.underlying e),ls) v v = some true -> (Instr.checkKey bb d e v).run P w = .ok () w) {sz : Nat} (hsz : sz = ls.length) (hs : ∀ w,(sizeOf e).run P w = .ok sz w) (xs : Array Value) (w : World) : ∀ (k j : Nat),
 qg (qhc k ls) (xs.toList.drop (j*ls.length)) (xs.toList.drop (j*ls.length))=some true ->
 (forIn (List.range' j k) PUnit.unit (fun i _=>do Instr.checkKey bb d e (<-part e xs (i*(<-sizeOf e)));pure (ForInStep.yield PUnit.unit)):Sem PUnit).run P w = .ok PUnit.unit w
 | 0,j,h=>by simp
 | k+1,j,h=>by simp only [qhc] at h;obtain ⟨h1,h2⟩:=Zt h;obtain ⟨agg,_,hpp⟩:=hp;obtain ⟨a,b,p1,p2,p3,p4⟩:=hpp w xs xs (j*ls.length) true h1;have hab:a=b:=qb4 p4;subst hab;rw [List.drop_drop,<-Nat.succ_mul] at h2;have ih:=JC ⟨agg,‹_›,hpp⟩ hchk hsz hs xs w k (j+1) h2;subst hsz;simp only [List.range'_succ,List.forIn_cons,Sem.run_bind,hs,Result.andThen_ok,p1,hchk w a p4,Sem.run_pure];exact ih
theorem jN {P : Program} {bb : Bool} {d dd : Nat} (xs : Array Value) (w : World) {n : Nat} (ih : ∀ t ls,Qr P n t = some ls -> Je P dd t ls) (hchk : ∀ t ls,Qr P n t = some ls -> ∀ (w : World) (v : Value),eqK (Zb (P.underlying t),ls) v v = some true -> (Instr.checkKey bb d t v).run P w = .ok () w) :
 ∀ (fs:List Field) (off:Nat) (ls:List Leaf),j8 P n fs off=some ls->qg ls (xs.toList.drop off) (xs.toList.drop off)=some true ->
 (forIn fs PUnit.unit (fun f _ => do
  if f.name ≠ "_" then Instr.checkKey bb d f.type (← part f.type xs f.offset); pure (ForInStep.yield PUnit.unit)
  else pure (ForInStep.yield PUnit.unit)):Sem PUnit).run P w = .ok PUnit.unit w
 | [],off,ls,h,hz=>by simp
 | f::fs, off, ls, h, hz=>by
   simp only [j8,JY] at h;split at h
   . rename_i l1 h1;split at h
     . rename_i hc;obtain ⟨rfl,hn⟩:=hc;simp only [Option.map_eq_some_iff] at h;obtain ⟨l2,h2,rfl⟩:=h;obtain ⟨k1,k2⟩:=Zt hz;obtain ⟨agg,_,hpp⟩:=ih _ _ h1;obtain ⟨a,b,p1,p2,p3,p4⟩:=hpp w xs xs f.offset true k1;have hab:a=b:=qb4 p4;subst hab;rw [List.drop_drop] at k2;have:=jN xs w ih hchk fs _ l2 h2 k2;simp only [List.forIn_cons,hn,ne_eq,not_false_eq_true,if_true,Sem.run_bind,p1,Result.andThen_ok,hchk _ _ h1 w a p4,Sem.run_pure];exact this
     cases h
   cases h
theorem Yw {P : Program} (bb : Bool) (d : Nat) : ∀ (n : Nat) (t : TypeId) (ls : List Leaf),Qr P n t = some ls -> ∀ (w : World) (v : Value),eqK (Zb (P.underlying t),ls) v v = some true -> (Instr.checkKey bb (d + n) t v).run P w = .ok () w
 | 0,t,ls,h=>by simp [Qr] at h
 | n+1, t, ls, h=>by
   intro w v hv;have ih:=fun t ls h=>(j9 (P:=P) 0 n t ls h).1;have ihc:=Yw (P:=P) bb d n;simp only [Qr] at h
   generalize hr : (match P.underlying t with
    | some (.int _)=>some [Leaf.int]
    | some .bool=>some [.bool]
    | some .string=>some [.str]
    | some (.array k e)=>(Qr P n e).map (qhc k)
    | some (.struct fs)=>if P.stoodInHeld t then none else j8 P n fs.toList 0
    | _=>none)=raw at h
   cases raw with
   | none=>simp [Y4] at h
   | some l =>
     simp only [Y4] at h;split at h
     . cases h;cases hu:P.underlying t with
       | none=>rw [hu] at hr;simp at hr
       | some de =>
         rw [hu] at hr hv;have whole:Zb (some de)=true->∃ xs:Array Value,v = .agg xs/\qg ls xs.toList xs.toList=some true:=fun hb=>by rw [hb] at hv;cases v <;> simp [eqK] at hv;exact ⟨_,rfl,hv⟩
         cases de with
         | int k=>simp [Instr.checkKey,run_underlying hu]
         | bool=>simp [Instr.checkKey,run_underlying hu]
         | string=>simp [Instr.checkKey,run_underlying hu]
         | array k e =>simp only [Option.map_eq_some_iff] at hr;obtain ⟨l1,h1,rfl⟩:=hr;obtain ⟨xs,rfl,hx⟩:=whole rfl;obtain ⟨agg1,hti,hpp⟩:=ih _ _ h1;have:=JC (bb:=bb) (d:=d+n) (P:=P) ⟨agg1,hti,hpp⟩ (ihc _ _ h1) rfl (fun w=>qf hti w) xs w k 0 (by simpa using hx);show (Instr.checkKey bb ((d+n)+1) t (.agg xs)).run P w=_;simp only [Instr.checkKey,Sem.run_bind,run_underlying hu,Result.andThen_ok];simp only [Std.Legacy.Range.forIn_eq_forIn_range',Std.Legacy.Range.size,Nat.sub_zero,Nat.add_one_sub_one,Nat.div_one];rw [this];rfl
         | struct fs =>
           simp only at hr;split at hr
           . cases hr
           obtain ⟨xs,rfl,hx⟩:=whole rfl;have:=jN (bb:=bb) (d:=d+n) (P:=P) xs w ih ihc fs.toList 0 ls hr (by simpa using hx);show (Instr.checkKey bb ((d+n)+1) t (.agg xs)).run P w=_;simp only [Instr.checkKey,Sem.run_bind,run_underlying hu,Result.andThen_ok];rw [<-Array.forIn_toList];rw [this];rfl
         | _=>simp at hr
     cases h
theorem QZ {P:Program} {t:TypeId} {ks:KS} (h:W9 P t=some ks) (bb:Bool) (w:World) {v:Value} (hv:eqK ks v v=some true):(Instr.checkKey bb 10000 t v).run P w = .ok () w:=by simp only [W9,Option.map_eq_some_iff] at h;obtain ⟨ls,h1,rfl⟩:=h;exact Yw bb 9992 8 t ls h1 w v hv
theorem QB {P : Program} {t : TypeId} {ks : KS} (h : W9 P t = some ks) (w : World) (k : Value) : ∀ (ents : List MapEntry) (es : List (Value × Nat × AV)) (i : Nat) (res : Option Nat),ents.map (·.key) = es.map (·.1) -> zi ks k es i = some res ->
 (Instr.findAsking t k ents i).run P w = .ok (res.map fun j=>(j,((ents[j - i]?).map (·.val)).getD undef)) w/\∀ j,res=some j->i<=j/\j<i+es.length
 | [],es,i,res,hk,hm=>by
   have:es=[]:=by cases es <;> simp_all
   subst this;simp [zi] at hm;subst hm;exact ⟨by simp [Instr.findAsking],fun j h=>by cases h⟩
 | e::ents,[],i,res,hk,hm=>by simp at hk
 | e::ents, x::es, i, res, hk, hm=>by
   simp only [List.map_cons,List.cons.injEq] at hk;obtain ⟨hk1,hk2⟩:=hk;simp only [zi] at hm;split at hm
   . rename_i he;cases hm;have:=Xs h w (a:=k) (b:=e.key) (by rw [hk1];exact he);refine ⟨by simp [Instr.findAsking,this],fun j hj=>?_⟩;cases hj;simp
   . rename_i he;have:=Xs h w (a:=k) (b:=e.key) (by rw [hk1];exact he);obtain ⟨h1,h2⟩:=QB h w k ents es (i+1) res hk2 hm;refine ⟨?_,fun j hj=>by have:=h2 j hj;simp;omega⟩;simp only [Instr.findAsking,Sem.run_bind,this,Result.andThen_ok,Bool.false_eq_true,if_false,h1];cases hr:res with
     | none=>rfl
     | some j =>have:=h2 j hr;simp only [Option.map_some];rw [show j - i=(j - (i+1))+1 by omega];simp
   cases hm
theorem V3 {P : Program} {t : TypeId} {ks : KS} {de : TypeDesc} (h : W9 P t = some ks) (hu : P.underlying t = some de) (k : Value) : ∀ (ents : List MapEntry) (es : List (Value × Nat × AV)) (i : Nat) (res : Option Nat), ents.map (·.key) = es.map (·.1) -> zi ks k es i = some res ->
 ∀ r,Instr.findNow de k ents i=some r->r=res.map fun j=>(j,((ents[j - i]?).map (·.val)).getD undef)
 | [],es,i,res,hk,hm,r,hr=>by
   have:es=[]:=by cases es <;> simp_all
   subst this;simp [zi] at hm;subst hm;simp [Instr.findNow] at hr;subst hr;rfl
 | e::ents,[],i,res,hk,hm,r,hr=>by simp at hk
 | e::ents, x::es, i, res, hk, hm, r, hr=>by
   have hq:∀ j,res=some j->i<=j:=fun j hj=>((QB h (World.settled P default) k (e::ents) (x::es) i res hk hm).2 j hj).1;simp only [List.map_cons,List.cons.injEq] at hk;obtain ⟨hk1,hk2⟩:=hk
   have agree : ∀ z, Instr.sameNow de k e.key = some z -> eqK ks k x.1 = some z := fun z hz => by
    rw [<-hk1]
    have hleaf:∃ l,ks=(false,[l])/\((l = .int/\∃ q,de = .int q)\/(l = .bool/\de = .bool)\/(l = .str/\de = .string)):=by
     simp only [W9,Option.map_eq_some_iff] at h;obtain ⟨ls,h1,rfl⟩:=h;simp only [Qr,hu,Y4] at h1;unfold Instr.sameNow at hz;split at hz <;> first | (cases hz;done) | skip
     all_goals
      simp only at h1;split at h1
      . cases h1
        first | exact ⟨.int,by rw [hu];rfl,.inl ⟨rfl,_,rfl⟩⟩ | exact ⟨.str,by rw [hu];rfl,.inr (.inr ⟨rfl,rfl⟩)⟩ | exact ⟨.bool,by rw [hu];rfl,.inr (.inl ⟨rfl,rfl⟩)⟩
      cases h1
    obtain ⟨l,rfl,hl⟩:=hleaf;rcases hl with ⟨rfl,q,rfl⟩ | ⟨rfl,rfl⟩ | ⟨rfl,rfl⟩ <;> (cases hkk:k <;> cases hek:e.key <;> rw [hkk,hek] at hz <;> simp only [Instr.sameNow,reduceCtorEq] at hz <;> simpa [eqK,zG] using hz)
   simp only [Instr.findNow] at hr;simp only [zi] at hm;split at hr
   . rename_i hs;rw [agree _ hs] at hm;cases hm;cases hr;simp
   . rename_i hs;rw [agree _ hs] at hm;have:=V3 h hu k ents es (i+1) res hk2 hm r hr;rw [this];cases hr':res with
     | none=>rfl
     | some j =>have h2:=((QB h (World.settled P default) k ents es (i+1) res hk2 hm).2 j hr').1;simp only [Option.map_some];rw [show j - i=(j - (i+1))+1 by omega];simp
   cases hr
theorem zB {P : Program} {t : TypeId} {ks : KS} (h : W9 P t = some ks) (w : World) (k : Value) (ents : List MapEntry) (es : List (Value × Nat × AV)) (res : Option Nat) (hk : ents.map (·.key) = es.map (·.1)) (hm : zi ks k es 0 = some res) :
 (Instr.findKey t k ents).run P w = .ok (res.map fun j=>(j,((ents[j]?).map (·.val)).getD undef)) w/\∀ j,res=some j->j<es.length:=by
 have hu:∃ de,P.underlying t=some de:=by
  cases hu:P.underlying t with
  | none=>simp [W9,Qr,hu,Y4] at h
  | some de=>exact ⟨de,rfl⟩
 obtain ⟨de,hu⟩:=hu;obtain ⟨h1,h2⟩:=QB h w k ents es 0 res hk hm;refine ⟨?_,fun j hj=>by have:=h2 j hj;omega⟩;simp only [Instr.findKey,Sem.run_bind,run_underlying hu,Result.andThen_ok];cases hf:Instr.findNow de k ents 0 with
 | none=>simpa using h1
 | some r =>have:=V3 h hu k ents es 0 res hk hm r hf;simp [this]
theorem Xd {ks : KS} {k : Value} : ∀ {es : List (Value × Nat × AV)} {i j : Nat},zi ks k es i = some (some j) -> ∃ e,es[j - i]? = some e /\ i <= j /\ eqK ks k e.1 = some true
 | [],i,j,h=>by simp [zi] at h
 | x::es, i, j, h=>by
   simp only [zi] at h;split at h
   . rename_i he;cases h;exact ⟨x,by simp,Nat.le_refl _,he⟩
   . obtain ⟨e,h1,h2,h3⟩:=Xd h;exact ⟨e,by rw [show j - i=(j - (i+1))+1 by omega];simpa using h1,by omega,h3⟩
   cases h
theorem Y2 {w:World} {c:Nat} {ob0 ob:Obj} (hcur:w.heap[c]?=some ob0) (hn0:ob0.isCells=false) (hn1:ob.isCells=false) (ad:Addr):(w.putObj c ob).cell? ad=w.cell? ad:=by
 have hlt:c<w.heap.size:=(Array.getElem?_eq_some_iff.1 hcur).1;by_cases e:ad.block=c
 . unfold World.cell?;rw [e,World.putObj_heap_same hlt,hcur];cases ob <;> cases ob0 <;> first | rfl | (simp [Obj.isCells] at hn0 hn1)
 exact World.cell?_of_block (World.putObj_heap_other e)
theorem HeapOK.putO {hp g w} (h : HeapOK hp g w) {id : Nat} {o o' : HObj} {c : Nat} {ob0 ob : Obj} (ho : hp id = some o) (hl : o.live = true) (hl' : o'.live = true) (hρ : g.ρ id = some (.blk c 0))
 (hcur:w.heap[c]?=some ob0) (hn0:ob0.isCells=false) (hn1:ob.isCells=false) (hrep:Trans w g (w.putObj c ob) g->(w.putObj c ob).heap[c]?=some ob->HRep (w.putObj c ob) g o' (.blk c 0)) :
 HeapOK (Hp.set hp id o') g (w.putObj c ob)/\Upd hp g w (Hp.set hp id o') g (w.putObj c ob):=by
 have hlt:c<w.heap.size:=(Array.getElem?_eq_some_iff.1 hcur).1
 have tr : Trans w g (w.putObj c ob) g := ⟨fun _ _ x => x,fun b q _ => Y2 hcur hn0 hn1 _,fun _ _ x => x,fun b a1 t1 f1 hb1 => by
  by_cases e:b=c
  . subst e;rw [hcur] at hb1;cases hb1;simp [Obj.isCells] at hn0
  exact ⟨a1,(World.putObj_heap_other e).trans hb1,rfl⟩,rfl,rfl,rfl,by simp,Nat.le_refl _⟩
 refine ⟨h.change (fun i=>i=id) tr (fun i hi=>Hp.set_other _ _ hi) (fun _ _=>rfl) (fun i o2 c' d' hi ho' hl2 hr'=>World.putObj_heap_other (fun e=>hi (h.inj i id o2 _ c d' 0 ho' ho hl2 hl (by rw [<-e];exact hr') hρ))) (fun _ _ _ _ _ _ _ _ _ hq=>hq) ?_ ?_ ?_,tr,?_,fun b q hs => .inl hs,fun b hb' hnl=>World.putObj_heap_other (fun e=>hnl (e ▸ ⟨id,_,0,ho,hl,hρ⟩))⟩
 . rintro i rfl;exact ⟨_,_,Hp.set_same _ _ _,hρ,hrep tr (World.putObj_heap_same hlt)⟩
 . rintro i i' o1 o2 c1 d1 d1' rfl ho1 ho1' hl1 hl2 hr1 hr1';by_cases e:i'=i
   . exact e.symm
   rw [Hp.set_other _ _ e] at ho1';exact h.inj i i' _ o2 c1 d1 d1' ho ho1' hl hl2 hr1 hr1'
 . intro b q hs;obtain ⟨v,hv⟩:=h.ex b q hs;exact ⟨v,(tr.cell b q hs).trans hv⟩
 rintro c1 ⟨i,o1,d1,ho1,hl1,hr1⟩;by_cases e:i=id
 . subst e;exact .inl ⟨i,_,d1,ho,hl,hr1⟩
 rw [Hp.set_other _ _ e] at ho1;exact .inl ⟨i,o1,d1,ho1,hl1,hr1⟩
theorem HeapOK.allocO {hp g w} (h : HeapOK hp g w) {id : Nat} (hn : hp id = none) (ob : Obj) (o : HObj) (hrep : Trans w g (w.alloc ob) (g.home id (.blk w.heap.size 0)) -> HRep (w.alloc ob) (g.home id (.blk w.heap.size 0)) o (.blk w.heap.size 0)) :
 HeapOK (Hp.set hp id o) (g.home id (.blk w.heap.size 0)) (w.alloc ob)/\Upd hp g w (Hp.set hp id o) (g.home id (.blk w.heap.size 0)) (w.alloc ob):=by
 have tr:=Trans.alloc_home h ob hn (.blk w.heap.size 0);refine ⟨h.change (fun i=>i=id) tr (fun i hi=>Hp.set_other _ _ hi) (fun i hi=>by simp [G.home,hi]) (fun i o c d hi ho hl hr'=>Below.heap_alloc _ _ _ (h.lt ho hl hr')) (fun i o c d hi ho hl hr' q hq=>hq) ?_ ?_ ?_,tr,?_,fun b q hs => .inl hs,fun b hb _=>Below.heap_alloc _ _ _ hb⟩
 . rintro i rfl;exact ⟨_,.blk w.heap.size 0,Hp.set_same _ _ _,by simp [G.home],hrep tr⟩
 . rintro i i' o1 o' c d d' rfl ho ho' hl hl' hr1 hr2;simp only [G.home] at hr1 hr2;simp at hr1;obtain ⟨rfl,rfl⟩:=hr1;by_cases e:i'=i
   . exact e.symm
   rw [Hp.set_other _ _ e] at ho';simp [e] at hr2;exact absurd (h.lt ho' hl' hr2) (Nat.lt_irrefl _)
 . intro b q hs;obtain ⟨v,hv⟩:=h.ex b q hs;exact ⟨v,(tr.cell b q hs).trans hv⟩
 rintro c ⟨i,o1,d,ho,hl,hr1⟩;by_cases e:i=id
 . subst e;simp [G.home] at hr1;exact .inr (by omega)
 rw [Hp.set_other _ _ e] at ho;simp [G.home,e] at hr1;exact .inl ⟨i,o1,d,ho,hl,hr1⟩
theorem J2 {hp g w} (h:HeapOK hp g w):∀ q,¬ g.S w.heap.size q:=fun q hs=>by obtain ⟨v,hv⟩:=h.ex _ _ hs;exact absurd (World.block_lt_of_cell? _ _ hv) (Nat.lt_irrefl _)
section
variable {P:Program} {o:Oper} {a:Act} {w:World} {g:G} {hp:Hp} {F:Nat->AV} {new:Nat} {r:AV} {ws:List (Nat × HObj)} {ro:Option Nat} {n:Nat}
theorem Qy {P:Program} {w:World} {l:Nat} {ob:Obj} {es clk} (h:w.heap[l]?=some (.map es clk)):(setObj l ob).run P w = .ok () (w.putObj l ob):=by simp [setObj,Sem.run,h,World.putObj]
theorem qC {P:Program} {w:World} {l:Nat} {es clk} (h:w.heap[l]?=some (.map es clk)):(getObj l).run P w = .ok (.map es clk) w:=by simp [getObj,Sem.run,h]
theorem Ju (hok : HeapOK hp g w) {id : Nat} {es : List (Value × Nat × AV)} {clk : Nat} {v : Value} (ho : hp id = some (.mp es clk)) (hr : Rep w g false (.mp id) v) :
 ∃ c ents,v = .map (some c) /\ g.ρ id = some (.blk c 0) /\ w.heap[c]? = some (.map ents clk) /\ ents.size = es.length /\ (∀ o,¬ g.S c o) /\ ents.toList.map (·.key) = es.map (·.1) /\
   ∀ i (h:i<es.length),∃ e,ents[i]?=some e/\e.key=es[i].1/\e.born=es[i].2.1/\Rep w g false es[i].2.2 e.val:=by
 cases hr with
 | mp _ c d hl =>obtain ⟨l,h1,h2⟩:=hok.rep id _ ho;rw [hl] at h1;cases h1;obtain ⟨ents,g1,g2,rfl,g4,g5⟩:=h2;refine ⟨c,ents,rfl,hl,g1,g2,g4,?_,g5⟩;refine List.ext_getElem (by simp [g2]) fun i hi hi'=>?_;simp at hi hi';obtain ⟨e,h3,h4,_⟩:=g5 i hi';obtain ⟨_,h5⟩:=Array.getElem?_eq_some_iff.1 h3;simp [h5,h4]
theorem qcb (hok : HeapOK hp g w) {id : Nat} {Φ : List (Value × Nat × AV) -> Nat -> Prop} (ho : hp id = some (.mpp Φ)) {v : Value} (hr : Rep w g false (.mp id) v) :
 ∃ es clk,Φ es clk/\HeapOK (Hp.set hp id (.mp es clk)) g w/\Upd hp g w (Hp.set hp id (.mp es clk)) g w:=by
 cases hr with
 | mp _ c d hl =>
   obtain ⟨l,h1,h2⟩:=hok.rep id _ ho;rw [hl] at h1;cases h1;obtain ⟨es,clk,hΦ,h2⟩:=h2;refine ⟨es,clk,hΦ,⟨fun i hi=>?_,fun i o hi=>?_,fun i i' o o' c d d' hi hi' hl1 hl2 hr1 hr2=>?_,hok.ex,hok.tab⟩,⟨.refl w g,fun c hc=>?_,fun _ _ h => .inl h,fun _ _ _=>rfl⟩⟩
   . by_cases e : i = id
     . subst e;rw [Hp.set_same] at hi;cases hi
     rw [Hp.set_other _ _ e] at hi;exact hok.dom i hi
   . by_cases e : i = id
     . subst e;rw [Hp.set_same] at hi;cases hi;exact ⟨_,hl,h2⟩
     rw [Hp.set_other _ _ e] at hi;exact hok.rep i o hi
   . have old : ∀ {j oj},Hp.set hp id (.mp es clk) j = some oj -> oj.live = true -> ∃ oj',hp j = some oj' /\ oj'.live = true := fun {j oj} hj hlv => by
      by_cases e:j=id
      . subst e;exact ⟨_,ho,rfl⟩
      rw [Hp.set_other _ _ e] at hj;exact ⟨oj,hj,hlv⟩
     obtain ⟨x,x1,x2⟩:=old hi hl1;obtain ⟨y,y1,y2⟩:=old hi' hl2;exact hok.inj i i' x y c d d' x1 y1 x2 y2 hr1 hr2
   obtain ⟨i,o,d,hi,hlv,hr1⟩:=hc;by_cases e:i=id
   . subst e;exact .inl ⟨i,_,d,ho,rfl,hr1⟩
   rw [Hp.set_other _ _ e] at hi;exact .inl ⟨i,o,d,hi,hlv,hr1⟩
theorem qn3 {t:TypeId} {d} (ho:o.op = .makeMap t none) (hok:HeapOK hp g w) (hn:hp new=none) (hs:(AOp.mkm d).sem P (evF F) hp new r ws):VRun P o a w (Post hp g w r ws):=by obtain ⟨rfl,rfl⟩:=hs;obtain ⟨s1,s2⟩:=hok.allocO hn (.map #[] 0) (.mp [] 0) (fun tr=>⟨#[],qO _ _,rfl,rfl,fun q h=>J2 hok q h,fun i hi=>by simp at hi⟩);refine .of (v := .map (some w.heap.size)) (w':=w.alloc (.map #[] 0)) ?_ ⟨_,.mp _ _ 0 (by simp [G.home]),s1,s2⟩;simp [execOp,ho,Instr.makeMap,newObj,Sem.run]
theorem Jd {x:Operand} {y:Opd} (h1:opd x=some y) (hF:FrOK w g F a) {kv:Value} (hk:(evF F y).val=some kv):a.eval x=kv:=qby hk (qi hF h1)
theorem qnZ {t kt e : TypeId} {m k : Operand} {ok : Bool} {ks : KS} {zv : Value} {y1 y2 : Opd} {d} (ho : o.op = .lookup t m k ok) (hu : P.underlying t = some (.map kt e)) (hks : W9 P kt = some ks) (hz : ∀ w,(zeroValue e).run P w = .ok zv w)
 (h1:opd m=some y1) (h2:opd k=some y2) (hF:FrOK w g F a) (hok:HeapOK hp g w) (hs:(AOp.lku d ks (AV.ofValue zv) ok y1 y2).sem P (evF F) hp new r ws):VRun P o a w (Post hp g w r ws):=by
 have e1:=qi hF h1;simp only [AOp.sem] at hs;split at hs
 . rename_i id hid;split at hs
   . rename_i es clk hes;obtain ⟨kv,hkv,hself,rfl,hs⟩:=hs;rw [hid] at e1;obtain ⟨c,ents,hv,hρ,hb,hsz,hnS,hkeys,hents⟩:=Ju hok hes e1;have hk:=Jd h2 hF hkv;have hchk:=QZ hks ents.isEmpty w hself;rcases hs with ⟨i,x,hm,hx,rfl⟩ | ⟨hm,rfl⟩
     . obtain ⟨hf,hlt⟩ := zB hks w kv ents.toList es _ hkeys hm;obtain ⟨hi,rfl⟩:=List.getElem?_eq_some_iff.1 hx;obtain ⟨en,q1,q2,q3,q4⟩:=hents i hi;have hval:((ents.toList[i]?).map (·.val)).getD undef=en.val:=by simp [q1]
       cases ok with
       | false =>refine .of (v:=en.val) (w':=w) ?_ (.nil hok q4);simp [execOp,ho,hv,hk,Instr.lookup,run_underlying hu,qC hb,hchk,hf,hval,q1]
       | true =>
         refine .of (v := .tuple #[en.val,.bool true]) (w':=w) ?_ (.nil hok ?_)
         . simp [execOp,ho,hv,hk,Instr.lookup,run_underlying hu,qC hb,hchk,hf,hval,q1]
         exact .tup _ _ [en.val,.bool true] rfl (fun j hj => by
          match j,hj with
          | 0,_=>exact q4
          | 1,_=>exact .v _ _)
     obtain ⟨hf,_⟩:=zB hks w kv ents.toList es _ hkeys hm;cases ok with
     | false =>refine .of (v:=zv) (w':=w) ?_ (.nil hok (zM _ _ _ _));simp [execOp,ho,hv,hk,Instr.lookup,run_underlying hu,qC hb,hchk,hf,hz]
     | true =>
       refine .of (v := .tuple #[zv,.bool false]) (w':=w) ?_ (.nil hok ?_)
       . simp [execOp,ho,hv,hk,Instr.lookup,run_underlying hu,qC hb,hchk,hf,hz]
       exact .tup _ _ [zv,.bool false] rfl (fun j hj => by
        match j,hj with
        | 0,_=>exact zM _ _ _ _
        | 1,_=>exact .v _ _)
   . rename_i Φ hes;obtain ⟨rfl,kv,hkv,hself,rfl,hs⟩:=hs;rw [hid] at e1;obtain ⟨es,clk,hΦ,hok2,_⟩:=qcb hok hes e1;have hs:=hs es clk hΦ;obtain ⟨c,ents,hv,hρ,hb,hsz,hnS,hkeys,hents⟩:=Ju hok2 (Hp.set_same _ _ _) e1;have hk:=Jd h2 hF hkv;have hchk:=QZ hks ents.isEmpty w hself;rcases hs with ⟨i,x,hm,hx,rfl⟩ | ⟨hm,rfl⟩
     . obtain ⟨hf,hlt⟩ := zB hks w kv ents.toList es _ hkeys hm;obtain ⟨hi,rfl⟩:=List.getElem?_eq_some_iff.1 hx;obtain ⟨en,q1,q2,q3,q4⟩:=hents i hi;have hval:((ents.toList[i]?).map (·.val)).getD undef=en.val:=by simp [q1]
       refine .of (v := .tuple #[en.val,.bool true]) (w':=w) ?_ (.nil hok ?_)
       . simp [execOp,ho,hv,hk,Instr.lookup,run_underlying hu,qC hb,hchk,hf,hval,q1]
       exact .tup _ _ [en.val,.bool true] rfl (fun j hj => by
        match j,hj with
        | 0,_=>exact q4
        | 1,_=>exact .v _ _)
     obtain ⟨hf,_⟩:=zB hks w kv ents.toList es _ hkeys hm;refine .of (v := .tuple #[zv,.bool false]) (w':=w) ?_ (.nil hok ?_)
     . simp [execOp,ho,hv,hk,Instr.lookup,run_underlying hu,qC hb,hchk,hf,hz]
     exact .tup _ _ [zv,.bool false] rfl (fun j hj => by
      match j,hj with
      | 0,_=>exact zM _ _ _ _
      | 1,_=>exact .v _ _)
   exact hs.elim
 exact hs.elim
theorem XZ {w' : World} {es : List (Value × Nat × AV)} {ents : Array MapEntry} (hsz : ents.size = es.length) (tr : Trans w g w' g)
 (hents:∀ i (h:i<es.length),∃ e,ents[i]?=some e/\e.key=es[i].1/\e.born=es[i].2.1/\Rep w g false es[i].2.2 e.val) (kv:Value) (clk:Nat) (x:AV) (v:Value) (hr:Rep w g false x v) :
 (ents.push { key:=kv,val:=v,born:=clk }).size=(es++[(kv,clk,x)]).length /\
 ∀ i (h:i<(es++[(kv,clk,x)]).length),∃ e,(ents.push { key:=kv,val:=v,born:=clk })[i]?=some e/\e.key=(es++[(kv,clk,x)])[i].1/\e.born=(es++[(kv,clk,x)])[i].2.1/\Rep w' g false (es++[(kv,clk,x)])[i].2.2 e.val:=by
 refine ⟨by simp [hsz],fun i hi=>?_⟩;simp at hi;by_cases e:i<es.length
 . obtain ⟨en,q1,q2,q3,q4⟩:=hents i e;refine ⟨en,?_,by rw [List.getElem_append_left e];exact ⟨q2,q3,q4.mono tr⟩⟩;rw [Array.getElem?_push,if_neg (by omega)];exact q1
 have:i=es.length:=by omega
 subst this;refine ⟨{ key:=kv,val:=v,born:=clk },by rw [Array.getElem?_push,if_pos (by omega)],?_⟩;simp;exact hr.mono tr
theorem qb3 {w' : World} {es : List (Value × Nat × AV)} {ents : Array MapEntry} (hsz : ents.size = es.length) (tr : Trans w g w' g)
 (hents:∀ i (h:i<es.length),∃ e,ents[i]?=some e/\e.key=es[i].1/\e.born=es[i].2.1/\Rep w g false es[i].2.2 e.val) {j:Nat} {en:Value × Nat × AV} (hj:es[j]?=some en) (x:AV) (v:Value) (hr:Rep w g false x v)
 {f:MapEntry->MapEntry} (hf:∀ e,e.key=en.1->f e={ key:=en.1,val:=v,born:=e.born }) :
 (ents.modify j f).size=(es.set j (en.1,en.2.1,x)).length /\
 ∀ i (h:i<(es.set j (en.1,en.2.1,x)).length),∃ e,(ents.modify j f)[i]?=some e/\e.key=(es.set j (en.1,en.2.1,x))[i].1/\e.born=(es.set j (en.1,en.2.1,x))[i].2.1/\Rep w' g false (es.set j (en.1,en.2.1,x))[i].2.2 e.val:=by
 refine ⟨by simp [hsz],fun i hi=>?_⟩;simp at hi;obtain ⟨e0,q1,q2,q3,q4⟩:=hents i hi;rw [Array.getElem?_modify];by_cases e:j=i
 . subst e;have:es[j]=en:=by have:=(List.getElem?_eq_some_iff.1 hj).2;exact this
   rw [this] at q2 q3;refine ⟨f e0,by rw [if_pos rfl,q1];rfl,?_⟩;rw [hf e0 q2];simp;exact ⟨q3,hr.mono tr⟩
 rw [if_neg e];refine ⟨e0,q1,?_⟩;simp [List.getElem_set_ne e];exact ⟨q2,q3,q4.mono tr⟩
theorem qcp {c:Nat} {ob:Obj} (h:w.heap[c]?=some ob):w.putObj c ob=w:=by
 have hlt:c<w.heap.size:=(Array.getElem?_eq_some_iff.1 h).1;simp only [World.putObj]
 have:w.heap.setIfInBounds c ob=w.heap:=by
  apply Array.ext_getElem?;intro j;by_cases e:j=c
  . subst e;rw [h];simp [hlt]
  rw [Array.getElem?_setIfInBounds_ne (Ne.symm e)]
 rw [this]
theorem Vk (hok : HeapOK hp g w) {id : Nat} {es es' : List (Value × Nat × AV)} {clk clk' : Nat} (ho : hp id = some (.mp es clk)) {c : Nat} (hρ : g.ρ id = some (.blk c 0)) {ents ents' : Array MapEntry} (hb : w.heap[c]? = some (.map ents clk)) (hnS : ∀ o,¬ g.S c o)
 (he:Trans w g (w.putObj c (.map ents' clk')) g->ents'.size=es'.length/\∀ i (h:i<es'.length),∃ e,ents'[i]?=some e/\e.key=es'[i].1/\e.born=es'[i].2.1/\Rep (w.putObj c (.map ents' clk')) g false es'[i].2.2 e.val) :
 HeapOK (Hp.write hp [(id,.mp es' clk')]) g (w.putObj c (.map ents' clk'))/\Upd hp g w (Hp.write hp [(id,.mp es' clk')]) g (w.putObj c (.map ents' clk')) :=
 hok.putO ho rfl rfl hρ hb rfl rfl (fun tr hh=>⟨ents',hh,(he tr).1,rfl,hnS,(he tr).2⟩)
theorem qgG {t kt e : TypeId} {m k v : Operand} {ks : KS} {y1 y2 y3 : Opd} (ho : o.op = .insert t m k v \/ o.op = .mapUpdate t m k v) (hu : P.underlying t = some (.map kt e)) (hks : W9 P kt = some ks)
 (h1:opd m=some y1) (h2:opd k=some y2) (h3:opd v=some y3) (hF:FrOK w g F a) (hok:HeapOK hp g w) (hs:(AOp.ins ks y1 y2 y3).sem P (evF F) hp new r ws):∃ w',(execOp a.eval o).run P w = .ok .skip w'/\Post hp g w r ws undef w':=by
 have e1:=qi hF h1;have e3:=qi hF h3;simp only [AOp.sem] at hs;split at hs
 . rename_i id hid;split at hs
   . rename_i es clk hes;obtain ⟨kv,hkv,hself,rfl,hs⟩:=hs;rw [hid] at e1;obtain ⟨c,ents,hv,hρ,hb,hsz,hnS,hkeys,hents⟩:=Ju hok hes e1;have hk:=Jd h2 hF hkv;have hchk:=QZ hks false w hself
     have fin:∀ {ws w'},(Instr.mapUpdate t (a.eval m) (a.eval k) (a.eval v)).run P w = .ok () w'->HeapOK (Hp.write hp ws) g w'/\Upd hp g w (Hp.write hp ws) g w'->∃ w',(execOp a.eval o).run P w = .ok .skip w'/\Post hp g w .any ws undef w':=fun {ws w'} hr hh =>
      ⟨w',by rcases ho with ho | ho <;> simp [execOp,ho,hr],g,.any _ _,hh.1,hh.2⟩
     rcases hs with ⟨i,x,hm,hx,rfl⟩ | ⟨hm,rfl⟩
     . obtain ⟨hf,hlt⟩:=zB hks w kv ents.toList es _ hkeys hm;obtain ⟨hi,hxe⟩:=List.getElem?_eq_some_iff.1 hx;obtain ⟨en,q1,q2,q3,q4⟩:=hents i hi;rw [hxe] at q2;obtain ⟨x',hx',_,heq⟩:=Xd hm;simp at hx';rw [hx] at hx';cases hx';have hkx:=qb4 heq;subst hkx;have hst:=Yx (P:=P) heq w;refine fin (w':=w.putObj c (.map (ents.modify i fun e=>{ e with key:=x.1,val:=a.eval v }) clk)) ?_ (Vk hok hes hρ hb hnS (fun tr=>qb3 hsz tr hents hx (evF F y3) (a.eval v) e3 (fun e he=>rfl)));simp [hv,hk,Instr.mapUpdate,run_underlying hu,qC hb,hchk,hf,q1,q2,hst,Qy hb]
     obtain ⟨hf,_⟩:=zB hks w kv ents.toList es _ hkeys hm;refine fin (w':=w.putObj c (.map (ents.push { key:=kv,val:=a.eval v,born:=clk }) (clk+1))) ?_ (Vk hok hes hρ hb hnS (fun tr=>XZ hsz tr hents kv clk (evF F y3) (a.eval v) e3));simp [hv,hk,Instr.mapUpdate,run_underlying hu,qC hb,hchk,hf,Qy hb]
   exact hs.elim
 exact hs.elim
theorem qn5 {t kt e : TypeId} {m k : Operand} {ks : KS} {zv : Value} {y1 y2 : Opd} {d} (ho : o.op = .mapEntry t m k) (hu : P.underlying t = some (.map kt e)) (hks : W9 P kt = some ks) (hz : ∀ w, (zeroValue e).run P w = .ok zv w)
 (h1:opd m=some y1) (h2:opd k=some y2) (hF:FrOK w g F a) (hok:HeapOK hp g w) (hs:(AOp.mpe d ks (AV.ofValue zv) y1 y2).sem P (evF F) hp new r ws):VRun P o a w (Post hp g w r ws):=by
 have e1:=qi hF h1;simp only [AOp.sem] at hs;split at hs
 . rename_i id hid;split at hs
   . rename_i es clk hes;obtain ⟨kv,hkv,hself,hs⟩:=hs;rw [hid] at e1;obtain ⟨c,ents,hv,hρ,hb,hsz,hnS,hkeys,hents⟩:=Ju hok hes e1;have hk:=Jd h2 hF hkv;have hchk:=QZ hks false w hself
     have tup : ∀ {w' : World} {x : AV} {u : Value} {b : Nat},Rep w' g false x u -> Rep w' g false (.tup [x,I b]) (.tuple #[u,.int .i64 b]) := fun {w' x u b} h => .tup _ _ [u,.int .i64 b] rfl (fun j hj => by
      match j,hj with
      | 0,_=>exact h
      | 1,_=>exact .v _ _)
     rcases hs with ⟨i,x,hm,hx,rfl,rfl⟩ | ⟨hm,rfl,rfl⟩
     . obtain ⟨hf,hlt⟩ := zB hks w kv ents.toList es _ hkeys hm;obtain ⟨hi,hxe⟩:=List.getElem?_eq_some_iff.1 hx;obtain ⟨en,q1,q2,q3,q4⟩:=hents i hi;rw [hxe] at q2 q3 q4;obtain ⟨x',hx',_,heq⟩:=Xd hm;simp at hx';rw [hx] at hx';cases hx';have hkx:=qb4 heq;subst hkx;have hst:=Yx (P:=P) heq w
       have hsame : ents.modify i (fun e => { e with key := x.1 }) = ents := by
        apply Array.ext_getElem?;intro j;rw [Array.getElem?_modify];by_cases e:i=j
        . subst e;rw [if_pos rfl,q1];simp [<-q2]
        rw [if_neg e]
       have hrun:(Instr.mapEntry t (a.eval m) (a.eval k)).run P w = .ok (.tuple #[en.val,.int .i64 (en.born:Nat)]) w:=by simp [hv,hk,Instr.mapEntry,run_underlying hu,qC hb,hchk,hf,q1,q2,hst,Qy hb,hsame,qcp hb,goInt]
       refine .of (by simp [execOp,ho,hrun];rfl) (.nil hok ?_);rw [q3];exact tup q4
     obtain ⟨hf,_⟩:=zB hks w kv ents.toList es _ hkeys hm;have hput:=Vk (ents':=ents.push { key:=kv,val:=zv,born:=clk }) (clk':=clk+1) hok hes hρ hb hnS (fun tr=>XZ hsz tr hents kv clk (AV.ofValue zv) zv (zM _ _ _ _));have hrun:(Instr.mapEntry t (a.eval m) (a.eval k)).run P w = .ok (.tuple #[zv,.int .i64 (clk:Nat)]) (w.putObj c (.map (ents.push { key:=kv,val:=zv,born:=clk }) (clk+1))):=by simp [hv,hk,Instr.mapEntry,run_underlying hu,qC hb,hchk,hf,hz,Qy hb,goInt]
     exact .of (by simp [execOp,ho,hrun]) ⟨g,tup (zM _ _ _ _),hput.1,hput.2⟩
   exact hs.elim
 exact hs.elim
theorem Yq {b : Nat} : ∀ {ents : List MapEntry} {es : List (Value × Nat × AV)} {i : Nat},ents.map (·.born) = es.map (·.2.1) -> es.findIdx? (fun x => x.2.1 == b) = some i -> ents.findIdx? (fun e => (e.born : Int) == (b : Int)) = some i
 | [],es,i,h,hf=>by
   have:es=[]:=by cases es <;> simp_all
   subst this;simp at hf
 | e::ents,[],i,h,hf=>by simp at h
 | e::ents, x::es, i, h, hf=>by
   simp only [List.map_cons,List.cons.injEq] at h;rw [List.findIdx?_cons] at hf ⊢;have:((e.born:Int)==(b:Int))=(x.2.1==b):=by rw [h.1,Bool.eq_iff_iff];simp;omega
   rw [this];by_cases hc:(x.2.1==b)=true
   . rw [if_pos hc] at hf ⊢;exact hf
   rw [if_neg hc] at hf ⊢;simp only [Option.map_eq_some_iff] at hf ⊢;obtain ⟨j,hj,rfl⟩:=hf;exact ⟨j,Yq h.2 hj,rfl⟩
theorem qnS {t : TypeId} {m s v : Operand} {y1 y2 y3 : Opd} (ho : o.op = .entryStore t m s v)
 (h1:opd m=some y1) (h2:opd s=some y2) (h3:opd v=some y3) (hF:FrOK w g F a) (hok:HeapOK hp g w) (hs:(AOp.est y1 y2 y3).sem P (evF F) hp new r ws):∃ w',(execOp a.eval o).run P w = .ok .skip w'/\Post hp g w r ws undef w':=by
 have e1:=qi hF h1;have e2:=qi hF h2;have e3:=qi hF h3;simp only [AOp.sem] at hs;split at hs
 . rename_i id hid;split at hs
   . rename_i es clk hes;obtain ⟨i,x,hst,hfi,hx,rfl,rfl⟩:=hs;rw [hid] at e1;rw [hst] at e2;have e2':=zu e2;obtain ⟨c,ents,hv,hρ,hb,hsz,hnS,hkeys,hents⟩:=Ju hok hes e1;have hborn:ents.toList.map (·.born)=es.map (·.2.1):=by refine List.ext_getElem (by simp [hsz]) fun i hi hi'=>?_;simp at hi hi';obtain ⟨e,h3,_,h4,_⟩:=hents i hi';obtain ⟨_,h5⟩:=Array.getElem?_eq_some_iff.1 h3;simp [h5,h4]
     have hidx:=Yq hborn hfi;have hidx':ents.findIdx? (fun e=>(e.born:Int)==(x.2.1:Int))=some i:=by rw [show ents=ents.toList.toArray by simp,List.findIdx?_toArray];exact hidx
     have hput:=Vk (ents':=ents.modify i fun e=>{ e with val:=a.eval v }) (clk':=clk) hok hes hρ hb hnS (fun tr=>qb3 hsz tr hents hx (evF F y3) (a.eval v) e3 (fun e he=>by rw [<-he]));refine ⟨_,?_,g,.any _ _,hput.1,hput.2⟩;simp [execOp,ho,hv,e2',Instr.entryStore,qC hb,asInt,asIntOf,hidx',Qy hb]
   exact hs.elim
 exact hs.elim
theorem qnQ {c : Call} {x y} {ats : Array TypeId} {t kt e : TypeId} {ks : KS} {y1 y2 : Opd} (ho : o.op = .call c) (hc : c = { callee := .builtin .delete, args := #[x, y], argTypes := ats }) (hats : ats[0]? = some t) (hu : P.underlying t = some (.map kt e)) (hks : W9 P kt = some ks)
 (h1:opd x=some y1) (h2:opd y=some y2) (hF:FrOK w g F a) (hok:HeapOK hp g w) (hs:(AOp.del ks y1 y2).sem P (evF F) hp new r ws):VRun P o a w (Post hp g w r ws):=by
 have e1:=qi hF h1;subst hc;simp only [AOp.sem] at hs;split at hs
 . rename_i id hid;split at hs
   . rename_i es clk hes;obtain ⟨kv,hkv,hself,rfl,hs⟩:=hs;rw [hid] at e1;obtain ⟨c,ents,hv,hρ,hb,hsz,hnS,hkeys,hents⟩:=Ju hok hes e1;have hk:=Jd h2 hF hkv;have hchk:=QZ hks ents.isEmpty w hself;rcases hs with ⟨i,hm,rfl⟩ | ⟨hm,rfl⟩
     . obtain ⟨hf,hlt⟩ := zB hks w kv ents.toList es _ hkeys hm;have hlt':=hlt i rfl
       have hput := Vk (es' := es.eraseIdx i) (ents' := ents.eraseIdxIfInBounds i) (clk' := clk) hok hes hρ hb hnS (fun tr => by
        have hlt2:i<ents.size:=by omega
        have e0:ents.eraseIdxIfInBounds i=(ents.toList.eraseIdx i).toArray:=by simp [Array.eraseIdxIfInBounds,hlt2];apply Array.ext';simp
        refine ⟨by rw [e0];simp [List.length_eraseIdx,hsz,hlt'],fun j hj=>?_⟩;rw [List.length_eraseIdx,if_pos hlt'] at hj;have e1:(ents.eraseIdxIfInBounds i)[j]?=if j<i then ents.toList[j]? else ents.toList[j+1]?:=by rw [e0,List.getElem?_toArray,List.getElem?_eraseIdx]
        rw [e1];by_cases h:j<i
        . obtain ⟨en,q1,q2,q3,q4⟩:=hents j (by omega);refine ⟨en,by rw [if_pos h];simpa using q1,?_⟩;simp only [List.getElem_eraseIdx,h,dite_true];exact ⟨q2,q3,q4.mono tr⟩
        obtain ⟨en,q1,q2,q3,q4⟩:=hents (j+1) (by omega);refine ⟨en,by rw [if_neg h];simpa using q1,?_⟩;simp only [List.getElem_eraseIdx,h,dite_false];exact ⟨q2,q3,q4.mono tr⟩)
       refine .of (v := .tuple #[]) ?_ ⟨g,.any _ _,hput.1,hput.2⟩;simp [execOp,ho,resolve,invoke,builtin,hv,hk,Builtin.delete_,hats,run_underlying hu,qC hb,hchk,hf,Qy hb]
     obtain ⟨hf,_⟩:=zB hks w kv ents.toList es _ hkeys hm;refine .of (v := .tuple #[]) (w':=w) ?_ (.nil hok (.any _ _));simp [execOp,ho,resolve,invoke,builtin,hv,hk,Builtin.delete_,hats,run_underlying hu,qC hb,hchk,hf,Qy hb,qcp hb]
   exact hs.elim
 exact hs.elim
theorem qdC {op:BinOp} {ty:TypeId} {x y:Operand} {u v:Value} (h0:¬ (u = .nilIface/\v = .nilIface)) (hgd:P.eqGuardType P.depth ty=false):(eqGuard op ty x y u v).run P w = .ok () w:=by
 have key : (match u,v with
  | .nilIface,.nilIface => (do
    if (x matches .const _) || (y matches .const _) then return
    if ← Op.eqGuardIn Op.maxDepth ty u v then unsupported (.noEntry "binop/eql: two nil values of an interface type with methods, neither of them the literal nil") : Sem Unit)
  | .agg _,.agg _ => (do
    if !(<-program).eqGuardType (<-program).depth ty then return
    if ← Op.eqGuardIn Op.maxDepth ty u v then unsupported (.noEntry "binop/eql: two nil values of an interface type with methods, in a part of a struct or an array"))
  | _,_=>pure ()).run P w = .ok () w:=by
  split
  . exact absurd ⟨rfl,rfl⟩ h0
  . simp [run_program,hgd]
  rfl
 unfold eqGuard
 cases op <;> first
  | rfl
  | (simp only [Bool.not_true,Bool.false_eq_true,if_false];exact key)
theorem qgF {op ty x y ty'} {ks : KS} {y1 y2 : Opd} {d} {neg : Bool} (ho : o.op = .binOp op ty x y ty') (hop : op = if neg then .neq else .eql) (hks : W9 P ty = some ks) (hkk : (ks.1 || ks.2 == [.bool]) = true) (hgd : P.eqGuardType P.depth ty = false) (h1 : opd x = some y1) (h2 : opd y = some y2) (hF : FrOK w g F a) (hok : HeapOK hp g w)
 (hs:(AOp.eqk d neg ks y1 y2).sem P (evF F) hp new r ws):VRun P o a w (Post hp g w r ws):=by
 obtain ⟨u,v,z,hu,hv,hz,rfl,rfl⟩:=hs;have e1:=Jd h1 hF hu;have e2:=Jd h2 hF hv;have he:=Xs hks w hz
 have hg : ∀ op,(eqGuard op ty x y u v).run P w = .ok () w := fun op => by
  have h0 : ¬ (u = .nilIface /\ v = .nilIface) := fun ⟨h1, h2⟩ => by
   subst h1 h2;obtain ⟨b,ls⟩:=ks;cases b
   . cases ls with
     | nil=>simp [eqK] at hz
     | cons l ls=>cases ls with
       | nil=>cases l <;> simp [eqK,zG] at hz
       | cons _ _=>simp [eqK] at hz
   simp [eqK] at hz
  exact qdC h0 hgd
 refine .of (v := .bool (neg != z)) (w':=w) ?_ (.nil hok (.v _ _));have hz':(Op.equalIn Op.maxDepth ty u v).run P w = .ok z w:=he
 have huv:((∃ xs,u = .agg xs)/\∃ ys,v = .agg ys)\/((∃ b,u = .bool b)/\∃ b,v = .bool b):=by
  obtain ⟨b,ls⟩:=ks;cases b with
  | true=>cases u <;> cases v <;> simp [eqK] at hz;exact .inl ⟨⟨_,rfl⟩,_,rfl⟩
  | false =>
    have:ls=[.bool]:=by simpa using hkk
    subst this;cases u <;> cases v <;> simp [eqK,zG] at hz;exact .inr ⟨⟨_,rfl⟩,_,rfl⟩
 have b1:binOp .eql ty u v=(do pure (Value.bool (<-Op.equal ty u v))):=by rcases huv with ⟨⟨xs,rfl⟩,ys,rfl⟩ | ⟨⟨b,rfl⟩,b',rfl⟩ <;> rfl
 have b2:binOp .neq ty u v=(do pure (Value.bool (!(<-Op.equal ty u v)))):=by rcases huv with ⟨⟨xs,rfl⟩,ys,rfl⟩ | ⟨⟨b,rfl⟩,b',rfl⟩ <;> rfl
 cases neg <;> subst hop
 . have:(binOp .eql ty u v).run P w = .ok (.bool z) w:=by rw [b1];simp [he]
   simp [execOp,ho,e1,e2,hg,this]
 have:(binOp .neq ty u v).run P w = .ok (.bool !z) w:=by rw [b2];simp [he]
 simp [execOp,ho,e1,e2,hg,this]
end
section
variable {P:Program} {o:Oper} {a:Act} {w:World} {g:G} {hp:Hp} {F:Nat->AV} {new:Nat} {r:AV} {ws:List (Nat × HObj)} {ro:Option Nat} {n:Nat} {K:AV->List (Nat × HObj)->Prop}
def qpj (hp:Hp) (g:G) (w:World) (K:AV->List (Nat × HObj)->Prop) (v:Value) (w':World):Prop:=∃ r ws,K r ws/\Post hp g w r ws v w'
theorem qn7 {t kt e : TypeId} {x : Operand} {y : Opd} {d} (ho : o.op = .range t x) (hu : P.underlying t = some (.map kt e)) (h1 : opd x = some y) (hF : FrOK w g F a) (hok : HeapOK hp g w) (hn : hp new = none)
 (hs:(AOp.rng d y).many (evF F) hp new K):VRun P o a w (qpj hp g w K):=by
 have e1:=qi hF h1;simp only [AOp.many] at hs;split at hs
 . rename_i id hid;split at hs
   . rename_i es clk hes;rw [hid] at e1;obtain ⟨c,ents,hv,hρ,hb,hsz,hnS,hkeys,hents⟩:=Ju hok hes e1;have hne:id≠new:=fun e=>by subst e;rw [hes] at hn;cases hn
     obtain ⟨s1,s2⟩:=hok.allocO hn (.mapIter (some c) clk #[] clk) (.it id clk [] clk) (fun tr=>⟨c,qO _ _,tr.ρ _ _ hρ,rfl,fun q h=>J2 hok q h⟩);refine .of (v := .pointer (some ⟨w.heap.size,0,none⟩)) (w':=w.alloc (.mapIter (some c) clk #[] clk)) ?_ ⟨_,_,hs,_,?_,s1,s2⟩
     . simp [execOp,ho,hv,Instr.range,run_underlying hu,qC hb,newObj,Sem.run]
     exact .ref _ _ _ _ (by simp [G.home])
   . rename_i Φ hes;rw [hid] at e1;obtain ⟨es,clk,hΦ,hok2,hu2⟩:=qcb hok hes e1;have hs:=hs es clk hΦ;obtain ⟨c,ents,hv,hρ,hb,hsz,hnS,hkeys,hents⟩:=Ju hok2 (Hp.set_same _ _ _) e1;have hne:id≠new:=fun e=>by subst e;rw [hes] at hn;cases hn
     have hn2:Hp.set hp id (.mp es clk) new=none:=by rw [Hp.set_other _ _ (Ne.symm hne)];exact hn
     obtain ⟨s1,s2⟩:=hok2.allocO hn2 (.mapIter (some c) clk #[] clk) (.it id clk [] clk) (fun tr=>⟨c,qO _ _,tr.ρ _ _ hρ,rfl,fun q h=>J2 hok2 q h⟩);refine .of (v := .pointer (some ⟨w.heap.size,0,none⟩)) (w':=w.alloc (.mapIter (some c) clk #[] clk)) ?_ ⟨_,_,hs,_,?_,s1,hu2.trans s2⟩
     . simp [execOp,ho,hv,Instr.range,run_underlying hu,qC hb,newObj,Sem.run]
     exact .ref _ _ _ _ (by simp [G.home])
   exact hs.elim
 exact hs.elim
theorem qrx (hok : HeapOK hp g w) {id m since last clk : Nat} {seen : List Nat} {es : List (Value × Nat × AV)} {v : Value} (ho : hp id = some (.it m since seen last)) (hm : hp m = some (.mp es clk)) (hr : Rep w g false (.ref id 0) v) :
 ∃ c mb ents,v = .pointer (some ⟨c,0,none⟩) /\ g.ρ id = some (.blk c 0) /\ w.heap[c]? = some (.mapIter (some mb) since seen.toArray last) /\ (∀ o,¬ g.S c o) /\ g.ρ m = some (.blk mb 0) /\ w.heap[mb]? = some (.map ents clk) /\ ents.size = es.length /\
   ∀ i (h:i<es.length),∃ e,ents[i]?=some e/\e.key=es[i].1/\e.born=es[i].2.1/\Rep w g false es[i].2.2 e.val:=by
 cases hr with
 | ref _ _ c d hl =>obtain ⟨l,h1,h2⟩:=hok.rep id _ ho;rw [hl] at h1;cases h1;obtain ⟨mb,g1,g2,rfl,g4⟩:=h2;obtain ⟨c',ents,k1,k2,k3,k4,k5,k6,k7⟩:=Ju hok hm (.mp _ mb 0 g2);rw [g2] at k2;cases k2;exact ⟨c,mb,ents,rfl,hl,g1,g4,g2,k3,k4,k7⟩
theorem qn6 {x : Operand} {y : Opd} {d} (ho : o.op = .next x false) (h1 : opd x = some y) (hF : FrOK w g F a) (hok : HeapOK hp g w)
 (hs:(AOp.nxt d y).many (evF F) hp new K):VRun P o a w (qpj hp g w K):=by
 have e1:=qi hF h1;simp only [AOp.many] at hs;split at hs
 . rename_i id hid;split at hs
   . rename_i m since seen last hit;split at hs
     . rename_i es clk hes;obtain ⟨hgd,hover,hstep⟩:=hs;rw [hid] at e1;obtain ⟨c,mb,ents,hv,hρ,hb,hnS,hρm,hbm,hsz,hents⟩:=qrx hok hit hes e1
       have hgd' : (!seen.toArray.isEmpty && !ents.isEmpty && ents.all (fun e => decide (e.born ≥ last))) = false := by
        rcases Bool.or_eq_true_iff.1 hgd with h | h
        . rcases Bool.or_eq_true_iff.1 h with h | h
          . have : seen.toArray.isEmpty = true := by simpa using h
            simp [this]
          have:es=[]:=by simpa using h
          subst this;have:ents=#[]:=Array.eq_empty_of_size_eq_zero (by simpa using hsz);subst this;simp
        have : ¬ (ents.all (fun e => decide (e.born ≥ last))) = true := fun hall => by
         simp only [Bool.not_eq_true'] at h;have:es.all (fun e=>decide (last<=e.2.1))=true:=List.all_eq_true.2 fun e he=>by obtain ⟨i,hi,rfl⟩:=List.mem_iff_getElem.1 he;obtain ⟨en,q1,q2,q3,q4⟩:=hents i hi;have:=Array.all_eq_true'.1 hall en (Array.mem_of_getElem? q1);rw [q3] at this;simpa using this
         rw [this] at h;cases h
        simp [Bool.eq_false_iff.2 this]
       obtain ⟨left,hleft⟩:∃ left,left=ents.filter fun e => !seen.toArray.contains e.born:=⟨_,rfl⟩;obtain ⟨cand,hcand⟩:∃ cand:Array (Option MapEntry),cand=(if (left.filter (·.born<since)).isEmpty then #[none] else #[])++(left.filter (·.born<since)++left.filter (·.born≥since)).map some:=⟨_,rfl⟩
       obtain ⟨hokd,hupdd⟩:=hok.drew
       have hmem : ∀ e,some e ∈ cand -> ∃ i,∃ hi : i < es.length,e.key = es[i].1 /\ e.born = es[i].2.1 /\ Rep w g false es[i].2.2 e.val /\ seen.contains es[i].2.1 = false := fun e he => by
        have:e∈left:=by
         rw [hcand] at he;rw [Array.mem_append] at he;rcases he with he | he
         . split at he <;> simp at he
         simp only [Array.mem_map,Option.some.injEq,exists_eq_right,Array.mem_append,Array.mem_filter] at he;rcases he with he | he <;> exact he.1
        rw [hleft,Array.mem_filter] at this;obtain ⟨he1,he2⟩:=this;obtain ⟨i,hi,rfl⟩:=Array.mem_iff_getElem.1 he1;have hi':i<es.length:=by omega
        obtain ⟨en,q1,q2,q3,q4⟩:=hents i hi';have:ents[i]=en:=by simpa [hi] using q1
        rw [this] at he2 ⊢;refine ⟨i,hi',q2,q3,q4,?_⟩;rw [<-q3];simpa using he2
       have hnone : none ∈ cand -> (es.filter fun e => !seen.contains e.2.1 && decide (e.2.1 < since)).isEmpty = true := fun hn => by
        rw [hcand,Array.mem_append] at hn;rcases hn with hn | hn
        . split at hn
          . rename_i hemp;rw [List.isEmpty_iff,List.filter_eq_nil_iff];intro e he hc;obtain ⟨i,hi,rfl⟩:=List.mem_iff_getElem.1 he;obtain ⟨en,q1,q2,q3,q4⟩:=hents i hi;simp only [Bool.and_eq_true,decide_eq_true_eq] at hc;have:en∈left.filter (·.born<since):=by rw [hleft,Array.mem_filter,Array.mem_filter];refine ⟨⟨Array.mem_of_getElem? q1,?_⟩,by rw [q3];simpa using hc.2⟩;rw [q3];simpa using hc.1
            have hz:left.filter (·.born<since)=#[]:=by simpa using hemp
            rw [hz] at this;simp at this
          simp at hn
        simp at hn
       have hpos:0<cand.size:=by
        rw [hcand];by_cases hz:(left.filter (·.born<since)).isEmpty=true
        . simp only [hz,if_true];simp;omega
        simp only [hz,Bool.false_eq_true,if_false];have:(left.filter (·.born<since)).size≠0:=fun h=>hz (by simpa using h);simp;omega
       obtain ⟨j,w1,hchoose,hjlt,hok1,hupd1,hheap⟩:∃ j w1,(choose (.mapNext cand.size)).run P w = .ok j w1/\j<cand.size/\HeapOK hp g w1/\Upd hp g w hp g w1/\w1.heap=w.heap:=by
        by_cases hfo:(Question.mapNext cand.size).forced=true
        . exact ⟨0,w,by simp [hfo],hpos,hok,.refl _ _ _,rfl⟩
        exact ⟨(Question.mapNext cand.size).cut (w.tape w.drawn (Question.mapNext cand.size)),w.drew,by simp [hfo],Nat.mod_lt _ hpos,hokd,hupdd,rfl⟩
       have hg1:(getObj c).run P w = .ok (.mapIter (some mb) since seen.toArray last) w:=by simp [getObj,Sem.run,hb]
       have hrun : ∀ v w',(match cand[j]? with
        | some (some e) => (do
          setObj c (.mapIter (some mb) since (seen.toArray.push e.born) clk)
          pure (.tuple #[.bool true,e.key,e.val]):Sem Value)
        | some none=>pure (.tuple #[.bool false])
        | none => stuck "Next: no such candidate").run P w1 = .ok v w' → (execOp a.eval o).run P w = .ok (.value v) w' := fun v w' h => by
        have hnx:(Instr.next (.pointer (some ⟨c,0,none⟩)) false o.type).run P w = .ok v w':=by
         simp only [Instr.next,Sem.run_bind,hg1,Result.andThen_ok,qC hbm,hgd',Bool.false_eq_true,if_false]
         rw [<-hleft,<-hcand,hchoose];exact h
        simp [execOp,ho,hv,hnx]
       have hcj:cand[j]?=some cand[j]:=by simp [hjlt]
       cases hcv:cand[j] with
       | none =>
         rw [hcv] at hcj;have hmem0:none∈cand:=by rw [<-hcv];exact Array.getElem_mem hjlt
         refine .of (v := .tuple #[.bool false]) (w':=w1) (hrun _ _ (by rw [hcj];rfl)) ⟨_,_,hover (hnone hmem0),g,?_,hok1,hupd1⟩
         exact .tup _ _ [.bool false] rfl (fun j hj => by
          match j,hj with
          | 0,_=>exact .v _ _)
       | some e =>
         rw [hcv] at hcj;have hmem0:some e∈cand:=by rw [<-hcv];exact Array.getElem_mem hjlt
         obtain ⟨i,hi,q2,q3,q4,q5⟩:=hmem e hmem0;have hb1:w1.heap[c]?=some (.mapIter (some mb) since seen.toArray last):=by rw [hheap];exact hb
         obtain ⟨s1,s2⟩:=hok1.putO (o' := .it m since (seen++[es[i].2.1]) clk) (ob := .mapIter (some mb) since (seen.toArray.push e.born) clk) hit rfl rfl hρ hb1 rfl rfl (fun tr hh=>⟨mb,by rw [hh,q3];simp,tr.ρ _ _ hρm,rfl,hnS⟩);refine .of (v := .tuple #[.bool true,e.key,e.val]) (w':=w1.putObj c (.mapIter (some mb) since (seen.toArray.push e.born) clk)) (hrun _ _ ?_) ⟨_,_,hstep es[i] (List.getElem_mem _) q5,g,?_,s1,hupd1.trans s2⟩
         . rw [hcj];simp [setObj,Sem.run,hb1,World.putObj]
         exact .tup _ _ [.bool true,e.key,e.val] rfl (fun j hj => by
          match j,hj with
          | 0,_=>exact .v _ _
          | 1,_=>rw [q2];exact zM _ _ _ _
          | 2,_=>exact q4.mono (hupd1.tr.trans s2.tr))
     exact hs.elim
   exact hs.elim
 exact hs.elim
theorem X0 {b : Nat} : ∀ {ents : List MapEntry} {es : List (Value × Nat × AV)} {e : Value × Nat × AV},ents.map (·.born) = es.map (·.2.1) -> es.find? (fun x => x.2.1 == b) = some e ->
 ∃ i:Nat,∃ en,ents.find? (fun x=>x.born==b)=some en/\ents[i]?=some en/\es[i]?=some e
 | [],es,e,h,hf=>by
   have:es=[]:=by cases es <;> simp_all
   subst this;simp at hf
 | x::ents,[],e,h,hf=>by simp at h
 | x::ents, y::es, e, h, hf=>by
   simp only [List.map_cons,List.cons.injEq] at h;rw [List.find?_cons] at hf;rw [List.find?_cons,h.1];cases hc:(y.2.1==b) with
   | true=>rw [hc] at hf;simp at hf;subst hf;exact ⟨0,x,rfl,rfl,rfl⟩
   | false =>rw [hc] at hf;obtain ⟨i,en,h1,h2,h3⟩:=X0 h.2 hf;exact ⟨i+1,en,h1,h2,h3⟩
theorem qnR {x : Operand} {y : Opd} {d} (ho : o.op = .entry x) (h1 : opd x = some y) (hF : FrOK w g F a) (hok : HeapOK hp g w)
 (hs:(AOp.ent d y).many (evF F) hp new K):VRun P o a w (qpj hp g w K):=by
 have e1:=qi hF h1;simp only [AOp.many] at hs;split at hs
 . rename_i id hid;split at hs
   . rename_i m since seen last hit;split at hs
     . rename_i es clk hes;obtain ⟨rfl,b,e,hlast,hfind,hK⟩:=hs;rw [hid] at e1;obtain ⟨c,mb,ents,hv,hρ,hb,hnS,hρm,hbm,hsz,hents⟩:=qrx hok hit hes e1;have hborn:ents.toList.map (·.born)=es.map (·.2.1):=by refine List.ext_getElem (by simp [hsz]) fun i hi hi'=>?_;simp at hi hi';obtain ⟨e,h3,_,h4,_⟩:=hents i hi';obtain ⟨_,h5⟩:=Array.getElem?_eq_some_iff.1 h3;simp [h5,h4]
       obtain ⟨i,en,f1,f2,f3⟩:=X0 hborn hfind;obtain ⟨hi,rfl⟩:=List.getElem?_eq_some_iff.1 f3;obtain ⟨en',q1,q2,q3,q4⟩:=hents i hi
       have:en'=en:=by
        have:ents[i]?=some en:=by simpa using f2
        rw [q1] at this;exact Option.some.inj this
       subst this;have hfa:ents.find? (fun x=>x.born==b)=some en':=by rw [show ents=ents.toList.toArray by simp,List.find?_toArray];exact f1
       have hback:seen.toArray.back?=some b:=by simpa using hlast
       have hg1:(getObj c).run P w = .ok (.mapIter (some mb) since seen.toArray clk) w:=by simp [getObj,Sem.run,hb]
       have hent:(Instr.entry (.pointer (some ⟨c,0,none⟩))).run P w = .ok (.tuple #[en'.key,en'.val]) w:=by simp only [Instr.entry,Sem.run_bind,hg1,Result.andThen_ok,hback,qC hbm];simp [hfa]
       refine .of (v := .tuple #[en'.key,en'.val]) (w':=w) (by simp [execOp,ho,hv,hent]) ⟨_,_,hK,.nil hok ?_⟩
       exact .tup _ _ [en'.key,en'.val] rfl (fun j hj => by
        match j,hj with
        | 0,_=>rw [q2];exact zM _ _ _ _
        | 1,_=>exact q4)
     exact hs.elim
   exact hs.elim
 exact hs.elim
def z6 : Nat -> Value
 | 0 => .slice none 0 0
 | 1 => .pointer none
 | 2 => .map none
 | _ => .nilFunc
def ZX (kd : Nat) : Option TypeDesc -> Bool
 | some (.slice _)=>kd==0
 | some (.pointer _)=>kd==1
 | some (.map _ _)=>kd==2
 | some (.func _ _ _)=>kd==3
 | _=>false
theorem qdD {op:BinOp} {ty:TypeId} {x y:Operand} {u v:Value} (h0:¬ (u = .nilIface/\v = .nilIface)) (h1:¬ ∃ xs ys,u = .agg xs/\v = .agg ys):(eqGuard op ty x y u v).run P w = .ok () w:=by
 have key : (match u,v with
  | .nilIface,.nilIface => (do
    if (x matches .const _) || (y matches .const _) then return
    if ← Op.eqGuardIn Op.maxDepth ty u v then unsupported (.noEntry "binop/eql: two nil values of an interface type with methods, neither of them the literal nil") : Sem Unit)
  | .agg _,.agg _ => (do
    if !(<-program).eqGuardType (<-program).depth ty then return
    if ← Op.eqGuardIn Op.maxDepth ty u v then unsupported (.noEntry "binop/eql: two nil values of an interface type with methods, in a part of a struct or an array"))
  | _,_=>pure ()).run P w = .ok () w:=by
  split
  . exact absurd ⟨rfl,rfl⟩ h0
  . exact absurd ⟨_,_,rfl,rfl⟩ h1
  rfl
 unfold eqGuard
 cases op <;> first
  | rfl
  | (simp only [Bool.not_true,Bool.false_eq_true,if_false];exact key)
theorem qgH {neg : Bool} {kd : Nat} {op ty x ty'} {y : Opd} {d} (ho : o.op = .binOp op ty x (.const (z6 kd)) ty') (hop : op = if neg then .neq else .eql) (hu : ZX kd (P.underlying ty) = true)
 (h1:opd x=some y) (hF:FrOK w g F a) (hok:HeapOK hp g w) (hs:(AOp.isn d neg kd y).many (evF F) hp new K):VRun P o a w (qpj hp g w K):=by
 have e1:=qi hF h1
 have fin : ∀ (v : Value) (z : Bool),a.eval x = v -> (binOp .eql ty v (z6 kd)).run P w = .ok (.bool z) w -> (binOp .neq ty v (z6 kd)).run P w = .ok (.bool !z) w -> (∀ op,(eqGuard op ty x (.const (z6 kd)) v (z6 kd)).run P w = .ok () w) -> K (B (neg != z)) [] -> VRun P o a w (qpj hp g w K) := fun v z hv h1 h2 h3 hK => by
  refine .of (v := .bool (neg != z)) (w':=w) ?_ ⟨_,_,hK,.nil hok (.v _ _)⟩;have hc:a.eval (.const (z6 kd))=z6 kd:=rfl;cases neg <;> subst hop
  . simp [execOp,ho,hv,hc,h1,h3]
  simp [execOp,ho,hv,hc,h2,h3]
 have gd : ∀ (v : Value),v ≠ .nilIface -> ∀ op,(eqGuard op ty x (.const (z6 kd)) v (z6 kd)).run P w = .ok () w := fun v hv op => by
  refine qdD (fun h=>hv h.1) ?_;rintro ⟨xs,ys,-,h⟩
  match kd,h with
  | 0,h=>cases h
  | 1,h=>cases h
  | 2,h=>cases h
  | _+3,h=>cases h
 have mk : ∀ (v : Value) (z : Bool),binOp .eql ty v (z6 kd) = (do pure (Value.bool (<- Op.equal ty v (z6 kd)))) -> binOp .neq ty v (z6 kd) = (do pure (Value.bool (!(<- Op.equal ty v (z6 kd))))) -> (Op.equalIn (9999 + 1) ty v (z6 kd)).run P w = .ok z w ->
  (binOp .eql ty v (z6 kd)).run P w = .ok (.bool z) w/\(binOp .neq ty v (z6 kd)).run P w = .ok (.bool !z) w:=fun v z h1 h2 h3=>by
  have h4:(Op.equal ty v (z6 kd)).run P w = .ok z w:=h3;rw [h1,h2];simp [h4]
 have hslice : ∀ (ad : Option Addr) (n c : Nat),kd = 0 -> (binOp .eql ty (.slice ad n c) (z6 kd)).run P w = .ok (.bool ad.isNone) w /\ (binOp .neq ty (.slice ad n c) (z6 kd)).run P w = .ok (.bool !ad.isNone) w := fun ad n c h => by
  subst h;refine mk _ _ rfl rfl ?_;cases hd:P.underlying ty with
  | none=>rw [hd] at hu;simp [ZX] at hu
  | some de =>cases de <;> rw [hd] at hu <;> simp [ZX] at hu;generalize 9999=d;cases ad <;> simp [z6,Op.equalIn,run_underlying hd]
 have hptr : ∀ (ad : Option Addr),kd = 1 -> (binOp .eql ty (.pointer ad) (z6 kd)).run P w = .ok (.bool ad.isNone) w /\ (binOp .neq ty (.pointer ad) (z6 kd)).run P w = .ok (.bool !ad.isNone) w := fun ad h => by
  subst h;refine mk _ _ rfl rfl ?_;cases hd:P.underlying ty with
  | none=>rw [hd] at hu;simp [ZX] at hu
  | some de =>cases de <;> rw [hd] at hu <;> simp [ZX] at hu;generalize 9999=d;cases ad <;> simp [z6,Op.equalIn,run_underlying hd]
 have hmap : ∀ (ad : Option Nat),kd = 2 -> (binOp .eql ty (.map ad) (z6 kd)).run P w = .ok (.bool ad.isNone) w /\ (binOp .neq ty (.map ad) (z6 kd)).run P w = .ok (.bool !ad.isNone) w := fun ad h => by
  subst h;refine mk _ _ rfl rfl ?_;cases hd:P.underlying ty with
  | none=>rw [hd] at hu;simp [ZX] at hu
  | some de =>cases de <;> rw [hd] at hu <;> simp [ZX] at hu;generalize 9999=d;cases ad <;> simp [z6,Op.equalIn,run_underlying hd]
 have hfun : ∀ f as bs,kd = 3 -> (binOp .eql ty (.func f as bs) (z6 kd)).run P w = .ok (.bool false) w /\ (binOp .neq ty (.func f as bs) (z6 kd)).run P w = .ok (.bool !false) w := fun f as bs h => by
  subst h;refine mk _ _ rfl rfl ?_;cases hd:P.underlying ty with
  | none=>rw [hd] at hu;simp [ZX] at hu
  | some de =>cases de <;> rw [hd] at hu <;> simp [ZX] at hu;generalize 9999=d;simp [z6,Op.equalIn,run_underlying hd]
 have hnf : kd = 3 -> (binOp .eql ty .nilFunc (z6 kd)).run P w = .ok (.bool true) w /\ (binOp .neq ty .nilFunc (z6 kd)).run P w = .ok (.bool !true) w := fun h => by
  subst h;refine mk _ _ rfl rfl ?_;cases hd:P.underlying ty with
  | none=>rw [hd] at hu;simp [ZX] at hu
  | some de =>cases de <;> rw [hd] at hu <;> simp [ZX] at hu;generalize 9999=d;simp [z6,Op.equalIn,run_underlying hd]
 have both:∀ z,K (B false) []->K (B true) []->K (B (neg != z)) []:=fun z h1 h2=>by cases (neg != z) <;> assumption
 generalize hv:a.eval x=v at e1;simp only [AOp.many] at hs;split at hs
 . rename_i full n cs hy;rw [hy] at e1;cases e1 with
   | sl _ _ _ _ ad cap vs hn hf hc hr =>
     split at hs
     . exact fin _ ad.isNone hv (hslice _ _ _ rfl).1 (hslice _ _ _ rfl).2 (gd _ (by simp)) (both _ hs.1 hs.2)
     obtain ⟨ad',rfl,_⟩:=hc 0 (by simp);exact fin _ false hv (hslice _ _ _ rfl).1 (hslice _ _ _ rfl).2 (gd _ (by simp)) (by simpa using hs)
 . rename_i id off n sz hy;rw [hy] at e1;cases e1 with
   | ms _ _ _ _ c d cap arr ty' fz h1 h2 h3 h4 =>
     by_cases h0:n=0
     . exact fin _ _ hv (hslice _ _ _ rfl).1 (hslice _ _ _ rfl).2 (gd _ (by simp)) (both _ (hs.2 h0).1 (hs.2 h0).2)
     exact fin _ _ hv (hslice _ _ _ rfl).1 (hslice _ _ _ rfl).2 (gd _ (by simp)) (by simpa using hs.1 h0)
   | msz _ _ _ ad l h1=>exact fin _ _ hv (hslice _ _ _ rfl).1 (hslice _ _ _ rfl).2 (gd _ (by simp)) (both _ (hs.2 rfl).1 (hs.2 rfl).2)
 . rename_i cs off hy;rw [hy] at e1;cases e1 with
   | ptr _ _ _ b q vs h1 h2=>exact fin _ _ hv (hptr _ rfl).1 (hptr _ rfl).2 (gd _ (by simp)) (by simpa using hs)
 . rename_i id off hy;rw [hy] at e1;cases e1 with
   | ref _ _ c d h1=>exact fin _ _ hv (hptr _ rfl).1 (hptr _ rfl).2 (gd _ (by simp)) (by simpa using hs)
 . rename_i id hy;rw [hy] at e1;cases e1 with
   | mp _ c d h1=>exact fin _ _ hv (hmap _ rfl).1 (hmap _ rfl).2 (gd _ (by simp)) (by simpa using hs)
 . rename_i f as bs hy;rw [hy] at e1;cases e1 with
   | fn _ _ _ _ xs ys _ _ _ _=>exact fin _ _ hv (hfun _ _ _ rfl).1 (hfun _ _ _ rfl).2 (gd _ (by simp)) (by simpa using hs)
 . rename_i hy;rw [hy] at e1;have:=zu e1;subst this;exact fin _ _ hv (hslice _ _ _ rfl).1 (hslice _ _ _ rfl).2 (gd _ (by simp)) (by simpa using hs)
 . rename_i hy;rw [hy] at e1;have:=zu e1;subst this;exact fin _ _ hv (hptr _ rfl).1 (hptr _ rfl).2 (gd _ (by simp)) (by simpa using hs)
 . rename_i hy;rw [hy] at e1;have:=zu e1;subst this;exact fin _ _ hv (hmap _ rfl).1 (hmap _ rfl).2 (gd _ (by simp)) (by simpa using hs)
 . rename_i hy;rw [hy] at e1;have:=zu e1;subst this;exact fin _ _ hv (hnf rfl).1 (hnf rfl).2 (gd _ (by simp)) (by simpa using hs)
 exact hs.elim
end
section
variable {P:Program} {o:Oper} {a:Act} {w:World} {g:G} {hp:Hp} {F:Nat->AV} {new:Nat} {r:AV} {ws:List (Nat × HObj)}
theorem Vc : ∀ (l : List UInt8) (acc : ByteArray),(l.map fun b : UInt8 => ((b.toNat : Nat) : Int)).foldl (fun r n => r.push (UInt8.ofNat n.toNat)) acc = ⟨(acc.data.toList ++ l).toArray⟩
 | [],acc=>by simp
 | b::l,acc=>by rw [List.map_cons,List.foldl_cons,Vc l];simp [ByteArray.push]
theorem qnI {t t' e x} {y1 : Opd} {d} (ho : o.op = .convert t t' x) (hu : P.underlying t = some (.slice e)) (he : P.underlying e = some (.int .u8)) (hu' : P.underlying t' = some .string)
 (h1:opd x=some y1) (hF:FrOK w g F a) (hok:HeapOK hp g w)
 (hs:(AOp.b2s d y1).sem P (evF F) hp new r ws):VRun P o a w (Post hp g w r ws):=by
 have e1:=qi hF h1;obtain ⟨bs,hel,rfl,rfl⟩:=hs;have hpc:((Qk bs).all AV.isPC)=true:=by rw [List.all_eq_true];intro x hx;obtain ⟨b,_,rfl⟩:=List.mem_map.1 hx;rfl
 obtain ⟨ad,cap,hv,hl,vs,hvl,hfirst,_,hvr⟩:=Y7 (P:=P) hok hel hpc e1
 have hvs : vs = bs.map fun b : UInt8 => Value.int .u8 b.toNat := by
  refine List.ext_getElem (by rw [hvl];simp) fun i hi hi'=>?_;have hi2:i<(Qk bs).length:=by rw [hl,<-hvl];exact hi
  obtain ⟨u,hu1,hu2⟩:=hvr i hi2;simp only [Qk,List.getElem_map] at hu2;have:=zu hu2;rw [List.getElem?_eq_getElem hi] at hu1;simp only [Option.some.injEq] at hu1;rw [hu1,this,List.getElem_map]
 have hf:=hfirst bs.length (Nat.le_refl _);rw [List.take_of_length_le (by omega),hv] at hf
 have key:(Conv.bytesToString (.slice ad bs.length cap)).run P w = .ok (.string ⟨bs.toArray⟩) w:=by
  cases ad with
  | none =>
    simp [Builtin.firstCells] at hf;have:bs=[]:=by rw [hf] at hvs;exact (List.map_eq_nil_iff.1 hvs.symm)
    subst this;simp [Conv.bytesToString];rfl
  | some b =>
    simp only [Builtin.firstCells,Nat.mul_one] at hf;rw [hvs] at hf;have e:(bs.map fun b:UInt8=>Value.int .u8 b.toNat)=(bs.map fun b:UInt8=>((b.toNat:Nat):Int)).map (Value.int .u8):=by rw [List.map_map];rfl
    rw [e] at hf;rw [run_bytesToString w b bs.length cap _ hf,Vc];simp [ByteArray.empty,ByteArray.emptyWithCapacity];rfl
 exact .of (by simp [execOp,ho,hv,run_convert_bytes_string w t t' e ad _ cap hu he hu',key]) (.nil hok (.v _ _))
theorem HeapOK.bytes_pub {hp g w} (h : HeapOK hp g w) (e : TypeId) (s : ByteArray) :
 HeapOK hp (g.pub fun b q=>b=w.heap.size/\q<s.size) (Lib.bytesWorld w e s) /\
 Upd hp g w hp (g.pub fun b q=>b=w.heap.size/\q<s.size) (Lib.bytesWorld w e s):=by
 have lt:∀ {b q v},w.cell? ⟨b,q,none⟩=some v->b<w.heap.size:=fun hv=>World.block_lt_of_cell? _ _ hv
 have tr:Trans w g (Lib.bytesWorld w e s) (g.pub fun b q=>b=w.heap.size/\q<s.size) :=
  ⟨fun _ _ x => .inl x,fun b q hs => by
   obtain ⟨v,hv⟩:=h.ex b q hs;exact Lib.bytesWorld_old w e s _ (lt hv),fun i l' hi=>hi,fun b arr' ty fz hb=>⟨arr',(Lib.bytesWorld_at_old w e s b (Array.getElem?_eq_some_iff.1 hb).1).trans hb,rfl⟩,rfl,rfl,rfl,
   by rw [Lib.bytesWorld_size];omega,Nat.le_refl _⟩
 refine ⟨h.change (fun _=>False) tr (fun _ _=>rfl) (fun _ _=>rfl) (fun i o c d hi ho hl hr'=>Lib.bytesWorld_at_old _ _ _ _ (h.lt ho hl hr')) (fun i o c d hi ho hl hr' q hq=>?_) (fun _ h=>h.elim) (fun _ _ _ _ _ _ _ h=>h.elim) ?_,tr,fun c hc => .inl hc,?_,fun b hb _=>Lib.bytesWorld_at_old _ _ _ _ hb⟩
 . rcases hq with hq | ⟨rfl,_⟩
   . exact hq
   exact absurd (h.lt ho hl hr') (Nat.lt_irrefl _)
 . rintro b q (hs | ⟨rfl,hq⟩)
   . obtain ⟨v,hv⟩:=h.ex b q hs;exact ⟨v,(tr.cell b q (hs)).trans hv⟩
   exact ⟨_,Lib.bytesWorld_cell w e s q hq⟩
 rintro b q (hs | ⟨rfl,hq⟩)
 . exact .inl hs
 exact .inr (.inr (Nat.le_refl _))
theorem qn8 {t t' e x} {y1 : Opd} {d} (ho : o.op = .convert t t' x) (hu : P.underlying t = some .string) (hu' : P.underlying t' = some (.slice e)) (he : P.underlying e = some (.int .u8))
 (h1:opd x=some y1) (hF:FrOK w g F a) (hok:HeapOK hp g w)
 (hs:(AOp.s2b d y1).sem P (evF F) hp new r ws):VRun P o a w (Post hp g w r ws):=by
 have e1:=qi hF h1;simp only [AOp.sem] at hs;split at hs
 . rename_i s hy;obtain ⟨rfl,rfl⟩:=hs;rw [hy] at e1;have e1':=zu e1;obtain ⟨s1,s2⟩:=hok.bytes_pub e s;refine .of (v := .slice (some ⟨w.heap.size,0,none⟩) s.size (grownCap w s.size 0 e)) (w':=Lib.bytesWorld w e s) (by simp [execOp,ho,e1',Lib.run_convert_string_bytes w t t' e s hu hu' he]) ⟨_,?_,s1,s2⟩;refine .sl _ _ _ _ _ _ (fun i => .int .u8 (s.data.toList.getD i 0).toNat) (grownCap_ge _ _ _ _) (fun h=>by cases h) (fun i hi=>?_) (fun i hi=>?_)
   . have hi' : i < s.size := by rw [Qk,List.length_map] at hi; exact hi
     exact ⟨_,rfl,rfl,.inr ⟨rfl,by show 0+i<_;omega⟩,by simpa using Lib.bytesWorld_cell w e s i hi'⟩
   have hi':i<s.data.toList.length:=by simpa [Qk] using hi
   simp only [Qk,List.getElem_map,List.getD_eq_getElem?_getD,List.getElem?_eq_getElem hi',Option.getD_some];exact .v _ _
 exact hs.elim
end
def Jx (P : Program) : List Field -> Option (List (Nat × Nat))
 | []=>some []
 | f::fs=>match qE P f.type,Jx P fs with
   | some (_,sz),some l=>some ((f.offset,sz)::l)
   | _,_=>none
def qac (pl : List (Nat × Nat)) (m : Nat) : List (Nat × Operand) -> Option (List (Nat × Nat × Opd))
 | []=>some []
 | (i,x)::l=>match pl[i]?,opd x,qac pl m l with
   | some (off,sz),some y,some r=>if off+sz<=m then some ((off,sz,y)::r) else none
   | _,_,_=>none
def qad (n : Nat) : List (Nat × Operand) -> Option (List (Nat × Opd))
 | []=>some []
 | (i,x)::l=>match opd x,qad n l with
   | some y,some r=>if i<n then some ((i,y)::r) else none
   | _,_=>none
def qab (sz m : Nat) : List (Nat × Operand) -> Option (List (Nat × Nat × Opd))
 | []=>some []
 | (i,x)::l=>match opd x,qab sz m l with
   | some y,some r=>if i*sz+sz<=m then some ((i*sz,sz,y)::r) else none
   | _,_=>none
def qbs : Operand -> Option Nat
 | .const (.slice none 0 0)=>some 0
 | .const (.pointer none)=>some 1
 | .const (.map none)=>some 2
 | .const .nilFunc=>some 3
 | _=>none
def jU (P:Program) (d:Nat) (op:BinOp) (ty:TypeId) (x y:Operand):Option AOp :=
 match opd x,qbs y with
 | some x,some kd=>if ZX kd (P.underlying ty) then (match op with | .eql=>some (.isn d false kd x) | .neq=>some (.isn d true kd x) | _=>none) else none
 | _,_=>none
def jT (P:Program) (d:Nat) (op:BinOp) (ty:TypeId) (x y:Operand):Option AOp :=
 match opd x,opd y,W9 P ty with
 | some x,some y,some ks=>if (ks.1 || ks.2==[.bool]) && !P.eqGuardType P.depth ty then (match op with | .eql=>some (.eqk d false ks x y) | .neq=>some (.eqk d true ks x y) | _=>none) else none
 | _,_,_=>none
def jS (P:Program) (d:Nat) (op:BinOp) (ty:TypeId) (x y:Operand):Option AOp :=
 match opd x,opd y,P.underlying ty with
 | some x,some y,some (.int _)=>some (.bin d op x y)
 | some x,some y,some .string=>some (.bin d op x y)
 | _,_,_=>match jU P d op ty x y with
   | some ao=>some ao
   | none=>match jT P d op ty x y with
     | some ao=>some ao
     | none=>match opd x,opd y with
       | some x,some y=>some (.bing d op ty x y)
       | _,_=>none
def V1 (P:Program) (d:Nat) (t:TypeId) (x i:Operand):Option AOp :=
 match opd x,opd i,P.underlying t with
 | some x,some i,some (.slice e)=>match qE P e with
   | some (_,sz)=>if sz≠0 then some (.ia d sz x i) else none
   | none=>none
 | some x,some i,some (.array ln e)=>match qE P e with
   | some (_,sz)=>some (.iaa d ln sz x i)
   | none=>none
 | _,_,_=>none
def JO (P:Program) (d:Nat) (t:TypeId) (x i:Operand):Option AOp :=
 match opd x,opd i,P.underlying t with
 | some x,some i,some .string=>some (.ids d x i)
 | some x,some i,some (.array ln e)=>match qE P e with
   | some (agg,sz)=>some (.idx d ln agg sz x i)
   | none=>none
 | _,_,_=>none
def Vq : Option Operand -> Option (Option Opd)
 | none=>some none
 | some x=>(opd x).map some
def JP (P:Program) (d:Nat) (t:TypeId) (x:Operand) (lo hi mx:Option Operand):Option AOp :=
 match opd x,Vq lo,Vq hi,Vq mx,P.underlying t with
 | some x,some lo,some hi,some mx,some (.slice e)=>match qE P e with
   | some (_,sz)=>some (.slc d sz x lo hi mx)
   | none=>none
 | some x,some lo,some hi,some none,some .string=>some (.sls d x lo hi)
 | some x,some lo,some hi,some mx,some (.pointer tp)=>match P.underlying tp with
   | some (.array ln e)=>match qE P e with
     | some (_,sz)=>some (.slp d sz ln x lo hi mx)
     | none=>none
   | _=>none
 | some x,some lo,some hi,some mx,some (.array ln e)=>match qE P e with
   | some (_,sz)=>some (.slp d sz ln x lo hi mx)
   | none=>none
 | _,_,_,_,_=>none
def Z8 (P:Program) (d:Nat) (t:TypeId) (x:Operand):Option AOp :=
 match opd x,P.underlying t with
 | some x,some (.slice _)=>some (.len d x)
 | some x,some .string=>some (.lns d x)
 | some x,some (.map _ _)=>some (.lnm d x)
 | some _,some (.array n _)=>some (.mv d (.k (I n)))
 | _,_=>none
def Z7 (P:Program) (d:Nat) (ts tx:TypeId) (x y:Operand):Option AOp :=
 match opd x,opd y,P.underlying ts,P.underlying tx with
 | some x,some y,some (.slice e),some (.slice _)=>match qE P e,P.info? e,zH P e with
   | some (_,sz),some i,some z=>if z.length=sz then some (.app d sz i.bytes x y) else none
   | _,_,_=>none
 | some x,some y,some (.slice e),some (.int _)=>match qE P e,P.info? e,zH P e with
   | some (_,sz),some i,some z=>if z.length=sz/\(z.all AV.isPC)=true then some (.appz d sz i.bytes z x y) else none
   | _,_,_=>none
 | some x,some y,some (.slice e),some .string=>match qE P e,P.info? e,zH P e with
   | some (_,1),some i,some z=>if z.length=1 then some (.apps d i.bytes x y) else none
   | _,_,_=>none
 | _,_,_,_=>none
def QO (P:Program) (d:Nat) (c:Call):Option AOp :=
 match c with
 | { callee := .builtin .len,args:=⟨[x]⟩,argTypes:=⟨[t]⟩ }=>Z8 P d t x
 | { callee := .builtin .append,args:=⟨[x,y]⟩,argTypes:=⟨[t,u]⟩ }=>Z7 P d t u x y
 | { callee := .builtin .copy, args:=⟨[x, y]⟩, argTypes:=⟨t::_⟩ }=>match opd x, opd y, P.underlying t with
   | some x,some y,some (.slice e)=>match qE P e with
     | some (_,sz)=>some (.cpy d sz x y)
     | none=>none
   | _,_,_=>none
 | { callee := .builtin .cap,args:=⟨[x]⟩,argTypes:=⟨[t]⟩ }=>match opd x,P.underlying t with
   | some x,some (.slice _)=>some (.cap d x)
   | _,_=>none
 | { callee := .builtin .max,args:=⟨[x,y]⟩,argTypes:=_ }=>match opd x,opd y with
   | some x,some y=>some (.mx d true x y)
   | _,_=>none
 | { callee := .builtin .min,args:=⟨[x,y]⟩,argTypes:=_ }=>match opd x,opd y with
   | some x,some y=>some (.mx d false x y)
   | _,_=>none
 | { callee := .value (.func f),args:=args,argTypes:=_ }=>match opds args.toList with
   | some qs=>if ja P f then some (.call d f qs) else some (.callx d f qs)
   | none=>none
 | { callee := .value x,args:=args,argTypes:=_ }=>match opd x,opds args.toList with
   | some x,some qs=>some (.callv d x qs)
   | _,_=>none
 | _=>none
def qg1 (P:Program) (t:TypeId):Option Value:=(P.info? t).bind (·.zero)
theorem qan {P:Program} {t:TypeId} {zv:Value} (h:qg1 P t=some zv) (w:World):(zeroValue t).run P w = .ok zv w:=by simp only [qg1,Option.bind_eq_some_iff] at h;obtain ⟨i,hi,hv⟩:=h;simp [zeroValue,typeInfo,hi,hv]
def QL (P:Program) (t:TypeId) (m k v:Operand):Option AOp :=
 match opd m,opd k,opd v,P.underlying t with
 | some m,some k,some v,some (.map kt _)=>match W9 P kt with
   | some ks=>some (.ins ks m k v)
   | none=>none
 | _,_,_,_=>none
def Zs (P:Program) (c:Call):Option AOp :=
 match c with
 | { callee := .builtin .clear, args:=⟨[x]⟩, argTypes:=⟨[t]⟩ }=>match opd x, P.underlying t with
   | some x,some (.slice e)=>match qE P e,zH P e with
     | some (_,sz),some z=>if z.length=sz/\(z.all AV.isPC)=true then some (.clr sz z x) else none
     | _,_=>none
   | _,_=>none
 | { callee := .builtin .delete, args:=⟨[x, y]⟩, argTypes:=⟨t::_⟩ }=>match opd x, opd y, P.underlying t with
   | some x,some y,some (.map kt _)=>match W9 P kt with
     | some ks=>some (.del ks x y)
     | none=>none
   | _,_,_=>none
 | _=>none
def qP (P:Program) (d:Nat) (op:Op):Option AOp :=
 match op with
 | .move x | .assign x=>(opd x).map (.mv d)
 | .pick c a b=>match opd c,opd a,opd b with
   | some c,some a,some b=>some (.pick d c a b)
   | _,_,_=>none
 | .binOp op ty x y _=>jS P d op ty x y
 | .unOp op _ x=>(opd x).map (.un d op)
 | .extract x i=>(opd x).map fun x => .ext d x i
 | .load t x=>match qE P t,opd x with
   | some (agg,sz),some x=>some (.ld d agg sz x)
   | _,_=>none
 | .box t x=>match qE P t,opd x with
   | some (_,sz),some x=>some (.box d sz x)
   | _,_=>none
 | .alloc t=>(zH P t).map (.al d)
 | .buildSlice t n parts=>match P.underlying t with
   | some (.slice e)=>match qE P e,zH P e,qad n parts.toList with
     | some (_,sz),some z,some qs=>if z.length=sz/\n*sz<=16777216 then some (.bsl d n sz z qs) else none
     | _,_,_=>none
   | _=>none
 | .build t parts=>match P.underlying t with
   | some (.struct fields)=>match zH P t,Jx P fields.toList with
     | some z,some pl=>(qac pl z.length parts.toList).map (.bld d z)
     | _,_=>none
   | some (.array _ e)=>match zH P t,qE P e with
     | some z,some (_,sz)=>(qab sz z.length parts.toList).map (.bld d z)
     | _,_=>none
   | _=>none
 | .fieldAddr s x fi=>match P.underlying s,opd x with
   | some (.struct fields),some x=>match fields[fi]? with
     | some f=>match qE P f.type with
       | some (_,sz)=>if sz≠0 then some (.fa d x f.offset) else none
       | none=>none
     | none=>none
   | _,_=>none
 | .field t x fi=>match P.underlying t,opd x with
   | some (.struct fields),some x=>match fields[fi]? with
     | some f=>match qE P f.type with
       | some (agg,sz)=>some (.fld d agg sz f.offset x)
       | none=>none
     | none=>none
   | _,_=>none
 | .indexAddr t x i=>V1 P d t x i
 | .index t x i=>JO P d t x i
 | .slice t x lo hi mx=>JP P d t x lo hi mx
 | .makeSlice t l c=>match P.underlying t,opd l,opd c with
   | some (.slice e),some l,some c=>match qE P e,P.info? e,zH P e with
     | some (_,sz),some i,some z=>some (.mks d sz i.bytes z l c)
     | _,_,_=>none
   | _,_,_=>none
 | .convert t u x=>match P.underlying t,P.underlying u,opd x with
   | some (.int _),some (.int k),some x=>some (.cnv d k x)
   | some (.slice e),some .string,some x=>match P.underlying e with
     | some (.int .u8)=>some (.b2s d x)
     | _=>none
   | some .string,some (.slice e),some x=>match P.underlying e with
     | some (.int .u8)=>some (.s2b d x)
     | _=>none
   | _,_,_=>none
 | .nilCheck x=>(opd x).map (.nilc d)
 | .makeMap _ none=>some (.mkm d)
 | .lookup t m k ok=>match opd m,opd k,P.underlying t with
   | some m,some k,some (.map kt e)=>match W9 P kt,qg1 P e with
     | some ks,some zv=>some (.lku d ks (AV.ofValue zv) ok m k)
     | _,_=>none
   | _,_,_=>none
 | .mapEntry t m k=>match opd m,opd k,P.underlying t with
   | some m,some k,some (.map kt e)=>match W9 P kt,qg1 P e with
     | some ks,some zv=>some (.mpe d ks (AV.ofValue zv) m k)
     | _,_=>none
   | _,_,_=>none
 | .range t x=>match opd x,P.underlying t with
   | some x,some (.map _ _)=>some (.rng d x)
   | _,_=>none
 | .next x false=>(opd x).map (.nxt d)
 | .entry x=>(opd x).map (.ent d)
 | .makeFunc f fs cs=>match opds fs.toList,opds cs.toList with
   | some fs,some cs=>some (.mkf d f fs cs)
   | _,_=>none
 | .call c=>QO P d c
 | _=>none
def zI (P:Program) (N:Nat) (o:Oper):Option AOp :=
 match o.dst,o.op with
 | none,.store t x y=>match qE P t,opd x,opd y with
   | some (_,sz),some x,some y=>some (.st sz x y)
   | _,_,_=>none
 | none,.insert t m k v=>QL P t m k v
 | none,.mapUpdate t m k v=>QL P t m k v
 | none,.entryStore _ m s v=>match opd m,opd s,opd v with
   | some m,some s,some v=>some (.est m s v)
   | _,_,_=>none
 | none,.call c=>Zs P c
 | some d,op=>if d<N then qP P d op else none
 | none,_=>none
theorem zL {x:Option Operand} {y:Option Opd} (h:Vq x=some y):VM x y:=by
 cases x with
 | none=>simp [Vq] at h;subst h;trivial
 | some x =>simp only [Vq,Option.map_eq_some_iff] at h;obtain ⟨z,h1,rfl⟩:=h;exact h1
theorem Wg {n : Nat} : ∀ {l : List (Nat × Operand)} {qs : List (Nat × Opd)},qad n l = some qs -> qs.length = l.length /\ ∀ i (h : i < l.length) (h' : i < qs.length),l[i].1 = qs[i].1 /\ opd l[i].2 = some qs[i].2 /\ qs[i].1 < n
 | [],qs,h=>by simp [qad] at h;subst h;simp
 | (i, x)::l, qs, h=>by
   simp only [qad] at h;split at h
   . rename_i y r h1 h2;split at h
     . rename_i hlt;simp only [Option.some.injEq] at h;subst h;obtain ⟨l1,l2⟩:=Wg h2;refine ⟨by simp [l1],fun j hj hj'=>?_⟩;cases j with
       | zero=>exact ⟨rfl,h1,hlt⟩
       | succ j=>exact l2 j (by simpa using hj) (by simpa using hj')
     cases h
   cases h
theorem Yt {P : Program} : ∀ {l : List Field} {pl : List (Nat × Nat)},Jx P l = some pl -> pl.length = l.length /\ ∀ i (h : i < l.length) (h' : i < pl.length),pl[i].1 = l[i].offset /\ ∃ agg,qE P l[i].type = some (agg,pl[i].2)
 | [],pl,h=>by simp [Jx] at h;subst h;simp
 | f::l, pl, h=>by
   simp only [Jx] at h;split at h
   . rename_i agg sz r h1 h2;simp only [Option.some.injEq] at h;subst h;obtain ⟨l1,l2⟩:=Yt h2;refine ⟨by simp [l1],fun j hj hj'=>?_⟩;cases j with
     | zero=>exact ⟨rfl,_,h1⟩
     | succ j=>exact l2 j (by simpa using hj) (by simpa using hj')
   cases h
theorem Wf {pl : List (Nat × Nat)} {m : Nat} : ∀ {l : List (Nat × Operand)} {qs : List (Nat × Nat × Opd)},qac pl m l = some qs -> qs.length = l.length /\ ∀ i (h : i < l.length) (h' : i < qs.length),pl[l[i].1]? = some (qs[i].1,qs[i].2.1) /\ opd l[i].2 = some qs[i].2.2 /\ qs[i].1 + qs[i].2.1 <= m
 | [],qs,h=>by simp [qac] at h;subst h;simp
 | (i, x)::l, qs, h=>by
   simp only [qac] at h;split at h
   . rename_i off sz y r h1 h2 h3;split at h
     . rename_i hlt;simp only [Option.some.injEq] at h;subst h;obtain ⟨l1,l2⟩:=Wf h3;refine ⟨by simp [l1],fun j hj hj'=>?_⟩;cases j with
       | zero=>exact ⟨h1,h2,hlt⟩
       | succ j=>exact l2 j (by simpa using hj) (by simpa using hj')
     cases h
   cases h
theorem We {sz m : Nat} : ∀ {l : List (Nat × Operand)} {qs : List (Nat × Nat × Opd)},qab sz m l = some qs -> qs.length = l.length /\ ∀ i (h : i < l.length) (h' : i < qs.length),qs[i].1 = l[i].1 * sz /\ qs[i].2.1 = sz /\ opd l[i].2 = some qs[i].2.2 /\ qs[i].1 + qs[i].2.1 <= m
 | [],qs,h=>by simp [qab] at h;subst h;simp
 | (i, x)::l, qs, h=>by
   simp only [qab] at h;split at h
   . rename_i y r h2 h3;split at h
     . rename_i hlt;simp only [Option.some.injEq] at h;subst h;obtain ⟨l1,l2⟩:=We h3;refine ⟨by simp [l1],fun j hj hj'=>?_⟩;cases j with
       | zero=>exact ⟨rfl,rfl,h2,hlt⟩
       | succ j=>exact l2 j (by simpa using hj) (by simpa using hj')
     cases h
   cases h
section
variable {P:Program} {o:Oper} {a:Act} {w:World} {g:G} {hp:Hp} {F:Nat->AV} {new:Nat} {r:AV} {ws:List (Nat × HObj)} {ro:Option Nat} {n:Nat}
theorem qBX {d : Nat} {op : Op} {ao : AOp} (hc : qP P d op = some ao) (ho : o.op = op) (hF : FrOK w g F a) (hok : HeapOK hp g w) (hn : hp new = none) (hs : ao.sem P (evF F) hp new r ws) :
 OpRun ro n P o a w (Post hp g w r ws):=by
 have hd:(∀ c,op≠.defer c)->∀ c,o.op≠.defer c:=fun h=>by rw [ho];exact h
 cases op with
 | move x =>simp only [qP,Option.map_eq_some_iff] at hc;obtain ⟨y,h1,rfl⟩:=hc;exact .of_value (hd (by simp)) (qk0 (.inl ho) h1 hF hok hs)
 | assign x =>simp only [qP,Option.map_eq_some_iff] at hc;obtain ⟨y,h1,rfl⟩:=hc;exact .of_value (hd (by simp)) (qk0 (.inr ho) h1 hF hok hs)
 | pick c x y =>
   simp only [qP] at hc;split at hc
   . rename_i h1 h2 h3;cases hc;exact .of_value (hd (by simp)) (qjs ho h1 h2 h3 hF hok hs)
   cases hc
 | binOp op ty x y ty' =>
   simp only [qP,jS] at hc;split at hc
   . rename_i h1 h2 h3;cases hc;exact .of_value (hd (by simp)) (qgC ho h1 h2 hF hok hs)
   . rename_i h1 h2 h3;cases hc;exact .of_value (hd (by simp)) (qgC ho h1 h2 hF hok hs)
   split at hc
   . rename_i ao' hi; cases hc;simp only [jU] at hi;split at hi
     . split at hi
       . split at hi
         . cases hi;exact hs.elim
         . cases hi;exact hs.elim
         cases hi
       cases hi
     cases hi
   split at hc
   . rename_i ao' hi; cases hc;simp only [jT] at hi;split at hi
     . rename_i h1 h2 h3;split at hi
       . rename_i hcond;simp only [Bool.and_eq_true,Bool.not_eq_true'] at hcond;split at hi
         . cases hi;exact .of_value (hd (by simp)) (qgF (neg:=false) ho rfl h3 hcond.1 hcond.2 h1 h2 hF hok hs)
         . cases hi;exact .of_value (hd (by simp)) (qgF (neg:=true) ho rfl h3 hcond.1 hcond.2 h1 h2 hF hok hs)
         cases hi
       cases hi
     cases hi
   split at hc
   . rename_i h1 h2;cases hc;exact .of_value (hd (by simp)) (qjn ho h1 h2 hF hok hs)
   cases hc
 | unOp op ty x =>simp only [qP,Option.map_eq_some_iff] at hc;obtain ⟨y,h1,rfl⟩:=hc;exact .of_value (hd (by simp)) (qsn ho h1 hF hok hs)
 | extract x i =>simp only [qP,Option.map_eq_some_iff] at hc;obtain ⟨y,h1,rfl⟩:=hc;exact .of_value (hd (by simp)) (qnT ho h1 hF hok hs)
 | load t x =>
   simp only [qP] at hc;split at hc
   . rename_i h1 h2;cases hc;exact .of_value (hd (by simp)) (qsl ho h1 h2 hF hok hs)
   cases hc
 | box t x =>
   simp only [qP] at hc;split at hc
   . rename_i h1 h2;cases hc;exact .of_value (hd (by simp)) (qnK ho h1 h2 hF hok hn hs)
   cases hc
 | alloc t =>simp only [qP,Option.map_eq_some_iff] at hc;obtain ⟨z,h1,rfl⟩:=hc;exact .of_value (hd (by simp)) (qsi ho h1 hok hn hs)
 | buildSlice t m parts =>
   simp only [qP] at hc;split at hc
   . rename_i e hu;split at hc
     . rename_i agg sz z qs h1 h2 h3;split at hc
       . rename_i hcond;cases hc;obtain ⟨l1,l2⟩:=Wg h3;exact .of_value (hd (by simp)) (qnL ho hu h1 h2 hcond.1 hcond.2 (by simpa using l1) (fun i h h'=>l2 i (by simpa using h) h') hF hok hn hs)
       cases hc
     cases hc
   cases hc
 | build t parts =>
   simp only [qP] at hc;split at hc
   . rename_i fields hu;split at hc
     . rename_i z pl h1 h2;simp only [Option.map_eq_some_iff] at hc;obtain ⟨qs,h3,rfl⟩:=hc;obtain ⟨l1,l2⟩:=Wf h3;obtain ⟨p1,p2⟩:=Yt h2;exact .of_value (hd (by simp)) (qnJ (fields:=fields) (places:=pl.toArray) ho ⟨hu,by simpa using p1,fun i h h'=>p2 i (by simpa using h) (by simpa using h')⟩ h1 (by simpa using l1) (fun i h h'=>by obtain ⟨a1,a2⟩:=l2 i (by simpa using h) h';exact ⟨by rw [List.getElem?_toArray];exact a1,a2⟩) hF hok hs)
     cases hc
   . rename_i ln e hu;split at hc
     . rename_i z agg sz h1 h2;simp only [Option.map_eq_some_iff] at hc;obtain ⟨qs,h3,rfl⟩:=hc;obtain ⟨l1,l2⟩:=We h3;exact .of_value (hd (by simp)) (qjo ho hu h2 h1 (by simpa using l1) (fun i h h'=>by have:=l2 i (by simpa using h) h';simp only [Array.getElem_toList] at this;exact this) hF hok hs)
     cases hc
   cases hc
 | fieldAddr s x fi =>
   simp only [qP] at hc;split at hc
   . rename_i fields y hu h1;split at hc
     . rename_i f hf;split at hc
       . rename_i agg sz ht;split at hc
         . rename_i hz;cases hc;exact .of_value (hd (by simp)) (qsj ho hu hf ht hz h1 hF hok hs)
         cases hc
       cases hc
     cases hc
   cases hc
 | field t x fi =>
   simp only [qP] at hc;split at hc
   . rename_i fields y hu h1;split at hc
     . rename_i f hf;split at hc
       . rename_i agg sz ht;cases hc;exact .of_value (hd (by simp)) (qnU ho hu hf ht h1 hF hok hs)
       cases hc
     cases hc
   cases hc
 | indexAddr t x i =>
   simp only [qP,V1] at hc;split at hc
   . rename_i h1 h2 hu;split at hc
     . rename_i agg sz ht;split at hc
       . rename_i hz;cases hc;exact .of_value (hd (by simp)) (qsk ho hu ht hz h1 h2 hF hok hs)
       cases hc
     cases hc
   . rename_i h1 h2 hu;split at hc
     . rename_i agg sz ht;cases hc;exact .of_value (hd (by simp)) (qnV ho hu ht h1 h2 hF hok hs)
     cases hc
   cases hc
 | index t x i =>
   simp only [qP,JO] at hc;split at hc
   . rename_i h1 h2 hu;cases hc;exact .of_value (hd (by simp)) (qnW ho hu h1 h2 hF hok hs)
   . rename_i h1 h2 hu;split at hc
     . rename_i agg sz ht;cases hc;exact .of_value (hd (by simp)) (qnX ho hu ht h1 h2 hF hok hs)
     cases hc
   cases hc
 | slice t x lo hi mx =>
   simp only [qP,JP] at hc;split at hc
   . rename_i h1 h2 h3 h4 hu;split at hc
     . rename_i agg sz ht;cases hc;exact .of_value (hd (by simp)) (qn9 ho hu ht h1 (zL h2) (zL h3) (zL h4) hF hok hs)
     cases hc
   . rename_i h1 h2 h3 h4 hu; cases hc
     have:mx=none:=by cases mx with
      | none=>rfl
      | some z=>simp [Vq] at h4
     subst this;exact .of_value (hd (by simp)) (qoa ho hu h1 (zL h2) (zL h3) hF hok hs)
   . rename_i h1 h2 h3 h4 hu;split at hc
     . rename_i hup;split at hc
       . rename_i agg sz ht;cases hc;exact .of_value (hd (by simp)) (qgJ ho (.inl ⟨hu,hup⟩) ht h1 (zL h2) (zL h3) (zL h4) hF hok hs)
       cases hc
     cases hc
   . rename_i h1 h2 h3 h4 hu;split at hc
     . rename_i agg sz ht;cases hc;exact .of_value (hd (by simp)) (qgJ (tp:=0) ho (.inr hu) ht h1 (zL h2) (zL h3) (zL h4) hF hok hs)
     cases hc
   cases hc
 | makeSlice t l c =>
   simp only [qP] at hc;split at hc
   . rename_i e y1 y2 hu h1 h2;split at hc
     . rename_i agg sz i z ht hi hz;cases hc;exact .of_value (hd (by simp)) (qn4 ho hu ht hi rfl hz h1 h2 hF hok hn hs)
     cases hc
   cases hc
 | convert t u x =>
   simp only [qP] at hc;split at hc
   . rename_i hu hu' h1;cases hc;exact .of_value (hd (by simp)) (qnO ho hu hu' h1 hF hok hs)
   . rename_i hu hu' h1;split at hc
     . rename_i he;cases hc;exact .of_value (hd (by simp)) (qnI ho hu he hu' h1 hF hok hs)
     cases hc
   . rename_i hu hu' h1;split at hc
     . rename_i he;cases hc;exact .of_value (hd (by simp)) (qn8 ho hu hu' he h1 hF hok hs)
     cases hc
   cases hc
 | nilCheck x =>simp only [qP,Option.map_eq_some_iff] at hc;obtain ⟨y,h1,rfl⟩:=hc;exact .of_value (hd (by simp)) (qjr ho h1 hF hok hs)
 | makeMap t res =>
   cases res with
   | none=>simp only [qP] at hc;cases hc;exact .of_value (hd (by simp)) (qn3 ho hok hn hs)
   | some x=>cases hc
 | lookup t m k ok =>
   simp only [qP] at hc;split at hc
   . rename_i h1 h2 hu;split at hc
     . rename_i hks hz;cases hc;exact .of_value (hd (by simp)) (qnZ ho hu hks (qan hz) h1 h2 hF hok hs)
     cases hc
   cases hc
 | mapEntry t m k =>
   simp only [qP] at hc;split at hc
   . rename_i h1 h2 hu;split at hc
     . rename_i hks hz;cases hc;exact .of_value (hd (by simp)) (qn5 ho hu hks (qan hz) h1 h2 hF hok hs)
     cases hc
   cases hc
 | range t x =>
   simp only [qP] at hc;split at hc
   . cases hc;exact hs.elim
   cases hc
 | next x b =>
   cases b with
   | false=>simp only [qP,Option.map_eq_some_iff] at hc;obtain ⟨y,h1,rfl⟩:=hc;exact hs.elim
   | true=>cases hc
 | entry x=>simp only [qP,Option.map_eq_some_iff] at hc;obtain ⟨y,h1,rfl⟩:=hc;exact hs.elim
 | makeFunc f fs cs =>
   simp only [qP] at hc;split at hc
   . rename_i fs' cs' h1 h2;cases hc;obtain ⟨l1,l2⟩:=QR h1;obtain ⟨m1,m2⟩:=QR h2;exact .of_value (hd (by simp)) (qn2 ho (by simpa using l1) (by simpa using m1) (fun i h h'=>l2 i (by simpa using h) h') (fun i h h'=>m2 i (by simpa using h) h') hF hok hs)
   cases hc
 | call c =>
   simp only [qP,QO] at hc;split at hc
   . rename_i x t;simp only [Z8] at hc;split at hc
     . rename_i h1 hu;cases hc;exact .of_value (hd (by simp)) (qnY ho rfl hu h1 hF hok hs)
     . rename_i h1 hu;cases hc;exact .of_value (hd (by simp)) (qn1 ho rfl hu h1 hF hok hs)
     . rename_i h1 hu;cases hc;exact .of_value (hd (by simp)) (qn0 ho rfl hu h1 hF hok hs)
     . rename_i k e h1 hu;cases hc;obtain ⟨rfl,rfl⟩:=hs;refine .of_value (hd (by simp)) (.of (v := .int .i64 k) (w':=w) ?_ (.nil hok (.v _ _)));simp [execOp,ho,resolve,invoke,builtin,Builtin.len_,run_underlying hu,goInt]
     cases hc
   . rename_i x y t u;simp only [Z7] at hc;split at hc
     . rename_i h1 h2 hu hux;split at hc
       . rename_i agg sz i z ht hi hz;split at hc
         . rename_i hzl;cases hc;exact .of_value (hd (by simp)) (qnH ho rfl hu hux ht hi rfl hz hzl h1 h2 hF hok hn hs)
         cases hc
       cases hc
     . rename_i h1 h2 hu hux;split at hc
       . rename_i agg sz i z ht hi hz;split at hc
         . rename_i hzl;cases hc;exact .of_value (hd (by simp)) (qjm ho rfl hu hux ht hi rfl hz hzl.1 hzl.2 h1 h2 hF hok hn hs)
         cases hc
       cases hc
     . rename_i h1 h2 hu hux;split at hc
       . rename_i agg i z ht hi hz;split at hc
         . rename_i hzl;cases hc;exact .of_value (hd (by simp)) (qjl ho rfl hu hux ht hi rfl hz hzl h1 h2 hF hok hn hs)
         cases hc
       cases hc
     cases hc
   . rename_i x y t ats;split at hc
     . rename_i h1 h2 hu;split at hc
       . rename_i agg sz ht;cases hc;exact .of_value (hd (by simp)) (qnP ho rfl (by simp) hu ht h1 h2 hF hok hs)
       cases hc
     cases hc
   . split at hc
     . rename_i h1 hu;cases hc;exact .of_value (hd (by simp)) (qnM ho rfl hu h1 hF hok hs)
     cases hc
   . split at hc
     . rename_i h1 h2;cases hc;exact .of_value (hd (by simp)) (qk1 (mxm:=true) ho rfl h1 h2 hF hok hs)
     cases hc
   . split at hc
     . rename_i h1 h2;cases hc;exact .of_value (hd (by simp)) (qk1 (mxm:=false) ho rfl h1 h2 hF hok hs)
     cases hc
   . split at hc
     . rename_i qs hq;split at hc
       . rename_i hf;cases hc;exact qjp ho rfl hf hq hF hok hn hs
       cases hc;exact hs.elim
     cases hc
   . split at hc
     . rename_i h1 h2;cases hc;exact qgD ho rfl h1 h2 hF hok hn hs
     cases hc
   cases hc
 | _=>cases hc
theorem qa8 {d:Nat} {op ty x y} {ao:AOp} (hc:jU P d op ty x y=some ao):ao.dst=some d:=by
 simp only [jU] at hc
 (repeat' split at hc) <;> first | (cases hc;done) | (cases hc;rfl)
theorem qa7 {d:Nat} {op ty x y} {ao:AOp} (hc:jT P d op ty x y=some ao):ao.dst=some d:=by
 simp only [jT] at hc
 (repeat' split at hc) <;> first | (cases hc;done) | (cases hc;rfl)
theorem qa6 {d:Nat} {op ty x y} {ao:AOp} (hc:jS P d op ty x y=some ao):ao.dst=some d:=by
 simp only [jS] at hc;split at hc
 . cases hc;rfl
 . cases hc;rfl
 split at hc
 . rename_i h;cases hc;exact qa8 h
 split at hc
 . rename_i h;cases hc;exact qa7 h
 split at hc
 . cases hc;rfl
 cases hc
theorem Y5 {d:Nat} {op:Op} {ao:AOp} (hc:qP P d op=some ao):ao.dst=some d:=by
 cases op
 case binOp=>exact qa6 hc
 case makeMap t res =>
  cases res with
  | none=>simp only [qP] at hc;cases hc;rfl
  | some x=>cases hc
 case next x b =>
  cases b with
  | false=>simp only [qP,Option.map_eq_some_iff] at hc;obtain ⟨y,h1,rfl⟩:=hc;rfl
  | true=>cases hc
 all_goals simp only [qP,V1,JO,JP,QO,Z8,Z7,Option.map_eq_some_iff] at hc <;> first
  | (obtain ⟨_,_,rfl⟩:=hc;rfl)
  | ((repeat' split at hc) <;> first | (cases hc;done) | (cases hc;rfl) | (simp only [Option.map_eq_some_iff] at hc;obtain ⟨_,_,rfl⟩:=hc;rfl))
theorem qgI {N : Nat} {ao : AOp} (hc : zI P N o = some ao) (hF : FrOK w g F a) (hok : HeapOK hp g w) (hn : hp new = none) (hs : ao.sem P (evF F) hp new r ws) :
 OpRun ro n P o a w (Post hp g w r ws)/\ao.dst=o.dst/\∀ d,o.dst=some d->d<N:=by
 unfold zI at hc;split at hc
 . rename_i t x y hd ho;split at hc
   . rename_i agg sz x' y' h1 h2 h3;cases hc;exact ⟨.of_skip (by rw [ho];simp) (qsm ho h1 h2 h3 hF hok hs),hd.symm,fun d e=>by rw [hd] at e;cases e⟩
   cases hc
 . rename_i t m k v hd ho;simp only [QL] at hc;split at hc
   . rename_i h1 h2 h3 hu;split at hc
     . rename_i hks;cases hc;exact ⟨.of_skip (by rw [ho];simp) (qgG (.inl ho) hu hks h1 h2 h3 hF hok hs),hd.symm,fun d e=>by rw [hd] at e;cases e⟩
     cases hc
   cases hc
 . rename_i t m k v hd ho;simp only [QL] at hc;split at hc
   . rename_i h1 h2 h3 hu;split at hc
     . rename_i hks;cases hc;exact ⟨.of_skip (by rw [ho];simp) (qgG (.inr ho) hu hks h1 h2 h3 hF hok hs),hd.symm,fun d e=>by rw [hd] at e;cases e⟩
     cases hc
   cases hc
 . rename_i t m s v hd ho;split at hc
   . rename_i h1 h2 h3;cases hc;exact ⟨.of_skip (by rw [ho];simp) (qnS ho h1 h2 h3 hF hok hs),hd.symm,fun d e=>by rw [hd] at e;cases e⟩
   cases hc
 . rename_i c hd ho;simp only [Zs] at hc;split at hc
   . split at hc
     . rename_i h1 hu;split at hc
       . rename_i ht hz;split at hc
         . rename_i hcond;cases hc;exact ⟨.of_value (by rw [ho];simp) (qnN ho rfl hu ht hz hcond.1 hcond.2 h1 hF hok hs),hd.symm,fun d e=>by rw [hd] at e;cases e⟩
         cases hc
       cases hc
     cases hc
   . split at hc
     . rename_i h1 h2 hu;split at hc
       . rename_i hks;cases hc;exact ⟨.of_value (by rw [ho];simp) (qnQ ho rfl (by simp) hu hks h1 h2 hF hok hs),hd.symm,fun d e=>by rw [hd] at e;cases e⟩
       cases hc
     cases hc
   cases hc
 . rename_i d hd;split at hc
   . rename_i hlt;exact ⟨qBX hc rfl hF hok hn hs,by rw [Y5 hc,hd],fun d' e=>by rw [hd] at e;cases e;exact hlt⟩
   cases hc
 cases hc
theorem qdp {y:Operand} {kd:Nat} (h:qbs y=some kd):y = .const (z6 kd):=by unfold qbs at h;split at h <;> first | (cases h;rfl) | cases h
def AOp.isMany : AOp -> Bool
 | .rng .. | .nxt .. | .ent .. | .isn .. => true
 | _=>false
theorem qjq {N : Nat} {ao : AOp} {K : AV -> List (Nat × HObj) -> Prop} (hc : zI P N o = some ao) (hm : ao.isMany = true) (hF : FrOK w g F a) (hok : HeapOK hp g w) (hn : hp new = none) (hs : ao.many (evF F) hp new K) :
 OpRun ro n P o a w (qpj hp g w K)/\ao.dst=o.dst/\∀ d,o.dst=some d->d<N:=by
 unfold zI at hc;split at hc
 . split at hc <;> first | (cases hc;simp [AOp.isMany] at hm) | cases hc
 . simp only [QL] at hc
   (repeat' split at hc) <;> first | (cases hc;simp [AOp.isMany] at hm;done) | cases hc
 . simp only [QL] at hc
   (repeat' split at hc) <;> first | (cases hc;simp [AOp.isMany] at hm;done) | cases hc
 . split at hc <;> first | (cases hc;simp [AOp.isMany] at hm;done) | cases hc
 . simp only [Zs] at hc
   (repeat' split at hc) <;> first | (cases hc;simp [AOp.isMany] at hm;done) | cases hc
 . rename_i d hd;split at hc
   . rename_i hlt;refine ⟨?_,by rw [Y5 hc,hd],fun d' e=>by rw [hd] at e;cases e;exact hlt⟩;generalize ho:o.op=op at hc;have hdf:(∀ c,op≠.defer c)->∀ c,o.op≠.defer c:=fun h=>by rw [ho];exact h
     cases op
     case binOp op ty x y ty' =>
      simp only [qP,jS] at hc;split at hc
      . cases hc;simp [AOp.isMany] at hm
      . cases hc;simp [AOp.isMany] at hm
      split at hc
      . rename_i ao' hi; cases hc;simp only [jU] at hi;split at hi
        . rename_i h1 h2;have:=qdp h2;subst this;split at hi
          . rename_i hk;split at hi
            . cases hi;exact .of_value (hdf (by simp)) (qgH (neg:=false) ho rfl hk h1 hF hok hs)
            . cases hi;exact .of_value (hdf (by simp)) (qgH (neg:=true) ho rfl hk h1 hF hok hs)
            cases hi
          cases hi
        cases hi
      split at hc
      . rename_i ao' hi; cases hc;simp only [jT] at hi
        (repeat' split at hi) <;> first | (cases hi;simp [AOp.isMany] at hm;done) | cases hi
      split at hc
      . cases hc;simp [AOp.isMany] at hm
      cases hc
     case range t x =>
      simp only [qP] at hc;split at hc
      . rename_i h1 hu;cases hc;exact .of_value (hdf (by simp)) (qn7 ho hu h1 hF hok hn hs)
      cases hc
     case next x b =>
      cases b with
      | false =>simp only [qP,Option.map_eq_some_iff] at hc;obtain ⟨y,h1,rfl⟩:=hc;exact .of_value (hdf (by simp)) (qn6 ho h1 hF hok hs)
      | true=>cases hc
     case entry x =>simp only [qP,Option.map_eq_some_iff] at hc;obtain ⟨y,h1,rfl⟩:=hc;exact .of_value (hdf (by simp)) (qnR ho h1 hF hok hs)
     case makeMap t res =>
      cases res with
      | none=>simp only [qP] at hc;cases hc;simp [AOp.isMany] at hm
      | some x=>cases hc
     all_goals
      exfalso
      simp only [qP,V1,JO,JP,QO,Z8,Z7,Option.map_eq_some_iff] at hc <;> first
       | (obtain ⟨_,_,rfl⟩:=hc;simp [AOp.isMany] at hm;done)
       | ((repeat' split at hc) <;> first | (cases hc;done) | (cases hc;simp [AOp.isMany] at hm;done) | (simp only [Option.map_eq_some_iff] at hc;obtain ⟨_,_,rfl⟩:=hc;simp [AOp.isMany] at hm;done))
   cases hc
 cases hc
theorem qgE {c : Call} {f : FuncId} {args : Array Operand} {ats : Array TypeId} {qs : List Opd} (ho : o.op = .call c) (hc : c = { callee := .value (.func f),args := args,argTypes := ats })
 (hq:opds args.toList=some qs) (hF:FrOK w g F a) (hok:HeapOK hp g w) (hs:qcP P f (qs.map (evF F)) hp r):VRun P o a w (Post hp g w r []):=by
 subst hc;obtain ⟨l1,l2⟩:=QR hq;obtain ⟨v,h1,h2⟩:=hs w g (args.map a.eval) hok (by simp [l1]) (fun i hi=>by simp at hi;have:=qi hF (l2 i (by omega) hi);simpa [show i<args.size by simp at l1;omega] using this);refine .of (v:=v) (w':=w) ?_ (.nil hok h2);have hfe:a.eval (.func f) = .func (.func f) #[] #[]:=rfl;simp [execOp,ho,resolve,hfe,Deferred.ofValue,invoke,h1]
end
structure St where
 fr:List (Nat × AV)
 hp:List HObj
def get : List (Nat × AV) -> Nat -> AV
 | [],_ => .any
 | (k,x)::r,t=>if k=t then x else get r t
def qn (l:List HObj) (id:Nat) (o:HObj):List HObj:=if id<l.length then l.set id o else l++[o]
def qc (l : List HObj) : List (Nat × HObj) -> List HObj
 | []=>l
 | (id,o)::ws=>qc (qn l id o) ws
def hpf (l:List HObj):Hp:=fun i=>l[i]?
def qH (fr:List (Nat × AV)) (d:Option Nat) (r:AV):List (Nat × AV):=match d with
 | some d=>(d,r)::fr
 | none=>fr
def St.step (st:St) (d:Option Nat) (r:AV) (ws:List (Nat × HObj)):St:={ fr:=qH st.fr d r,hp:=qc st.hp ws }
def St.keep (st:St) (ts:List Nat):St:={ st with fr:=ts.map fun t=>(t,get st.fr t) }
def qw (P:Program) (f:FuncId) (xs:List AV) (hp:List HObj) (K:AV->List HObj->Prop):Prop :=
 ∀ (ro : Option Nat) (n : Nat) (w : World) (g : G) (vs : Array Value),HeapOK (hpf hp) g w -> vs.size = xs.length -> (∀ i (h : i < xs.length),Rep w g false xs[i] (vs.getD i undef)) ->
   CallsIn (W ro) n P f vs w fun e w'=>∃ v r hp' g',e = .returned v/\K r hp'/\Rep w' g' false r v/\HeapOK (hpf hp') g' w'/\Upd (hpf hp) g w (hpf hp') g' w'
structure HE where
 Y:Nat->List AV->List HObj->(AV->List HObj->Prop)->Prop
 R:AV->List HObj->(List AV->List HObj->(AV->List HObj->Prop)->Prop)->(List HObj->Prop)->Prop
def qjX (P:Program) (w1:World) (g1:G) (id:Nat) (xs:List AV) (hp:List HObj) (K:AV->List HObj->Prop):Prop :=
 ∀ (ro : Option Nat) (n : Nat) (w : World) (g : G) (c : Nat) (vs : Array Value),HeapOK (hpf hp) g w -> Trans w1 g1 w g -> g.ρ id = some (.blk c 0) -> vs.size = xs.length ->
   (∀ i (h:i<xs.length),Rep w g false xs[i] (vs.getD i undef)) ->
   ∃ f tmps assign body,(Instr.yield c vs).run P w = .ok (.round c f tmps assign body) w /\
     RoundIn (W ro) n P c f tmps assign body w fun e w'=>∃ v r hp' g',e = .returned v/\K r hp'/\Rep w' g' false r v/\HeapOK (hpf hp') g' w'/\Upd (hpf hp) g w (hpf hp') g' w'
def YS (P:Program) (E:HE) (w1:World) (g1:G):Prop :=
 ∀ (id:Nat) (xs:List AV) (hp:List HObj) (K:AV->List HObj->Prop),E.Y id xs hp K->qjX P w1 g1 id xs hp K
def VK (P:Program) (w1:World) (g1:G) (f:FuncId) (xs:List AV) (hp:List HObj) (K:AV->List HObj->Prop):Prop :=
 ∀ (ro : Option Nat) (n : Nat) (w : World) (g : G) (vs : Array Value),HeapOK (hpf hp) g w -> Trans w1 g1 w g -> vs.size = xs.length -> (∀ i (h : i < xs.length),Rep w g false xs[i] (vs.getD i undef)) ->
   CallsIn (W ro) n P f vs w fun e w'=>∃ v r hp' g',e = .returned v/\K r hp'/\Rep w' g' false r v/\HeapOK (hpf hp') g' w'/\Upd (hpf hp) g w (hpf hp') g' w'
def jF (P:Program) (E:HE) (f:FuncId) (xs:List AV) (hp:List HObj) (K:AV->List HObj->Prop):Prop:=∀ w1 g1,YS P E w1 g1->VK P w1 g1 f xs hp K
theorem WF {P:Program} {E:HE} {f:FuncId} {xs:List AV} {hp:List HObj} {K:AV->List HObj->Prop} (h:qw P f xs hp K):jF P E f xs hp K:=fun _ _ _ ro n w g vs a _ b c=>h ro n w g vs a b c
theorem jm {P:Program} {E:HE} {f:FuncId} {xs:List AV} {hp:List HObj} {K K':AV->List HObj->Prop} (hk:∀ r H,K r H->K' r H) (h:jF P E f xs hp K):jF P E f xs hp K':=fun w1 g1 hY ro n w g vs a t b c =>
 (h w1 g1 hY ro n w g vs a t b c).mono fun e w' ⟨v,r,hp',g',e1,e2,e3⟩=>⟨v,r,hp',g',e1,hk _ _ e2,e3⟩
def aop (P:Program) (E:HE) (o:AOp) (st:St) (K:St->Prop):Prop :=
 match o with
 | .callx d f args=>∃ r,qcP P f (args.map (evF (get st.fr))) (hpf st.hp) r/\K { fr:=(d,r)::st.fr,hp:=st.hp }
 | .rng d x=>(AOp.rng d x).many (evF (get st.fr)) (hpf st.hp) st.hp.length fun r ws=>K (st.step (some d) r ws)
 | .nxt d x=>(AOp.nxt d x).many (evF (get st.fr)) (hpf st.hp) st.hp.length fun r ws=>K (st.step (some d) r ws)
 | .ent d x=>(AOp.ent d x).many (evF (get st.fr)) (hpf st.hp) st.hp.length fun r ws=>K (st.step (some d) r ws)
 | .isn d b kd x=>(AOp.isn d b kd x).many (evF (get st.fr)) (hpf st.hp) st.hp.length fun r ws=>K (st.step (some d) r ws)
 | .call d f args=>jF P E f (args.map (evF (get st.fr))) st.hp fun r hp'=>K { fr:=(d,r)::st.fr,hp:=hp' }
 | .callv d x args=>match evF (get st.fr) x with
   | .fn (.func f) first caps=>ja P f=true/\qw P f (first++args.map (evF (get st.fr))++caps) st.hp fun r hp'=>K { fr:=(d,r)::st.fr,hp:=hp' }
   | .yl id=>∃ K0,E.Y id (args.map (evF (get st.fr))) st.hp K0/\∀ r hp',K0 r hp'->K { fr:=(d,r)::st.fr,hp:=hp' }
   | _=>False
 | o=>∃ r ws,o.sem P (evF (get st.fr)) (hpf st.hp) st.hp.length r ws/\K (st.step o.dst r ws)
def zb (P : Program) (E : HE) : List AOp -> St -> (St -> Prop) -> Prop
 | [],st,K=>K st
 | o::os,st,K=>aop P E o st fun st=>zb P E os st K
def qI (os:List AOp) (st:St):St:={ st with fr:=(os.filterMap fun o=>o.dst.map fun d=>(d,AV.v undef)).reverse++st.fr }
structure Grp where
 guard:Option (Nat × Bool)
 ops:List AOp
def q7 (P : Program) (E : HE) : List Grp -> St -> (St -> Prop) -> Prop
 | [],st,K=>K st
 | ⟨none,os⟩::gs,st,K=>zb P E os st fun st=>q7 P E gs st K
 | ⟨some (j,b),os⟩::gs,st,K=>match get st.fr j with
   | .v (.bool c)=>(c=b->zb P E os st fun st=>q7 P E gs st K)/\(c≠b->q7 P E gs (qI os st) K)
   | .v (.tuple _)=>q7 P E gs (qI os st) K
   | _=>False
inductive AC where
 | skip
 | rgn (gs:List Grp) (keep:List Nat)
 | drw (gs:List Grp) (un:List (Nat × Nat)) (keep:List Nat)
 | seq (x y:AC)
 | cond (c:Opd) (x y:AC)
 | block (id:Nat) (x:AC)
 | loop (x:AC)
 | exit (id:Nat)
 | ret
 | label (l:Nat)
 | scope (x:AC)
 | rf (g:Opd) (ps:List Nat) (x y:AC) (keep:List Nat)
 | dead
def Sim (N:Nat) (st:St) (a:Act) (w:World) (g:G):Prop:=a.tmps.size=N/\FrOK w g (get st.fr) a/\HeapOK (hpf st.hp) g w
def St.le (st st':St):Prop:=∀ N a w g,Sim N st a w g->∃ g',Sim N st' a w g'/\Upd (hpf st.hp) g w (hpf st'.hp) g' w
def Exit.th (K : St -> Prop) (Q : Exit -> St -> Prop) : Exit -> St -> Prop
 | .normal,st=>K st
 | e,st=>Q e st
def Exit.blk (id : Nat) (Q : Exit -> St -> Prop) : Exit -> St -> Prop
 | .exit id',st=>if id'=id then Q .normal st else Q (.exit id') st
 | e,st=>Q e st
abbrev Tr:=List (List Nat × List Nat)
def AV.ids0 : AV -> List Nat
 | .ref id _=>[id]
 | .ms id _ _ _=>[id]
 | .mp id=>[id]
 | .mc id _ _ _ _=>[id]
 | .yl id=>[id]
 | _=>[]
def AV.ids1 : AV -> List Nat
 | .ref id _=>[id]
 | .ms id _ _ _=>[id]
 | .mp id=>[id]
 | .mc id _ _ _ _=>[id]
 | .yl id=>[id]
 | .agg cs=>cs.flatMap AV.ids0
 | .fn _ as bs=>as.flatMap AV.ids0++bs.flatMap AV.ids0
 | _=>[]
def AV.ids : AV -> List Nat
 | .agg cs=>cs.flatMap AV.ids1
 | .tup cs=>cs.flatMap AV.ids1
 | x=>x.ids1
def AOp.opds : AOp -> List Opd
 | .mv _ x | .un _ _ x | .ext _ x _ | .ld _ _ _ x | .box _ _ x | .fa _ x _ | .fld _ _ _ _ x | .len _ x | .lns _ x | .lnm _ x | .cnv _ _ x | .nilc _ x | .cap _ x | .clr _ _ x | .rng _ x | .nxt _ x | .ent _ x | .isn _ _ _ x | .b2s _ x | .s2b _ x=>[x]
 | .pick _ c a b=>[c,a,b]
 | .bin _ _ x y | .bing _ _ _ x y | .st _ x y | .ia _ _ x y | .iaa _ _ _ x y | .idx _ _ _ _ x y | .ids _ x y | .app _ _ _ x y | .cpy _ _ x y | .mks _ _ _ _ x y | .mx _ _ x y | .appz _ _ _ _ x y | .lku _ _ _ _ x y | .mpe _ _ _ x y | .del _ x y | .eqk _ _ _ x y | .apps _ _ x y=>[x,y]
 | .ins _ x y z | .est x y z=>[x,y,z]
 | .al _ _ | .mkm _=>[]
 | .bsl _ _ _ _ ps=>ps.map (·.2)
 | .bld _ _ ps=>ps.map (·.2.2)
 | .slc _ _ x lo hi m | .slp _ _ _ x lo hi m=>[x]++lo.toList++hi.toList++m.toList
 | .sls _ x lo hi=>[x]++lo.toList++hi.toList
 | .mkf _ _ as bs=>as++bs
 | .call _ _ as | .callx _ _ as=>as
 | .callv _ x as=>x::as
def AOp.heapy : AOp -> Bool
 | .ld .. | .st .. | .bsl .. | .app .. | .cpy .. | .lnm .. | .call .. | .callv .. | .clr .. | .appz .. | .slp .. | .ins .. | .lku .. | .mpe .. | .est .. | .del .. | .callx .. | .rng .. | .nxt .. | .ent .. | .b2s .. | .s2b .. | .apps .. => true
 | _=>false
def qij (hp:Hp) (xs:List AV):List Nat:=match qh hp xs with
 | some (_,is)=>is
 | none=>[]
def AOp.looks : AOp -> Bool
 | .bsl .. | .call .. | .callv .. => false
 | o=>o.heapy
def AOp.more (o:AOp) (ev:Opd->AV) (hp:Hp):List Nat:=match o with
 | .bsl _ _ _ _ parts=>qij hp (parts.map fun p=>ev p.2)
 | .call _ _ args=>qij hp (args.map ev)
 | .callv _ x args=>match ev x with
   | .fn _ first caps=>qij hp (first++args.map ev++caps)
   | _=>[]
 | _=>[]
def AOp.foot (o:AOp) (F:Nat->AV) (hp:Hp):List Nat:=(bif o.looks then o.opds.flatMap fun x=>(evF F x).ids else [])++o.more (evF F) hp
def Qc (P : Program) : List AOp -> St -> Tr -> (St -> Tr -> Prop) -> Prop
 | [],st,tr,K=>K st tr
 | o::os,st,tr,K=>∃ r ws,o.sem P (evF (get st.fr)) (hpf st.hp) st.hp.length r ws/\Qc P os (st.step o.dst r ws) (tr++[(o.foot (get st.fr) (hpf st.hp),ws.map (·.1))]) K
def qZ (P : Program) : List Grp -> St -> Tr -> (St -> Tr -> Prop) -> Prop
 | [],st,tr,K=>K st tr
 | ⟨none,os⟩::gs,st,tr,K=>Qc P os st tr fun st tr=>qZ P gs st tr K
 | ⟨some (j,b),os⟩::gs,st,tr,K=>match get st.fr j with
   | .v (.bool c)=>(c=b->Qc P os st tr fun st tr=>qZ P gs st tr K)/\(c≠b->qZ P gs (qI os st) (tr++os.map fun _=>([],[])) K)
   | .v (.tuple _)=>qZ P gs (qI os st) (tr++os.map fun _=>([],[])) K
   | _=>False
def qaC (a b:List Nat):Bool:=a.all fun x => !b.contains x
def zJ (tr : Tr) : List (Nat × Nat) -> Bool
 | []=>true
 | (i,j) :: un => (match tr[i]?,tr[j]? with
   | some (ri,wi),some (rj,wj)=>qaC wi rj&&qaC wi wj&&qaC wj ri
   | _,_=>false)&&zJ tr un
def Exit.ng (Q : Exit -> St -> Prop) : Exit -> St -> Prop
 | .goto _,_=>False
 | e,st=>Q e st
def ZT (id : Nat) (K : AV -> List HObj -> Prop) : Exit -> St -> Prop
 | .normal,st=>hpf st.hp id=some (.lp .busy (id+1))/\K (B true) (qn st.hp id (.lp .ready (id+1)))
 | .ret,st=>hpf st.hp id=some (.lp .busy (id+1))/\K (B false) (qn st.hp id (.lp (.done none) (id+1)))
 | .exit e,st=>hpf st.hp id=some (.lp .busy (id+1))/\K (B false) (qn st.hp id (.lp (.done (some e)) (id+1)))
 | _,_=>False
def Jf (id:Nat) (fr:List (Nat × AV)) (ks:List Nat) (Q:Exit->St->Prop) (hp:List HObj):Prop :=
 match hpf hp id with
 | some (.lp .ready _)=>Q .normal (St.keep { fr:=fr,hp:=qn hp id .gone } ks)
 | some (.lp (.done none) _)=>Q .ret { fr:=fr,hp:=qn hp id .gone }
 | some (.lp (.done (some e)) _)=>Q (.exit e) { fr:=fr,hp:=qn hp id .gone }
 | _=>False
def putPs : List Nat -> List AV -> List (Nat × AV) -> List (Nat × AV)
 | p::ps,x::xs,fr=>putPs ps xs ((p,x)::fr)
 | _,_,fr=>fr
def AC.noRf : AC -> Bool
 | .seq x y | .cond _ x y=>x.noRf&&y.noRf
 | .block _ x | .loop x | .scope x=>x.noRf
 | .rf .. => false
 | _=>true
def AWP (P : Program) (E : HE) : AC -> St -> (Exit -> St -> Prop) -> Prop
 | .skip,st,Q=>Q .normal st
 | .rgn gs ks,st,Q=>q7 P E gs st fun st=>Q .normal (st.keep ks)
 | .drw gs un ks,st,Q=>qZ P gs st [] fun st tr=>zJ tr un=true/\Q .normal (st.keep ks)
 | .seq x y,st,Q=>AWP P E x st (Exit.th (fun st=>AWP P E y st Q) Q)
 | .cond c x y,st,Q=>match evF (get st.fr) c with
   | .v (.bool t)=>(t=true->AWP P E x st Q)/\(t=false->AWP P E y st Q)
   | _=>False
 | .block id x,st,Q=>AWP P E x st (Exit.blk id Q)
 | .loop x,st,Q => ∃ (α : Type) (I : α -> St) (C : α -> Prop) (μ : α -> Nat) (a0 : α),C a0 /\ St.le st (I a0) /\
  ∀ a,C a->AWP P E x (I a) (Exit.th (fun st'=>∃ a',C a'/\μ a'<μ a/\St.le st' (I a')) Q)
 | .exit id,st,Q=>Q (.exit id) st
 | .ret,st,Q=>Q .ret st
 | .label _,st,Q=>Q .normal st
 | .scope x,st,Q=>AWP P E x st (Exit.ng Q)
 | .rf g ps x y ks, st, Q => (x.noRf && y.noRf) = true /\ ∃ K0, E.R (evF (get st.fr) g) st.hp
       (fun xs hp K => hpf hp st.hp.length = some (.lp .ready (st.hp.length + 1)) /\ xs.length = ps.length /\
        AWP P E x { fr := putPs ps xs st.fr,hp := hp } (Exit.th (fun st1 => hpf st1.hp st.hp.length = some (.lp .ready (st.hp.length + 1)) /\
         AWP P E y { fr:=st1.fr,hp:=qn st1.hp st.hp.length (.lp .busy (st.hp.length+1)) } (ZT st.hp.length K)) (fun _ _=>False))) K0 /\
       ∀ hp',K0 hp'->Jf st.hp.length st.fr ks Q hp'
 | .dead,_,_=>False
theorem Qt {l:List HObj} {id:Nat} {o:HObj} (h:id<=l.length):hpf (qn l id o)=Hp.set (hpf l) id o:=by
 funext i;simp only [hpf,qn,Hp.set];split
 . rename_i hlt;rw [List.getElem?_set];by_cases e:id=i
   . subst e;simp [hlt]
   simp [e,Ne.symm e]
 have:id=l.length:=by omega
 subst this;by_cases e:i=l.length
 . subst e;simp
 simp only [e,if_false];rcases Nat.lt_or_ge i l.length with h1 | h1
 . rw [List.getElem?_append_left h1]
 rw [List.getElem?_eq_none (by simp;omega),List.getElem?_eq_none h1]
theorem YW (l:List HObj) (id:Nat) (o:HObj):l.length<=(qn l id o).length:=by simp only [qn];split <;> simp
theorem zh : ∀ {ws : List (Nat × HObj)} {l : List HObj},(∀ p ∈ ws,p.1 <= l.length) -> hpf (qc l ws) = Hp.write (hpf l) ws
 | [],l,_=>rfl
 | (id,o)::ws,l,h=>by simp only [qc,Hp.write];rw [zh (fun p hp=>Nat.le_trans (h p (by simp [hp])) (YW l id o)),Qt (h (id,o) (by simp))]
theorem qq {l:List HObj} {id:Nat} {o:HObj} (h:hpf l id=some o):id<l.length:=(List.getElem?_eq_some_iff.1 h).1
theorem qT {l:List HObj} {xs ys:List AV} {is:List Nat} (h:qh (hpf l) xs=some (ys,is)):∀ i∈is,i<l.length:=fun i hi=>by obtain ⟨cs,hcs⟩:=qA h i hi;exact qq hcs
theorem qaN {l:List HObj} {r:AV} {ws:List (Nat × HObj)} {sz bytes m:Nat} {x:AV} {ys:List AV} (h:zl (hpf l) l.length r ws sz bytes x m ys):∀ p∈ws,p.1<=l.length:=by
 simp only [zl] at h;split at h
 . obtain ⟨_,_,_,_,_,_,rfl⟩:=h;intro p hp;simp at hp;subst hp;exact Nat.le_refl _
 . split at h
   . rename_i hc;obtain ⟨_,_,_,_,_,rfl⟩:=h;intro p hp;simp at hp;rcases hp with rfl | rfl
     . exact Nat.le_of_lt (qq hc)
     exact Nat.le_refl _
   exact h.elim
 . split at h
   . rename_i hc;obtain ⟨_,_,_,_,h⟩:=h;rcases h with ⟨_,_,_,rfl⟩ | ⟨_,_,rfl⟩
     . intro p hp;simp at hp;subst hp;exact Nat.le_of_lt (qq hc)
     intro p hp;simp at hp;subst hp;exact Nat.le_refl _
   exact h.elim
 exact h.elim
theorem qiE {o:AOp} {ev:Opd->AV} {l:List HObj} {K:AV->List (Nat × HObj)->Prop} (h:o.many ev (hpf l) l.length K):o.many ev (hpf l) l.length fun r ws=>(∀ p∈ws, p.1<=l.length)/\K r ws:=by
 have nil:∀ {p:Nat × HObj},p∈([]:List (Nat × HObj))->p.1<=l.length:=fun h=>by simp at h
 cases o with
 | rng d x =>
   simp only [AOp.many] at h ⊢;split at h
   . split at h
     . exact ⟨fun p hp=>by simp at hp;subst hp;exact Nat.le_refl _,h⟩
     . rename_i hid
       exact fun es clk hΦ => ⟨fun p hp => by
        simp at hp;rcases hp with rfl | rfl
        . exact Nat.le_of_lt (qq hid)
        exact Nat.le_refl _,h es clk hΦ⟩
     exact h
   exact h
 | nxt d x =>
   simp only [AOp.many] at h ⊢;split at h
   . split at h
     . rename_i hid;split at h
       . exact ⟨h.1,fun e=>⟨fun p hp=>nil hp,h.2.1 e⟩,fun e he hs=>⟨fun p hp=>by simp at hp;subst hp;exact Nat.le_of_lt (qq hid),h.2.2 e he hs⟩⟩
       exact h
     exact h
   exact h
 | ent d x =>
   simp only [AOp.many] at h ⊢;split at h
   . split at h
     . split at h
       . obtain ⟨h1,b,e,h2,h3,h4⟩:=h;exact ⟨h1,b,e,h2,h3,fun p hp=>nil hp,h4⟩
       exact h
     exact h
   exact h
 | isn d b kd x =>
   simp only [AOp.many] at h ⊢;split at h
   . split at h
     . exact ⟨⟨fun p hp=>nil hp,h.1⟩,⟨fun p hp=>nil hp,h.2⟩⟩
     exact ⟨fun p hp=>nil hp,h⟩
   . exact ⟨fun e=>⟨fun p hp=>nil hp,h.1 e⟩,fun e=>⟨⟨fun p hp=>nil hp,(h.2 e).1⟩,⟨fun p hp=>nil hp,(h.2 e).2⟩⟩⟩
   all_goals first | exact ⟨fun p hp=>nil hp,h⟩ | exact h
 | _=>exact h.elim
theorem Zx {o:AOp} {ev:Opd->AV} {hp:Hp} {new:Nat} {K K':AV->List (Nat × HObj)->Prop} (hk:∀ r ws,K r ws->K' r ws) (h:o.many ev hp new K):o.many ev hp new K':=by
 cases o with
 | rng d x =>
   simp only [AOp.many] at h ⊢;split at h
   . split at h
     . exact hk _ _ h
     . exact fun es clk hΦ=>hk _ _ (h es clk hΦ)
     exact h
   exact h
 | nxt d x =>
   simp only [AOp.many] at h ⊢;split at h
   . split at h
     . split at h
       . exact ⟨h.1,fun e=>hk _ _ (h.2.1 e),fun e he hs=>hk _ _ (h.2.2 e he hs)⟩
       exact h
     exact h
   exact h
 | ent d x =>
   simp only [AOp.many] at h ⊢;split at h
   . split at h
     . split at h
       . obtain ⟨h1,b,e,h2,h3,h4⟩:=h;exact ⟨h1,b,e,h2,h3,hk _ _ h4⟩
       exact h
     exact h
   exact h
 | isn d b kd x =>
   simp only [AOp.many] at h ⊢;split at h
   . split at h
     . exact ⟨hk _ _ h.1,hk _ _ h.2⟩
     exact hk _ _ h
   . exact ⟨fun e=>hk _ _ (h.1 e),fun e=>⟨hk _ _ (h.2 e).1,hk _ _ (h.2 e).2⟩⟩
   all_goals first | exact hk _ _ h | exact h
 | _=>exact h.elim
theorem Xw {P:Program} {o:AOp} {ev:Opd->AV} {l:List HObj} {r:AV} {ws:List (Nat × HObj)} (h:o.sem P ev (hpf l) l.length r ws):∀ p∈ws,p.1<=l.length:=by
 have nil:∀ {ws:List (Nat × HObj)},ws=[]->∀ p∈ws,p.1<=l.length:=fun e p hp=>by subst e;simp at hp
 have gn:∀ {is:List Nat},(∀ i∈is,i<l.length)->∀ p∈gones is,p.1<=l.length:=fun h p hp=>by simp only [gones,List.mem_map] at hp;obtain ⟨i,hi,rfl⟩:=hp;exact Nat.le_of_lt (h i hi)
 cases o with
 | st sz a x =>
   simp only [AOp.sem,qaq] at h;split at h
   . split at h
     . rename_i hc;obtain ⟨_,_,_,rfl,_⟩:=h;intro p hp;simp at hp;subst hp;exact Nat.le_of_lt (qq hc)
     exact h.elim
   exact h.elim
 | ld d agg sz x =>
   simp only [AOp.sem,Q0] at h;split at h
   . exact nil h.1
   . split at h
     . exact nil h.1
     exact h.elim
   exact h.elim
 | box=>obtain ⟨_,_,_,rfl⟩:=h;intro p hp;simp at hp;subst hp;exact Nat.le_refl _
 | al=>obtain ⟨_,rfl⟩:=h;intro p hp;simp at hp;subst hp;exact Nat.le_refl _
 | mks=>obtain ⟨_,_,_,_,_,_,_,rfl⟩:=h;intro p hp;simp at hp;subst hp;exact Nat.le_refl _
 | bsl =>
   obtain ⟨_,_,h1,_,h2⟩:=h;rcases h2 with ⟨_,rfl⟩ | ⟨_,rfl⟩
   . exact gn (qT h1)
   intro p hp;rw [List.mem_append] at hp;rcases hp with hp | hp
   . exact gn (qT h1) p hp
   simp at hp;subst hp;exact Nat.le_refl _
 | call =>
   obtain ⟨_,_,h1,h2⟩:=h;rcases h2 with ⟨_,rfl⟩ | ⟨m,sz,cs,_,_,rfl⟩ | ⟨Φ,_,_,rfl⟩
   . intro p hp;cases hs:r.scalar with
     | true=>rw [hs] at hp;simp at hp
     | false=>rw [hs] at hp;exact gn (qT h1) p hp
   . intro p hp;rw [List.mem_append] at hp;rcases hp with hp | hp
     . exact gn (qT h1) p (jq hp)
     simp at hp;subst hp;exact Nat.le_refl _
   intro p hp;rw [List.mem_append] at hp;rcases hp with hp | hp
   . exact gn (qT h1) p hp
   simp at hp;subst hp;exact Nat.le_refl _
 | app d sz bytes x y =>obtain ⟨m,ys,_,_,h⟩:=h;exact qaN h
 | cpy d sz x y =>
   simp only [AOp.sem] at h;split at h
   . obtain ⟨_,_,_,_,_,hc,_,_,_,rfl⟩:=h;intro p hp;simp at hp;subst hp;exact Nat.le_of_lt (qq hc)
   . obtain ⟨_,_,_,_,_,hc,_,_,_,rfl⟩:=h;intro p hp;simp at hp;subst hp;exact Nat.le_of_lt (qq hc)
   exact h.elim
 | slc d sz x lo hi mx =>
   simp only [AOp.sem,YA] at h;split at h
   . obtain ⟨_,_,_,_,_,_,_,_,h⟩:=h;exact nil h
   . obtain ⟨_,_,_,_,_,_,_,_,_,h⟩:=h;exact nil h
   . obtain ⟨_,_,_,_,_,_,_,_,_,_,_,h⟩:=h;exact nil h
   exact h.elim
 | sls d x lo hi =>
   simp only [AOp.sem] at h;split at h
   . obtain ⟨_,_,_,_,_,_,_,h⟩:=h;exact nil h
   exact h.elim
 | cap=>simp only [AOp.sem] at h;split at h <;> first | exact nil h.2.2 | exact nil h.2 | exact h.elim
 | clr =>
   simp only [AOp.sem] at h;split at h
   . obtain ⟨_,hc,_,_,_,rfl⟩:=h;intro p hp;simp at hp;subst hp;exact Nat.le_of_lt (qq hc)
   . obtain ⟨_,hc,_,_,_,rfl⟩:=h;intro p hp;simp at hp;subst hp;exact Nat.le_of_lt (qq hc)
   exact h.elim
 | appz d sz bytes z x y =>obtain ⟨m,_,h⟩:=h;exact qaN h
 | b2s=>obtain ⟨_,_,_,h⟩:=h;exact nil h
 | s2b=>simp only [AOp.sem] at h;split at h <;> first | exact nil h.2 | exact h.elim
 | apps d bytes x y =>
   simp only [AOp.sem] at h;split at h
   . exact qaN h
   exact h.elim
 | slp=>simp only [AOp.sem] at h;(repeat' split at h) <;> first | (obtain ⟨_,_,_,_,_,_,_,_,_,_,_,h⟩:=h;exact nil h) | (obtain ⟨_,_,_,_,_,_,_,_,_,h⟩:=h;exact nil h) | exact h.elim
 | mkm=>obtain ⟨_,rfl⟩:=h;intro p hp;simp at hp;subst hp;exact Nat.le_refl _
 | ins =>
   simp only [AOp.sem] at h;split at h
   . split at h
     . rename_i hc;obtain ⟨_,_,_,_,h⟩:=h;rcases h with ⟨_,_,_,_,rfl⟩ | ⟨_,rfl⟩ <;> (intro p hp;simp at hp;subst hp;exact Nat.le_of_lt (qq hc))
     exact h.elim
   exact h.elim
 | lku =>
   simp only [AOp.sem] at h;split at h
   . split at h
     . obtain ⟨_,_,_,h,_⟩:=h;exact nil h
     . obtain ⟨_,_,_,_,h,_⟩:=h;exact nil h
     exact h.elim
   exact h.elim
 | mpe =>
   simp only [AOp.sem] at h;split at h
   . split at h
     . rename_i hc;obtain ⟨_,_,_,h⟩:=h;rcases h with ⟨_,_,_,_,_,rfl⟩ | ⟨_,_,rfl⟩
       . exact nil rfl
       intro p hp;simp at hp;subst hp;exact Nat.le_of_lt (qq hc)
     exact h.elim
   exact h.elim
 | est =>
   simp only [AOp.sem] at h;split at h
   . split at h
     . rename_i hc;obtain ⟨_,_,_,_,_,_,rfl⟩:=h;intro p hp;simp at hp;subst hp;exact Nat.le_of_lt (qq hc)
     exact h.elim
   exact h.elim
 | del =>
   simp only [AOp.sem] at h;split at h
   . split at h
     . rename_i hc;obtain ⟨_,_,_,_,h⟩:=h;rcases h with ⟨_,_,rfl⟩ | ⟨_,rfl⟩
       . intro p hp;simp at hp;subst hp;exact Nat.le_of_lt (qq hc)
       exact nil rfl
     exact h.elim
   exact h.elim
 | eqk=>obtain ⟨_,_,_,_,_,_,_,h⟩:=h;exact nil h
 | callx=>exact h.elim
 | rng=>exact h.elim
 | nxt=>exact h.elim
 | ent=>exact h.elim
 | isn=>exact h.elim
 | mv=>exact nil h.2
 | pick =>
   simp only [AOp.sem] at h;split at h
   . exact nil h.2
   exact h.elim
 | bin =>
   simp only [AOp.sem] at h;split at h
   . obtain ⟨_,_,_,h⟩:=h;exact nil h
   exact h.elim
 | bing=>obtain ⟨_,_,_,_,_,_,_,_,h⟩:=h;exact nil h
 | un =>
   simp only [AOp.sem] at h;split at h
   . obtain ⟨_,_,_,h⟩:=h;exact nil h
   exact h.elim
 | ext =>
   simp only [AOp.sem] at h;split at h
   . obtain ⟨_,_,_,h⟩:=h;exact nil h
   exact h.elim
 | bld=>exact nil h.2.2
 | fa=>simp only [AOp.sem] at h;split at h <;> first | exact nil h.2 | exact h.elim
 | fld=>simp only [AOp.sem] at h;split at h <;> first | exact nil h.2 | exact h.elim
 | ia=>simp only [AOp.sem] at h;split at h <;> first | exact nil h.2.2.1 | exact nil h.2.2.2 | exact h.elim
 | iaa=>simp only [AOp.sem] at h;split at h <;> first | exact nil h.2.2 | exact h.elim
 | idx=>simp only [AOp.sem] at h;split at h <;> first | exact nil h.2.2 | exact h.elim
 | ids=>simp only [AOp.sem] at h;split at h <;> first | exact nil h.2.2 | exact h.elim
 | len=>simp only [AOp.sem] at h;split at h <;> first | exact nil h.2 | exact h.elim
 | lns=>simp only [AOp.sem] at h;split at h <;> first | exact nil h.2 | exact h.elim
 | lnm=>simp only [AOp.sem] at h;(repeat' split at h) <;> first | exact nil h.2 | exact h.elim
 | cnv=>simp only [AOp.sem] at h;split at h <;> first | exact nil h.2 | exact h.elim
 | mx=>simp only [AOp.sem] at h;split at h <;> first | exact nil h.2 | exact h.elim
 | nilc=>simp only [AOp.sem] at h;split at h <;> first | exact nil h.2 | exact h.elim
 | mkf=>exact nil h.2
 | callv =>
   simp only [AOp.sem] at h;split at h
   . obtain ⟨_,_,_,h1,h2⟩ := h;rcases h2 with ⟨_,rfl⟩ | ⟨m,sz,cs,_,_,rfl⟩
     . intro p hp;cases hs:r.scalar with
       | true=>rw [hs] at hp;simp at hp
       | false=>rw [hs] at hp;exact gn (qT h1) p hp
     intro p hp;rw [List.mem_append] at hp;rcases hp with hp | hp
     . exact gn (qT h1) p (jq hp)
     simp at hp;subst hp;exact Nat.le_refl _
   exact h.elim
theorem FrOK.mono {w g w' g' F} {a:Act} (t:Trans w g w' g') (h:FrOK w g F a):FrOK w' g' F a:=fun i=>(h i).mono t
theorem FrOK.put {w g} {fr : List (Nat × AV)} {a : Act} (h : FrOK w g (get fr) a) {d : Option Nat} {r : AV} {v : Value} (hd : ∀ k,d = some k -> k < a.tmps.size) (hr : Rep w g false r v) :
 FrOK w g (get (qH fr d r)) (a.put d v):=by
 cases d with
 | none=>exact h
 | some d =>
   intro t;have hlt:=hd d rfl;simp only [qH,get,Act.put];split
   . rename_i e;subst e;simp [hlt];exact hr
   rename_i e;have:=h t;simp only [Array.getD_eq_getD_getElem?] at this ⊢;rw [Array.getElem?_setIfInBounds_ne e];exact this
theorem qb7 (fr : List (Nat × AV)) : ∀ (ts : List Nat) (t : Nat),get (ts.map fun t => (t,get fr t)) t = get fr t \/ get (ts.map fun t => (t,get fr t)) t = .any
 | [],t => .inr rfl
 | k::ts,t=>by
   simp only [List.map_cons,get];split
   . rename_i e;subst e;exact .inl rfl
   exact qb7 fr ts t
theorem Sim.keep {N st a w g} (h:Sim N st a w g) (ts:List Nat):Sim N (st.keep ts) a w g:=by
 refine ⟨h.1,fun t=>?_,h.2.2⟩;rcases qb7 st.fr ts t with e | e
 . show Rep w g false (get (ts.map fun t=>(t,get st.fr t)) t) _;rw [e];exact h.2.1 t
 show Rep w g false (get (ts.map fun t=>(t,get st.fr t)) t) _;rw [e];exact .any _ _
def qxx (N:Nat) (st:St) (a:Act) (w:World) (g:G) (K:St->Prop) (next:Act->World->Prop):Prop :=
 ∀ st' a' w' g',K st'->Sim N st' a' w' g'->Upd (hpf st.hp) g w (hpf st'.hp) g' w'->a'.defers=a.defers->next a' w'
theorem qV (a:Act) (d:Option Tmp) (v:Value):(a.put d v).defers=a.defers:=by cases d <;> rfl
theorem JA (a:Act) (d:Option Tmp) (v:Value):(a.put d v).tmps.size=a.tmps.size:=by cases d <;> simp [Act.put]
section
variable {P:Program} {E:HE} {N:Nat} {ro:Option Nat} {n:Nat}
theorem Sim.step {st : St} {a : Act} {w w' : World} {g g' : G} (h : Sim N st a w g) {d : Option Nat} {r : AV} {v : Value} {hp' : List HObj} (hd : ∀ k,d = some k -> k < N) (u : Upd (hpf st.hp) g w (hpf hp') g' w')
 (hr:Rep w' g' false r v) (hok:HeapOK (hpf hp') g' w'):Sim N { fr:=qH st.fr d r,hp:=hp' } (a.put d v) w' g' :=
 ⟨by rw [JA];exact h.1,(h.2.1.mono u.tr).put (fun k e=>by rw [h.1];exact hd k e) hr,hok⟩
theorem JQ {o : Oper} {ao : AOp} (hc : zI P N o = some ao) (h : (∃ d f qs, ao = .call d f qs) \/ (∃ d f qs, ao = .callx d f qs) \/ ∃ d x qs, ao = .callv d x qs) :
 ∃ c d,o.op = .call c/\o.dst=some d/\d<N/\QO P d c=some ao:=by
 unfold zI at hc;split at hc
 . exfalso;split at hc <;> (cases hc;try simp at h)
 . exfalso;simp only [QL] at hc;(repeat' split at hc) <;> (cases hc;try simp at h)
 . exfalso;simp only [QL] at hc;(repeat' split at hc) <;> (cases hc;try simp at h)
 . exfalso;split at hc <;> (cases hc;try simp at h)
 . exfalso;simp only [Zs] at hc;(repeat' split at hc) <;> (cases hc;try simp at h)
 . rename_i d hd;split at hc
   . rename_i hlt;generalize hop:o.op=op at hc;cases op with
     | call c=>exact ⟨c,d,rfl,hd,hlt,hc⟩
     | binOp op ty x y ty' =>
       exfalso;simp only [qP,jS,jU,jT] at hc
       (repeat' split at hc) <;> first | (cases hc;simp at h;done) | (cases hc;done) | skip
       all_goals
        rename_i hi
        (repeat' split at hi) <;> first | (cases hi;cases hc;simp at h;done) | (cases hi;done)
     | makeMap t res =>
       exfalso;cases res with
       | none=>simp only [qP] at hc;cases hc;simp at h
       | some x=>cases hc
     | next x b =>
       exfalso;cases b with
       | false=>simp only [qP,Option.map_eq_some_iff] at hc;obtain ⟨y,h1,rfl⟩:=hc;simp at h
       | true=>cases hc
     | _ =>
       exfalso
       simp only [qP,V1,JO,JP,Option.map_eq_some_iff] at hc <;> first
        | (obtain ⟨_,_,rfl⟩:=hc;simp at h;done)
        | ((repeat' split at hc) <;> first | (cases hc;done) | (cases hc;simp at h;done) | (simp only [Option.map_eq_some_iff] at hc;obtain ⟨_,_,rfl⟩:=hc;simp at h;done))
   cases hc
 cases hc
theorem XY {o:Oper} {d f qs} (hc:zI P N o=some (.call d f qs)):∃ args ats,o.op = .call { callee := .value (.func f),args:=args,argTypes:=ats }/\o.dst=some d/\d<N/\ja P f=true/\opds args.toList=some qs:=by
 obtain ⟨c,d',ho,hd,hlt,hc⟩:=JQ hc (.inl ⟨_,_,_,rfl⟩);simp only [QO] at hc;split at hc
 . simp only [Z8] at hc;split at hc <;> cases hc
 . simp only [Z7] at hc;(repeat' split at hc) <;> cases hc
 . (repeat' split at hc) <;> cases hc
 . (repeat' split at hc) <;> cases hc
 . (repeat' split at hc) <;> cases hc
 . (repeat' split at hc) <;> cases hc
 . rename_i f' args ats;split at hc
   . rename_i qs' hq;split at hc
     . rename_i hf;cases hc;exact ⟨_,_,ho,hd,hlt,hf,hq⟩
     cases hc
   cases hc
 . split at hc <;> cases hc
 cases hc
theorem qdb {o:Oper} {d f qs} (hc:zI P N o=some (.callx d f qs)):∃ args ats,o.op = .call { callee := .value (.func f),args:=args,argTypes:=ats }/\o.dst=some d/\d<N/\opds args.toList=some qs:=by
 obtain ⟨c,d',ho,hd,hlt,hc⟩:=JQ hc (.inr (.inl ⟨_,_,_,rfl⟩));simp only [QO] at hc;split at hc
 . simp only [Z8] at hc;split at hc <;> cases hc
 . simp only [Z7] at hc;(repeat' split at hc) <;> cases hc
 . (repeat' split at hc) <;> cases hc
 . (repeat' split at hc) <;> cases hc
 . (repeat' split at hc) <;> cases hc
 . (repeat' split at hc) <;> cases hc
 . rename_i f' args ats;split at hc
   . rename_i qs' hq;split at hc
     . cases hc
     cases hc;exact ⟨_,_,ho,hd,hlt,hq⟩
   cases hc
 . split at hc <;> cases hc
 cases hc
theorem qda {o:Oper} {d y qs} (hc:zI P N o=some (.callv d y qs)):∃ x args ats,o.op = .call { callee := .value x,args:=args,argTypes:=ats }/\o.dst=some d/\d<N/\opd x=some y/\opds args.toList=some qs:=by
 obtain ⟨c,d',ho,hd,hlt,hc⟩:=JQ hc (.inr (.inr ⟨_,_,_,rfl⟩));simp only [QO] at hc;split at hc
 . simp only [Z8] at hc;split at hc <;> cases hc
 . simp only [Z7] at hc;(repeat' split at hc) <;> cases hc
 . (repeat' split at hc) <;> cases hc
 . (repeat' split at hc) <;> cases hc
 . (repeat' split at hc) <;> cases hc
 . (repeat' split at hc) <;> cases hc
 . (repeat' split at hc) <;> cases hc
 . rename_i x args ats _;split at hc
   . rename_i h1 h2;cases hc;exact ⟨_,_,_,ho,hd,hlt,h1,h2⟩
   cases hc
 cases hc
theorem Zm {o : Oper} {ao : AOp} (hc : zI P N o = some ao) {st : St} {K : St -> Prop} (h : aop P E ao st K) {a : Act} {w w1 : World} {g g1 : G} (hY : YS P E w1 g1) (hg1 : Trans w1 g1 w g) (hs : Sim N st a w g)
 {next:Act->World->Prop} {Q:Exit->Act->World->Prop} (hn:qxx N st a w g K next):o.wpIn (W ro) n P a w next Q:=by
 have gen : (∃ r ws,ao.sem P (evF (get st.fr)) (hpf st.hp) st.hp.length r ws /\ K (st.step ao.dst r ws)) -> o.wpIn (W ro) n P a w next Q := fun ⟨r,ws,h1,h2⟩ => by
  have hnew:hpf st.hp st.hp.length=none:=by simp [hpf]
  obtain ⟨p1,p2,p3⟩:=qgI (ro:=ro) (n:=n) hc hs.2.1 hs.2.2 hnew h1;refine p1 next Q fun v w' hp=>?_
  obtain ⟨g',q1,q2,q3⟩:=hp;rw [<-zh (Xw h1)] at q2 q3;refine hn _ _ w' g' h2 ?_ q3 (qV _ _ _);have:=hs.step (d:=o.dst) p3 q3 q1 q2;rw [p2];exact this
 have many : ∀ {d : Nat},ao.dst = some d -> ao.isMany = true -> (ao.many (evF (get st.fr)) (hpf st.hp) st.hp.length fun r ws => K (st.step (some d) r ws)) -> o.wpIn (W ro) n P a w next Q := fun {d} hd hm h => by
  have hnew:hpf st.hp st.hp.length=none:=by simp [hpf]
  obtain ⟨p1,p2,p3⟩:=qjq (ro:=ro) (n:=n) hc hm hs.2.1 hs.2.2 hnew (qiE h);refine p1 next Q fun v w' hp=>?_
  obtain ⟨r,ws,⟨hids,hK⟩,g',q1,q2,q3⟩:=hp;rw [<-zh hids] at q2 q3;refine hn _ _ w' g' hK ?_ q3 (qV _ _ _);have:=hs.step (d:=some d) (fun k e=>p3 k (by rw [<-p2,hd];exact e)) q3 q1 q2;rw [<-p2,hd];exact this
 cases ao with
 | rng d x=>exact many rfl rfl h
 | nxt d x=>exact many rfl rfl h
 | ent d x=>exact many rfl rfl h
 | isn d b kd x=>exact many rfl rfl h
 | callx d f qs =>
   obtain ⟨args,ats,ho,hd,hlt,hq⟩:=qdb hc;obtain ⟨r,hext,hK⟩:=h;have hv:=qgE (r:=r) ho rfl hq hs.2.1 hs.2.2 hext;refine OpRun.of_value (by rw [ho];simp) hv next Q fun v w' hp=>?_
   obtain ⟨g',q1,q2,q3⟩:=hp;refine hn _ _ w' g' hK ?_ q3 (qV _ _ _);have:=hs.step (d:=some d) (fun k e=>by cases e;exact hlt) q3 q1 q2;rw [hd];exact this
 | call d f qs =>
   obtain ⟨args,ats,ho,hd,hlt,hf,hq⟩:=XY hc;obtain ⟨l1,l2⟩:=QR hq;refine ⟨fun _ _=>trivial,?_⟩;rw [Oper.semAt_eq _ _ _ (by rw [ho];simp)];have hrun:(execOp a.eval o).run P w = .ok (.enter f (args.map a.eval)) w:=by simp [execOp,ho,resolve,Act.eval,Deferred.ofValue,invoke,zo hf]
   rw [hrun];refine ⟨fun h=>by simp [Fence.wide] at h,?_⟩;refine (h w1 g1 hY ro (n - 1) w g (args.map a.eval) hs.2.2 hg1 (by simp [l1]) (fun i hi=>?_)).mono ?_
   . simp at hi;have:=qi hs.2.1 (l2 i (by omega) hi);simpa [show i<args.size by simp at l1;omega] using this
   rintro e w' ⟨v,r,hp',g',rfl,hK,hr,hok,hu⟩;refine hn _ _ w' g' hK ?_ hu (qV _ _ _);have:=hs.step (d:=some d) (fun k e=>by cases e;exact hlt) hu hr hok;rw [hd];exact this
 | callv d y qs =>
   obtain ⟨x,args,ats,ho,hd,hlt,hx,hq⟩:=qda hc;obtain ⟨l1,l2⟩:=QR hq;simp only [aop] at h;split at h
   . rename_i f first caps hy
     obtain ⟨hf,h⟩:=h;have ex:=qi hs.2.1 hx;rw [hy] at ex;generalize hv:a.eval x=v at ex;cases ex with
     | fn _ _ _ _ xs ys hl hl' hr hr' =>
       refine ⟨fun _ _=>trivial,?_⟩;rw [Oper.semAt_eq _ _ _ (by rw [ho];simp)];have hrun:(execOp a.eval o).run P w = .ok (.enter f (xs.toArray++args.map a.eval++ys.toArray)) w:=by simp [execOp,ho,resolve,hv,Deferred.ofValue,invoke,zo hf]
       rw [hrun];refine ⟨fun h=>by simp [Fence.wide] at h,?_⟩;refine (h ro (n - 1) w g (xs.toArray++args.map a.eval++ys.toArray) hs.2.2 (by simp [l1,hl,hl']) (fun i hi=>?_)).mono ?_
       . have hargs : args.size = qs.length := by simpa using l1.symm
         have hi':i<first.length+qs.length+caps.length:=by simpa [Nat.add_assoc] using hi
         by_cases c1:i<first.length
         . rw [List.getElem_append_left (by simp;omega),List.getElem_append_left c1];have:=hr i c1;simp only [Array.getD_eq_getD_getElem?,List.getD_eq_getElem?_getD] at this ⊢;rw [Array.getElem?_append_left (by simp;omega),Array.getElem?_append_left (by simp;omega)];simpa using this
         by_cases c2:i<first.length+qs.length
         . rw [List.getElem_append_left (by simp; omega),List.getElem_append_right (by omega)];have:=qi hs.2.1 (l2 (i - first.length) (by omega) (by omega))
           simp only [Array.getD_eq_getD_getElem?];rw [Array.getElem?_append_left (by simp;omega),Array.getElem?_append_right (by simp;omega)];have hlt':i - xs.length<args.size:=by omega
           simp only [List.size_toArray,Array.getElem?_map];simp only [hl];rw [hl] at hlt';simpa [hlt'] using this
         rw [List.getElem_append_right (by simp;omega)];have hlen:i - (first++qs.map (evF (get st.fr))).length<caps.length:=by simp;omega
         have:=hr' _ hlen;simp only [Array.getD_eq_getD_getElem?,List.getD_eq_getElem?_getD] at this ⊢;rw [Array.getElem?_append_right (by simp;omega)];have e:i - (xs.toArray++args.map a.eval).size=i - (first++qs.map (evF (get st.fr))).length:=by simp [hl,hargs]
         rw [e];simpa using this
       rintro e w' ⟨v,r,hp',g',rfl,hK,hr,hok,hu⟩;refine hn _ _ w' g' hK ?_ hu (qV _ _ _);have:=hs.step (d:=some d) (fun k e=>by cases e;exact hlt) hu hr hok;rw [hd];exact this
   . rename_i id hy;have ex:=qi hs.2.1 hx;rw [hy] at ex;generalize hv:a.eval x=v at ex;cases ex with
     | yl _ c hl =>
       obtain ⟨K0,hK0,hKK⟩:=h;obtain ⟨f,tmps,assign,body,hrun,hround⟩:=hY _ _ _ _ hK0 ro (n - 1) w g c (args.map a.eval) hs.2.2 hg1 hl (by simp [l1]) (fun i hi=>by simp at hi;have:=qi hs.2.1 (l2 i (by omega) hi);simpa [show i<args.size by simp at l1;omega] using this);refine ⟨fun _ _=>trivial,?_⟩;rw [Oper.semAt_eq _ _ _ (by rw [ho];simp)];have hrun':(execOp a.eval o).run P w = .ok (.round c f tmps assign body) w:=by simp [execOp,ho,resolve,hv,Deferred.ofValue,invoke,hrun]
       rw [hrun'];refine ⟨fun h=>by simp [Fence.wide] at h,?_⟩;refine hround.mono ?_;rintro e w' ⟨v,r,hp',g',rfl,hK,hr,hok,hu⟩;refine hn _ _ w' g' (hKK _ _ hK) ?_ hu (qV _ _ _);have:=hs.step (d:=some d) (fun k e=>by cases e;exact hlt) hu hr hok;rw [hd];exact this
   exact h.elim
 | _=>exact gen h
def JW (ops : Array Oper) : Option (Nat × Bool) -> Option (Option (Nat × Bool))
 | none=>some none
 | some (j,b)=>match ops[j]? with
   | some o=>match o.dst with
     | some d=>some (some (d,b))
     | none=>none
   | none=>none
def zZ (P : Program) (N : Nat) (ops : Array Oper) : List Oper -> Option (List (Option (Nat × Bool) × AOp))
 | []=>some []
 | o::l=>match zI P N o,JW ops o.guard,zZ P N ops l with
   | some ao,some g,some r=>some ((g,ao)::r)
   | _,_,_=>none
def JI (P : Program) (E : HE) : List (Option (Nat × Bool) × AOp) -> St -> (St -> Prop) -> Prop
 | [],st,K=>K st
 | (none,o)::l,st,K=>aop P E o st fun st=>JI P E l st K
 | (some (j,b),o)::l,st,K=>match get st.fr j with
   | .v (.bool c)=>(c=b->aop P E o st fun st=>JI P E l st K)/\(c≠b->JI P E l (qI [o] st) K)
   | .v (.tuple _)=>JI P E l (qI [o] st) K
   | _=>False
def qfi (g:Option (Nat × Bool)) (d:Option Nat):Bool:=match g with
 | some (j,_) => !(d==some j)
 | none=>true
def grp : List (Option (Nat × Bool) × AOp) -> List Grp
 | []=>[]
 | (g,o)::l=>match grp l with
   | ⟨g',os⟩::gs=>if g=g'/\qfi g o.dst=true then ⟨g,o::os⟩::gs else ⟨g,[o]⟩::⟨g',os⟩::gs
   | []=>[⟨g,[o]⟩]
theorem ZC {o:AOp} {st:St} {K K':St->Prop} (hk:∀ st',(∀ t,o.dst≠some t->get st'.fr t=get st.fr t)->K st'->K' st') (h:aop P E o st K):aop P E o st K':=by
 have gen:∀ o':AOp,o'.dst=o.dst->(∃ r ws,o'.sem P (evF (get st.fr)) (hpf st.hp) st.hp.length r ws/\K (st.step o'.dst r ws))->∃ r ws,o'.sem P (evF (get st.fr)) (hpf st.hp) st.hp.length r ws/\K' (st.step o'.dst r ws):=fun o' e ⟨r,ws,h1,h2⟩ =>
  ⟨r,ws,h1,hk _ (fun t ht => by
   rw [e];cases hd:o.dst with
   | none=>rfl
   | some d =>rw [hd] at ht;have:¬ d=t:=fun e=>ht (by rw [e]);simp [St.step,qH,get,this]) h2⟩
 have cl:∀ {d:Nat} {f xs},o.dst=some d->qw P f xs st.hp (fun r hp'=>K { fr:=(d,r)::st.fr,hp:=hp' })->qw P f xs st.hp (fun r hp'=>K' { fr:=(d,r)::st.fr,hp:=hp' }):=fun {d f xs} hd hc ro n w g vs h1 h2 h3 =>
  (hc ro n w g vs h1 h2 h3).mono fun e w' ⟨v,r,hp',g',e1,e2,e3⟩=>⟨v,r,hp',g',e1,hk _ (fun t ht=>by rw [hd] at ht;have:¬ d=t:=fun e=>ht (by rw [e]);simp [get,this]) e2,e3⟩
 cases o with
 | call d f qs =>have h:jF P E f (qs.map (evF (get st.fr))) st.hp (fun r hp'=>K { fr:=(d,r)::st.fr,hp:=hp' }):=h;exact jm (fun r hp' h=>hk _ (fun t ht=>by have:¬ d=t:=fun e=>ht (by rw [<-e];rfl);simp [get,this]) h) h
 | callv d y qs =>
   simp only [aop] at h ⊢;split at h
   . exact ⟨h.1,cl rfl h.2⟩
   . obtain ⟨K0,h1,h2⟩:=h;exact ⟨K0,h1,fun r hp' hk0=>hk _ (fun t ht=>by have:¬ d=t:=fun e=>ht (by rw [<-e];rfl);simp [get,this]) (h2 r hp' hk0)⟩
   exact h.elim
 | callx d f qs =>obtain ⟨r,h1,h2⟩:=h;exact ⟨r,h1,hk _ (fun t ht=>by have:¬ d=t:=fun e=>ht (by rw [<-e];rfl);simp [get,this]) h2⟩
 | rng d x =>simp only [aop] at h ⊢;exact Zx (K:=fun r ws=>K (st.step (some d) r ws)) (fun r ws h=>hk _ (fun t ht=>by have:¬ d=t:=fun e=>ht (by rw [<-e];rfl);simp [St.step,qH,get,this]) h) h
 | nxt d x =>simp only [aop] at h ⊢;exact Zx (K:=fun r ws=>K (st.step (some d) r ws)) (fun r ws h=>hk _ (fun t ht=>by have:¬ d=t:=fun e=>ht (by rw [<-e];rfl);simp [St.step,qH,get,this]) h) h
 | ent d x =>simp only [aop] at h ⊢;exact Zx (K:=fun r ws=>K (st.step (some d) r ws)) (fun r ws h=>hk _ (fun t ht=>by have:¬ d=t:=fun e=>ht (by rw [<-e];rfl);simp [St.step,qH,get,this]) h) h
 | isn d b kd x =>simp only [aop] at h ⊢;exact Zx (K:=fun r ws=>K (st.step (some d) r ws)) (fun r ws h=>hk _ (fun t ht=>by have:¬ d=t:=fun e=>ht (by rw [<-e];rfl);simp [St.step,qH,get,this]) h) h
 | _=>exact gen _ rfl h
theorem z9 : ∀ {os : List AOp} {st : St} {K K' : St -> Prop},(∀ st',K st' -> K' st') -> zb P E os st K -> zb P E os st K'
 | [],st,K,K',hk,h=>hk st h
 | o::os,st,K,K',hk,h=>ZC (fun _ _ h=>z9 hk h) h
theorem Q3 (o:AOp) (os:List AOp) (st:St):qI (o::os) st=qI os (qI [o] st):=by simp only [qI,List.filterMap_cons,List.filterMap_nil];cases o.dst <;> simp
theorem jE {o:AOp} {st:St} {j:Nat} (h:o.dst≠some j):get (qI [o] st).fr j=get st.fr j:=by
 simp only [qI,List.filterMap_cons,List.filterMap_nil];cases hd:o.dst with
 | none=>simp
 | some d =>rw [hd] at h;have:¬ d=j:=fun e=>h (by rw [e]);simp [get,this]
theorem Zw : ∀ {l : List (Option (Nat × Bool) × AOp)} {st : St} {K : St -> Prop}, q7 P E (grp l) st K -> JI P E l st K
 | [],st,K,h=>h
 | (g, o)::l, st, K, h=>by
   have one : q7 P E (⟨g, [o]⟩ :: grp l) st K -> JI P E ((g, o) :: l) st K := fun h => by
    cases g with
    | none=>exact ZC (fun _ _ h=>Zw h) h
    | some jb =>
      obtain ⟨j,b⟩:=jb;simp only [q7,JI] at h ⊢;split at h
      . rename_i c hc
        try rw [hc]
        exact ⟨fun e=>ZC (fun _ _ h=>Zw h) (h.1 e),fun e=>Zw (h.2 e)⟩
      . rename_i c hc
        try rw [hc]
        exact Zw h
      exact h.elim
   simp only [grp] at h;split at h
   . rename_i g' os gs hg;split at h
     . rename_i hcond;obtain ⟨rfl,hdst⟩:=hcond;have ih:∀ st K,q7 P E (⟨g,os⟩::gs) st K->JI P E l st K:=fun st K h=>Zw (by rw [hg];exact h);cases g with
       | none=>exact ZC (fun st' _ h=>ih _ _ h) h
       | some jb =>
         obtain ⟨j,b⟩:=jb;have hdst:o.dst≠some j:=by simpa [qfi] using hdst
         simp only [q7,JI] at h ⊢;split at h
         . rename_i c hc
           try rw [hc]
           refine ⟨fun e=>ZC (fun st' hfr h=>ih _ _ ?_) (h.1 e),fun e=>ih _ _ ?_⟩
           . simp only [q7];rw [hfr j hdst,hc];exact ⟨fun _=>h,fun h'=>absurd e h'⟩
           simp only [q7];rw [jE hdst,hc];refine ⟨fun h'=>absurd h' e,fun _=>?_⟩;rw [<-Q3];exact h.2 e
         . rename_i c hc
           try rw [hc]
           refine ih _ _ ?_;simp only [q7];rw [jE hdst,hc];simp only;rw [<-Q3];exact h
         exact h.elim
     rw [<-hg] at h;exact one h
   rename_i hg;rw [<-hg] at h;exact one h
theorem Sim.put_undef {st:St} {a:Act} {w:World} {g:G} (h:Sim N st a w g) {o:AOp} {d:Option Nat} (hd:o.dst=d) (hlt:∀ k,d=some k->k<N):Sim N (qI [o] st) (a.put d undef) w g:=by have:=h.step (d:=d) (r := .v undef) (v:=undef) hlt (.refl _ _ _) (.v _ _) h.2.2;simp only [qI,List.filterMap_cons,List.filterMap_nil,hd];cases d <;> exact this
def zS (a:Act) (gd:Option (Nat × Bool)):Bool:=match gd with
 | none=>true
 | some (d,b)=>(match a.tmps[d]? with | some (.bool c)=>some c | _=>none)==some b
theorem zP {ops : Array Oper} {o : Oper} {gd : Option (Nat × Bool)} (hg : JW ops o.guard = some gd) {a : Act} :
 Region.wanted o (yielded ops a.tmps)=zS a gd:=by
 unfold Region.wanted zS;generalize o.guard=og at hg ⊢;cases h:og with
 | none=>subst h;simp [JW] at hg;subst hg;rfl
 | some jb =>
   obtain ⟨j,b⟩:=jb;subst h;simp only [JW] at hg;split at hg
   . rename_i o' ho';split at hg
     . rename_i d hd;cases hg;simp only [yielded,ho',Option.bind_some,hd];cases a.tmps[d]? with
       | none=>rfl
       | some y=>cases y <;> rfl
     cases hg
   cases hg
theorem WK {o:Oper} {ao:AOp} (hc:zI P N o=some ao):ao.dst=o.dst/\∀ d,o.dst=some d->d<N:=by
 unfold zI at hc;split at hc
 . rename_i t x y hd ho;split at hc
   . cases hc;exact ⟨hd.symm,fun d e=>by rw [hd] at e;cases e⟩
   cases hc
 . rename_i hd _;simp only [QL] at hc
   (repeat' split at hc) <;> first | (cases hc;exact ⟨hd.symm,fun d e=>by rw [hd] at e;cases e⟩) | cases hc
 . rename_i hd _;simp only [QL] at hc
   (repeat' split at hc) <;> first | (cases hc;exact ⟨hd.symm,fun d e=>by rw [hd] at e;cases e⟩) | cases hc
 . rename_i hd _;split at hc <;> first | (cases hc;exact ⟨hd.symm,fun d e=>by rw [hd] at e;cases e⟩) | cases hc
 . rename_i hd _;simp only [Zs] at hc
   (repeat' split at hc) <;> first | (cases hc;exact ⟨hd.symm,fun d e=>by rw [hd] at e;cases e⟩) | cases hc
 . rename_i d hd;split at hc
   . rename_i hlt;exact ⟨by rw [Y5 hc,hd],fun d' e=>by rw [hd] at e;cases e;exact hlt⟩
   cases hc
 cases hc
theorem qcy {st:St} {a:Act} {w:World} {g:G} (hs:Sim N st a w g) {j:Nat} {x:Value} (hj:get st.fr j = .v x) (hx:∀ b,x = .bool b\/x=undef->True):a.tmps.getD j undef=x:=by have:=hs.2.1 j;rw [hj] at this;exact zu this
theorem Y0 {ops : Array Oper} {w1 : World} {g1 : G} (hY : YS P E w1 g1) : ∀ (k : Nat) {l : List Oper} {cl : List (Option (Nat × Bool) × AOp)} {st : St} {K : St -> Prop} {a : Act} {w : World} {g : G} {Q : Exit -> Act -> World -> Prop},
 (∀ j,l[j]?=ops[k+j]?)->zZ P N ops l=some cl->JI P E cl st K->Trans w1 g1 w g->Sim N st a w g->qxx N st a w g K (Q .normal)->wpOpsIn (W ro) n P ops Q (List.range' k l.length) a w
 | k,[],cl,st,K,a,w,g,Q,hl,hc,h,hg1,hs,hn=>by simp [zZ] at hc;subst hc;exact hn st a w g h hs (.refl _ _ _) rfl
 | k, o::l, cl, st, K, a, w, g, Q, hl, hc, h, hg1, hs, hn=>by
   simp only [zZ] at hc;split at hc
   . rename_i ao gd cl' h1 h2 h3;cases hc;have ho:ops[k]?=some o:=by have:=hl 0;simpa using this.symm
     have hl':∀ j,l[j]?=ops[k+1+j]?:=fun j=>by have:=hl (j+1);simpa [Nat.add_assoc,Nat.add_comm 1 j] using this
     obtain ⟨d1,d2⟩:=WK h1
     have hstep:∀ st' a' w' g',JI P E cl' st' K->Sim N st' a' w' g'->Upd (hpf st.hp) g w (hpf st'.hp) g' w'->a'.defers=a.defers->wpOpsIn (W ro) n P ops Q (List.range' (k+1) l.length) a' w':=fun st' a' w' g' hK hs' hu hd =>
      Y0 hY (k+1) hl' h3 hK (hg1.trans hu.tr) hs' (fun st2 a2 w2 g2 k2 s2 u2 e2=>hn st2 a2 w2 g2 k2 s2 (hu.trans u2) (e2.trans hd))
     simp only [List.length_cons,List.range'_succ,wpOpsIn,ho];rw [zP h2];unfold zS;have skip:JI P E cl' (qI [ao] st) K->wpOpsIn (W ro) n P ops Q (List.range' (k+1) l.length) (a.put o.dst undef) w:=fun h=>hstep _ _ w g h (hs.put_undef d1 d2) (.refl _ _ _) (qV _ _ _);cases gd with
     | none=>simp only [if_true];exact Zm h1 h hY hg1 hs hstep
     | some jb =>
       obtain ⟨j,b⟩:=jb;simp only [JI] at h;split at h
       . rename_i c hj;have hv:=qcy hs hj (fun _ _=>trivial)
         have hlt:j<a.tmps.size:=by
          rcases Nat.lt_or_ge j a.tmps.size with h' | h'
          . exact h'
          simp [undef,h'] at hv
         have hv':a.tmps[j]?=some (.bool c):=by simp [hlt] at hv;simp [hlt,hv]
         simp only [hv'];by_cases e:c=b
         . subst e;simp only [beq_self_eq_true,if_true];exact Zm h1 (h.1 rfl) hY hg1 hs hstep
         have:(some c==some b)=false:=by simp [e]
         simp only [this,Bool.false_eq_true,if_false];exact ⟨fun _ _=>trivial,skip (h.2 e)⟩
       . rename_i c hj;have hv:=qcy hs hj (fun _ _=>trivial)
         have hno : ((match a.tmps[j]? with | some (.bool c) => some c | _ => none) == some b) = false := by
          cases ht:a.tmps[j]? with
          | none=>rfl
          | some y =>
            have:y = .tuple c:=by simpa [ht] using hv
            subst this;rfl
         simp only [hno,Bool.false_eq_true,if_false];exact ⟨fun _ _=>trivial,skip h⟩
       exact h.elim
   cases hc
end
structure Wr (κ β:Type) where
 on:κ->Bool
 c:κ->β
def Wr.app {κ β:Type} (a:Wr κ β) (F:κ->β):κ->β:=fun k=>if a.on k then a.c k else F k
def qm {κ β : Type} : List (Wr κ β) -> (Nat -> Bool) -> (κ -> β) -> κ -> β
 | [],_,F=>F
 | a::l,X,F=>qm l (fun j=>X (j+1)) (if X 0 then a.app F else F)
theorem qe {κ β : Type} {key : κ} : ∀ {l : List (Wr κ β)} {X Y : Nat -> Bool} {F F' : κ -> β},F key = F' key -> (∀ i (h : i < l.length),l[i].on key = true -> X i = Y i) -> qm l X F key = qm l Y F' key
 | [],X,Y,F,F',h,_=>h
 | a::l, X, Y, F, F', h, hh=>by
   simp only [qm];refine qe ?_ (fun i hi ho=>hh (i+1) (by simpa using hi) (by simpa using ho));by_cases e:a.on key=true
   . rw [hh 0 (by simp) (by simpa using e)];split <;> simp [Wr.app,e,h]
   have e':a.on key=false:=by simpa using e
   split <;> split <;> simp [Wr.app,e',h]
theorem qhm {κ β:Type} {a b:Wr κ β} (h:∀ k,a.on k=true->b.on k=false) (F:κ->β):a.app (b.app F)=b.app (a.app F):=by
 funext k;simp only [Wr.app];by_cases e:a.on k=true
 . simp [e,h k e]
 simp [e]
theorem V4 {κ β : Type} {a : Wr κ β} : ∀ {l : List (Wr κ β)} {X : Nat -> Bool} {F : κ -> β},(∀ i (h : i < l.length),X i = true -> ∀ k,a.on k = true -> l[i].on k = false) -> qm l X (a.app F) = a.app (qm l X F)
 | [],X,F,_=>rfl
 | b::l, X, F, h=>by
   simp only [qm];rw [<-V4 (fun i hi hx=>by have:=h (i+1) (by simpa using hi) hx;simpa using this)];congr 1;split
   . rename_i e;have:=h 0 (by simp) e;exact (qhm (by simpa using this) F).symm
   rfl
theorem zn {κ β : Type} : ∀ {l : List (Wr κ β)} {X Y : Nat -> Bool} {F : κ -> β} {i : Nat} (hi : i < l.length),X i = false -> Y i = true -> (∀ j,j ≠ i -> Y j = X j) ->
 (∀ k (h:k<l.length),i<k->X k=true->∀ key,l[i].on key=true->l[k].on key=false)->qm l Y F=l[i].app (qm l X F)
 | [],X,Y,F,i,hi,_,_,_,_=>by simp at hi
 | a::l,X,Y,F,0,hi,hx,hy,hj,h=>by
   simp only [qm,hx,hy,if_true,List.getElem_cons_zero];have:(fun j=>Y (j+1))=fun j=>X (j+1):=by funext j;exact hj (j+1) (by omega)
   rw [this];exact V4 (fun k hk hx key hon=>by have:=h (k+1) (by simpa using hk) (by omega) hx key (by simpa using hon);simpa using this)
 | a::l,X,Y,F,i+1,hi,hx,hy,hj,h=>by simp only [qm,List.getElem_cons_succ];rw [hj 0 (by omega)];exact zn (by simpa using hi) hx hy (fun j hne=>hj (j+1) (by omega)) (fun k hk hlt hx key hon=>by have:=h (k+1) (by simpa using hk) (by omega) hx key (by simpa using hon);simpa using this)
theorem qbG {hp hp':Hp} {r ws agg sz x} (h:Q0 hp r ws agg sz x) (hl:∀ i∈x.ids,hp' i=hp i):Q0 hp' r ws agg sz x:=by
 unfold Q0 at h ⊢;cases x with
 | ptr cs off=>exact h
 | ref id off=>simp only at h ⊢;rw [hl id (by simp [AV.ids,AV.ids1])];exact h
 | _=>exact h
theorem Vu {hp hp' : Hp} {f f' : AV -> Option (AV × List Nat)} (hf : ∀ {x y is},f x = some (y,is) -> (∀ i ∈ is,hp' i = hp i) -> f' x = some (y,is)) : ∀ {xs ys : List AV} {is : List Nat},jI f xs = some (ys,is) -> (∀ i ∈ is,hp' i = hp i) -> jI f' xs = some (ys,is)
 | [],ys,is,h,_=>h
 | x::xs, ys, is, h, hl=>by
   simp only [jI] at h ⊢;split at h
   . rename_i y a ys' b h1 h2;simp only [Option.some.injEq,Prod.mk.injEq] at h;obtain ⟨rfl,rfl⟩:=h;rw [hf h1 (fun i hi=>hl i (List.mem_append_left _ hi)),Vu hf h2 (fun i hi=>hl i (List.mem_append_right _ hi))]
   cases h
theorem je {hp hp':Hp} {f f':AV->Option (AV × List Nat)} (hf:∀ {x y is},f x=some (y,is)->(∀ i∈is,hp' i=hp i)->f' x=some (y,is)) {id:Nat} {ys:List AV} {is:List Nat} (h:Ze f hp id=some (ys,is)) (hl:∀ i∈is,hp' i=hp i):Ze f' hp' id=some (ys,is):=by obtain ⟨cs,js,h1,h2,rfl⟩:=jB h;have:=hl id (by simp);unfold Ze;rw [this,h1];simp only;rw [Vu hf h2 (fun i hi=>hl i (by simp [hi]))]
theorem qdz {hp hp':Hp}:∀ {k:Nat} {x y:AV} {is:List Nat},Yu hp k x=some (y,is)->(∀ i∈is,hp' i=hp i)->Yu hp' k x=some (y,is):=by
 intro k
 induction k with
 | zero=>intro x y is h _;cases x <;> simp only [Yu] at h ⊢ <;> first | exact h | cases h
 | succ k ih =>
   intro x y is h hl;cases x <;> simp only [Yu] at h ⊢ <;> first | exact h | (cases h;done) | skip
   . split at h
     . rename_i ys js hq;have e:=h;simp only [Option.some.injEq,Prod.mk.injEq] at e;obtain ⟨-,rfl⟩:=e;rw [je ih hq hl];exact h
     cases h
   . split at h
     . rename_i ys js hq;split at h
       . rename_i hle;have e:=h;simp only [Option.some.injEq,Prod.mk.injEq] at e;obtain ⟨-,rfl⟩:=e;rw [je ih hq hl];simp only [if_pos hle];exact h
       cases h
     cases h
   split at h
   . rename_i ys js hq;split at h
     . rename_i hle;have e:=h;simp only [Option.some.injEq,Prod.mk.injEq] at e;obtain ⟨-,rfl⟩:=e;rw [je ih hq hl];simp only [if_pos hle];exact h
     cases h
   cases h
theorem Jy {hp hp':Hp} {x y:AV} {is:List Nat} (h:zk hp x=some (y,is)) (hl:∀ i∈is,hp' i=hp i):zk hp' x=some (y,is):=by cases x <;> simp only [zk] at h ⊢ <;> first | exact h | (cases h;done) | exact qdz h hl
theorem QA {hp hp' : Hp} : ∀ {xs ys : List AV} {is : List Nat},zt hp xs = some (ys,is) -> (∀ i ∈ is,hp' i = hp i) -> zt hp' xs = some (ys,is)
 | [],ys,is,h,_=>h
 | x::xs, ys, is, h, hl=>by
   simp only [zt] at h ⊢;split at h
   . rename_i y a ys' b h1 h2;simp only [Option.some.injEq,Prod.mk.injEq] at h;obtain ⟨rfl,rfl⟩:=h;rw [Jy h1 (fun i hi=>hl i (List.mem_append_left _ hi)),QA h2 (fun i hi=>hl i (List.mem_append_right _ hi))]
   cases h
theorem Jz {hp hp':Hp} {x y:AV} {is:List Nat} (h:qF hp x=some (y,is)) (hl:∀ i∈is,hp' i=hp i):qF hp' x=some (y,is):=by
 cases x with
 | agg cs =>simp only [qF,Option.map_eq_some_iff] at h ⊢;obtain ⟨⟨ys,a⟩,h1,h2⟩:=h;have e:=h2;simp only [Prod.mk.injEq] at e;obtain ⟨-,rfl⟩:=e;exact ⟨_,QA h1 hl,h2⟩
 | fn f as bs =>
   simp only [qF] at h ⊢;split at h
   . rename_i y a ys' b h1 h2;simp only [Option.some.injEq,Prod.mk.injEq] at h;obtain ⟨rfl,rfl⟩:=h;rw [QA h1 (fun i hi=>hl i (List.mem_append_left _ hi)),QA h2 (fun i hi=>hl i (List.mem_append_right _ hi))]
   cases h
 | _=>simp only [qF] at h ⊢;exact Jy h hl
theorem ZM {hp hp' : Hp} : ∀ {xs ys : List AV} {is : List Nat},zD hp xs = some (ys,is) -> (∀ i ∈ is,hp' i = hp i) -> zD hp' xs = some (ys,is)
 | [],ys,is,h,_=>h
 | x::xs, ys, is, h, hl=>by
   simp only [zD] at h ⊢;split at h
   . rename_i y a ys' b h1 h2;simp only [Option.some.injEq,Prod.mk.injEq] at h;obtain ⟨rfl,rfl⟩:=h;rw [Jz h1 (fun i hi=>hl i (List.mem_append_left _ hi)),ZM h2 (fun i hi=>hl i (List.mem_append_right _ hi))]
   cases h
theorem Yv {hp hp':Hp} {x y:AV} {is:List Nat} (h:qv hp x=some (y,is)) (hl:∀ i∈is,hp' i=hp i):qv hp' x=some (y,is):=by
 cases x with
 | agg cs =>simp only [qv,Option.map_eq_some_iff] at h ⊢;obtain ⟨⟨ys,a⟩,h1,h2⟩:=h;have e:=h2;simp only [Prod.mk.injEq] at e;obtain ⟨-,rfl⟩:=e;exact ⟨_,ZM h1 hl,h2⟩
 | tup cs =>simp only [qv,Option.map_eq_some_iff] at h ⊢;obtain ⟨⟨ys,a⟩,h1,h2⟩:=h;have e:=h2;simp only [Prod.mk.injEq] at e;obtain ⟨-,rfl⟩:=e;exact ⟨_,ZM h1 hl,h2⟩
 | _=>simp only [qv] at h ⊢;exact Jz h hl
theorem qM {hp hp' : Hp} : ∀ {xs ys : List AV} {is : List Nat},qh hp xs = some (ys,is) -> (∀ i ∈ is,hp' i = hp i) -> qh hp' xs = some (ys,is)
 | [],ys,is,h,_=>h
 | x::xs, ys, is, h, hl=>by
   simp only [qh] at h ⊢;split at h
   . rename_i y a ys' b h1 h2;simp only [Option.some.injEq,Prod.mk.injEq] at h;obtain ⟨rfl,rfl⟩:=h;rw [Yv h1 (fun i hi=>hl i (List.mem_append_left _ hi)),qM h2 (fun i hi=>hl i (List.mem_append_right _ hi))]
   cases h
theorem Qu {hp:Hp} {xs ys:List AV} {is:List Nat} (h:qh hp xs=some (ys,is)):qij hp xs=is:=by unfold qij;rw [h]
theorem ZE {hp hp':Hp} {sz:Nat} {x:AV} (hl:∀ i∈x.ids,hp' i=hp i):elems hp' sz x=elems hp sz x:=by
 cases x with
 | ms id off n sz'=>simp only [elems];rw [hl id (by simp [AV.ids,AV.ids1])]
 | mc id off n c sz'=>simp only [elems];rw [hl id (by simp [AV.ids,AV.ids1])]
 | _=>rfl
theorem ji {hp hp':Hp} {new new':Nat} {r:AV} {ws:List (Nat × HObj)} {sz bytes m:Nat} {x:AV} {ys:List AV} (h:zl hp new r ws sz bytes x m ys) (hH:∀ i∈x.ids,hp' i=hp i) (hn:new∈ws.map (·.1)->new'=new):zl hp' new' r ws sz bytes x m ys:=by
 simp only [zl] at h ⊢;split at h
 . obtain ⟨b1,b2,b3,b4,b5,rfl,rfl⟩:=h;have:=hn (by simp);subst this;exact ⟨b1,b2,b3,b4,b5,rfl,rfl⟩
 . rename_i id off n sz';have:=hH id (by simp [AV.ids,AV.ids1]);simp only [this];split at h
   . obtain ⟨b1,b2,b3,b4,rfl,rfl⟩:=h;have:=hn (by simp);subst this;exact ⟨b1,b2,b3,b4,rfl,rfl⟩
   exact h.elim
 . rename_i id off n c sz';have:=hH id (by simp [AV.ids,AV.ids1]);simp only [this];split at h
   . obtain ⟨b1,b2,b3,b4,h⟩ := h;refine ⟨b1,b2,b3,b4,?_⟩;rcases h with h | ⟨h1,rfl,rfl⟩
     . exact .inl h
     have:=hn (by simp);subst this;exact .inr ⟨h1,rfl,rfl⟩
   exact h.elim
 exact h.elim
theorem V6 {P : Program} {o : AOp} {F F' : Nat -> AV} {hp hp' : Hp} {new : Nat} {r : AV} {ws : List (Nat × HObj)} (h : o.sem P (evF F) hp new r ws)
 (hF:∀ x∈o.opds,evF F' x=evF F x) (hH:∀ i∈o.foot F hp,hp' i=hp i):o.foot F' hp'=o.foot F hp:=by
 have e1 : (bif o.looks then o.opds.flatMap fun x => (evF F' x).ids else []) = bif o.looks then o.opds.flatMap fun x => (evF F x).ids else [] := by
  have : ∀ {l : List Opd},(∀ x ∈ l,evF F' x = evF F x) -> (l.flatMap fun x => (evF F' x).ids) = l.flatMap fun x => (evF F x).ids := by
   intro l hl
   induction l with
   | nil=>rfl
   | cons a l ih=>simp only [List.flatMap_cons,hl a (by simp),ih (fun x hx=>hl x (by simp [hx]))]
  rw [this hF]
 have e2:o.more (evF F') hp'=o.more (evF F) hp:=by
  have lst:∀ {xs:List Opd},(∀ x∈xs,x∈o.opds)->xs.map (evF F')=xs.map (evF F):=fun hsub=>List.map_congr_left (fun x hx=>hF x (hsub x hx));have hM:∀ i∈o.more (evF F) hp,hp' i=hp i:=fun i hi=>hH i (by simp only [AOp.foot,List.mem_append];exact .inr hi);cases o <;> first | rfl | skip
  . rename_i d n sz z ps;simp only [AOp.sem] at h;have e:(ps.map fun p=>evF F' p.2)=ps.map fun p=>evF F p.2:=List.map_congr_left (fun p hp=>hF _ (by simp [AOp.opds];exact ⟨_,hp⟩));obtain ⟨ys,ids,k1,_⟩:=h;simp only [AOp.more] at hM ⊢;rw [Qu k1] at hM ⊢;rw [e,Qu (qM k1 hM)]
  . rename_i d f as;simp only [AOp.sem] at h;obtain ⟨ys,ids,k1,_⟩:=h;simp only [AOp.more] at hM ⊢;rw [Qu k1] at hM ⊢;rw [lst (xs:=as) (fun x hx=>by simpa [AOp.opds] using hx),Qu (qM k1 hM)]
  rename_i d x as;simp only [AOp.sem] at h;simp only [AOp.more] at hM ⊢;rw [hF x (by simp [AOp.opds]),lst (xs:=as) (fun y hy=>by simp [AOp.opds,hy])];split at h
  . rename_i f first caps hx
    obtain ⟨_,ys,ids,k1,_⟩:=h;rw [hx] at hM ⊢;simp only at hM ⊢;rw [Qu k1] at hM ⊢;exact Qu (qM k1 hM)
  exact h.elim
 unfold AOp.foot;rw [e1,e2]
theorem Q2 {P : Program} {o : AOp} {F F' : Nat -> AV} {hp hp' : Hp} {new new' : Nat} {r : AV} {ws : List (Nat × HObj)} (h : o.sem P (evF F) hp new r ws)
 (hF:∀ x∈o.opds,evF F' x=evF F x) (hH:∀ i∈o.foot F hp,hp' i=hp i) (hn:new∈ws.map (·.1)->new'=new):o.sem P (evF F') hp' new' r ws:=by
 have h1:∀ {x},o.opds=[x]->evF F' x=evF F x:=fun e=>hF _ (by simp [e]);have h2:∀ {x y},o.opds=[x,y]->evF F' x=evF F x/\evF F' y=evF F y:=fun e=>⟨hF _ (by simp [e]),hF _ (by simp [e])⟩;have lst:∀ {xs:List Opd},(∀ x∈xs,x∈o.opds)->xs.map (evF F')=xs.map (evF F):=fun hsub=>List.map_congr_left (fun x hx=>hF x (hsub x hx));cases o with
 | mv d x=>simp only [AOp.sem] at h ⊢;rw [h1 rfl];exact h
 | pick d c a b=>simp only [AOp.sem] at h ⊢;rw [hF c (by simp [AOp.opds]),hF a (by simp [AOp.opds]),hF b (by simp [AOp.opds])];exact h
 | bin d op x y=>simp only [AOp.sem] at h ⊢;rw [(h2 rfl).1,(h2 rfl).2];exact h
 | bing d op ty x y=>simp only [AOp.sem] at h ⊢;rw [(h2 rfl).1,(h2 rfl).2];exact h
 | un d op x=>simp only [AOp.sem] at h ⊢;rw [h1 rfl];exact h
 | ext d x i=>simp only [AOp.sem] at h ⊢;rw [h1 rfl];exact h
 | ld d agg sz x =>simp only [AOp.sem] at h ⊢;rw [h1 rfl];exact qbG h (fun i hi=>hH i (by simp [AOp.foot,AOp.looks,AOp.heapy,AOp.more,AOp.opds];exact hi))
 | st sz a x =>
   simp only [AOp.sem] at h ⊢;rw [(h2 rfl).1,(h2 rfl).2];simp only [qaq] at h ⊢;split at h
   . rename_i id off hid;have:=hH id (by simp [AOp.foot,AOp.looks,AOp.heapy,AOp.more,AOp.opds,hid,AV.ids,AV.ids1]);rw [this];exact h
   exact h.elim
 | box d sz x =>obtain ⟨a1,a2,rfl,rfl⟩:=h;have:=hn (by simp);subst this;show (evF F' x).cells.length=sz/\_;rw [h1 rfl];exact ⟨a1,a2,rfl,rfl⟩
 | al d z =>obtain ⟨rfl,rfl⟩:=h;have:=hn (by simp);subst this;exact ⟨rfl,rfl⟩
 | bsl d n sz z ps =>
   simp only [AOp.sem] at h ⊢;have e:(ps.map fun p=>evF F' p.2)=ps.map fun p=>evF F p.2:=List.map_congr_left (fun p hp=>hF _ (by simp [AOp.opds];exact ⟨_,hp⟩));rw [e];obtain ⟨ys,ids,k1,k2,k3⟩:=h;refine ⟨ys,ids,qM k1 (fun i hi=>hH i (by simp only [AOp.foot,AOp.more,Qu k1,List.mem_append];exact .inr hi)),k2,?_⟩;rcases k3 with k3 | ⟨rfl,rfl⟩
   . exact .inl k3
   have:=hn (by simp);subst this;exact .inr ⟨rfl,rfl⟩
 | bld d z ps =>simp only [AOp.sem] at h ⊢;have e:∀ p∈ps,evF F' p.2.2=evF F p.2.2:=fun p hp=>hF _ (by simp [AOp.opds];exact ⟨_,_,hp⟩);have e1:(ps.map fun p=>(p.1,p.2.1,evF F' p.2.2))=ps.map fun p=>(p.1,p.2.1,evF F p.2.2):=List.map_congr_left (fun p hp=>by rw [e p hp]);rw [e1];refine ⟨List.all_eq_true.2 (fun p hp=>?_),h.2⟩;rw [e p hp];exact List.all_eq_true.1 h.1 p hp
 | fa d x off=>simp only [AOp.sem] at h ⊢;rw [h1 rfl];exact h
 | fld d agg sz off x=>simp only [AOp.sem] at h ⊢;rw [h1 rfl];exact h
 | ia d sz x i=>simp only [AOp.sem] at h ⊢;rw [(h2 rfl).1,(h2 rfl).2];exact h
 | iaa d ln sz x i=>simp only [AOp.sem] at h ⊢;rw [(h2 rfl).1,(h2 rfl).2];exact h
 | idx d ln agg sz x i=>simp only [AOp.sem] at h ⊢;rw [(h2 rfl).1,(h2 rfl).2];exact h
 | ids d x i=>simp only [AOp.sem] at h ⊢;rw [(h2 rfl).1,(h2 rfl).2];exact h
 | len d x=>simp only [AOp.sem] at h ⊢;rw [h1 rfl];exact h
 | lns d x=>simp only [AOp.sem] at h ⊢;rw [h1 rfl];exact h
 | lnm d x =>
   simp only [AOp.sem] at h ⊢;rw [h1 rfl];split at h
   . rename_i id hid;have:=hH id (by simp [AOp.foot,AOp.looks,AOp.heapy,AOp.more,AOp.opds,hid,AV.ids,AV.ids1]);rw [this];exact h
   exact h.elim
 | slc d sz x lo hi mx =>
   simp only [AOp.sem] at h ⊢
   have ho : ∀ (m : Option Opd),(∀ y ∈ m.toList,y ∈ (AOp.slc d sz x lo hi mx).opds) -> m.map (evF F') = m.map (evF F) := fun m hm => by
    cases m with
    | none=>rfl
    | some y=>simp [hF y (hm y (by simp))]
   rw [hF x (by simp [AOp.opds]),ho lo (fun y hy=>by simp [AOp.opds] at hy ⊢;exact .inr (.inl hy)),ho hi (fun y hy=>by simp [AOp.opds] at hy ⊢;exact .inr (.inr (.inl hy))),ho mx (fun y hy=>by simp [AOp.opds] at hy ⊢;exact .inr (.inr (.inr hy)))];exact h
 | sls d x lo hi =>
   simp only [AOp.sem] at h ⊢
   have ho : ∀ (m : Option Opd),(∀ y ∈ m.toList,y ∈ (AOp.sls d x lo hi).opds) -> m.map (evF F') = m.map (evF F) := fun m hm => by
    cases m with
    | none=>rfl
    | some y=>simp [hF y (hm y (by simp))]
   rw [hF x (by simp [AOp.opds]),ho lo (fun y hy=>by simp [AOp.opds] at hy ⊢;exact .inr (.inl hy)),ho hi (fun y hy=>by simp [AOp.opds] at hy ⊢;exact .inr (.inr hy))];exact h
 | app d sz bytes x y =>simp only [AOp.sem] at h ⊢;rw [(h2 rfl).1,(h2 rfl).2,ZE (hp:=hp) (fun i hi=>hH i (by simp [AOp.foot,AOp.looks,AOp.heapy,AOp.more,AOp.opds];exact .inr hi))];obtain ⟨m,ys,a1,a2,a3⟩:=h;exact ⟨m,ys,a1,a2,ji a3 (fun i hi=>hH i (by simp [AOp.foot,AOp.looks,AOp.heapy,AOp.more,AOp.opds];exact .inl hi)) hn⟩
 | b2s d x =>simp only [AOp.sem] at h ⊢;rw [h1 rfl,ZE (hp:=hp) (fun i hi=>hH i (by simp [AOp.foot,AOp.looks,AOp.heapy,AOp.more,AOp.opds];exact hi))];exact h
 | s2b d x=>simp only [AOp.sem] at h ⊢;rw [h1 rfl];exact h
 | apps d bytes x y =>
   simp only [AOp.sem] at h ⊢;rw [(h2 rfl).1,(h2 rfl).2];split at h
   . exact ji h (fun i hi=>hH i (by simp [AOp.foot,AOp.looks,AOp.heapy,AOp.more,AOp.opds];exact .inl hi)) hn
   exact h.elim
 | cpy d sz x y =>
   simp only [AOp.sem] at h ⊢;rw [(h2 rfl).1,(h2 rfl).2];split at h
   . rename_i id off n sz' hid;obtain ⟨m,ys,cs,a1,a2,a3,a4⟩:=h;have:=hH id (by simp [AOp.foot,AOp.looks,AOp.heapy,AOp.more,AOp.opds,hid,AV.ids,AV.ids1]);refine ⟨m,ys,cs,?_,a2,by rw [this];exact a3,a4⟩;rw [ZE (hp:=hp) (fun i hi=>hH i (by simp [AOp.foot,AOp.looks,AOp.heapy,AOp.more,AOp.opds];exact .inr hi))];exact a1
   . rename_i id off n c sz' hid;obtain ⟨m,ys,cs,a1,a2,a3,a4⟩:=h;have:=hH id (by simp [AOp.foot,AOp.looks,AOp.heapy,AOp.more,AOp.opds,hid,AV.ids,AV.ids1]);refine ⟨m,ys,cs,?_,a2,by rw [this];exact a3,a4⟩;rw [ZE (hp:=hp) (fun i hi=>hH i (by simp [AOp.foot,AOp.looks,AOp.heapy,AOp.more,AOp.opds];exact .inr hi))];exact a1
   exact h.elim
 | mks d sz bytes z x y =>obtain ⟨k,a1,a2,a3,a4,a5,rfl,rfl⟩:=h;have:=hn (by simp);subst this;exact ⟨k,by rw [(h2 rfl).1];exact a1,by rw [(h2 rfl).2];exact a2,a3,a4,a5,rfl,rfl⟩
 | cnv d k x=>simp only [AOp.sem] at h ⊢;rw [h1 rfl];exact h
 | mx d m x y=>simp only [AOp.sem] at h ⊢;rw [(h2 rfl).1,(h2 rfl).2];exact h
 | nilc d x=>simp only [AOp.sem] at h ⊢;rw [h1 rfl];exact h
 | mkf d f as bs =>simp only [AOp.sem] at h ⊢;rw [lst (fun x hx=>by simp [AOp.opds,hx]),lst (fun x hx=>by simp [AOp.opds,hx])];exact h
 | call d f as =>
   simp only [AOp.sem] at h ⊢;rw [lst (xs:=as) (fun x hx=>by simpa [AOp.opds] using hx)];obtain ⟨ys,ids,k1,k2⟩:=h;refine ⟨ys,ids,qM k1 (fun i hi=>hH i (by simp only [AOp.foot,AOp.more,Qu k1,List.mem_append];exact .inr hi)),?_⟩;rcases k2 with k2 | ⟨m,sz,cs,k2,rfl,rfl⟩ | ⟨Φ,k2,rfl,rfl⟩
   . exact .inl k2
   . have:=hn (by simp);subst this;exact .inr (.inl ⟨m,sz,cs,k2,rfl,rfl⟩)
   have:=hn (by simp);subst this;exact .inr (.inr ⟨Φ,k2,rfl,rfl⟩)
 | callv d x as =>
   simp only [AOp.sem] at h ⊢;rw [hF x (by simp [AOp.opds]),lst (xs:=as) (fun y hy=>by simp [AOp.opds,hy])];split at h
   . rename_i f first caps hx
     obtain ⟨h0,ys,ids,k1,k2⟩:=h;refine ⟨h0,ys,ids,?_,?_⟩
     . exact qM k1 (fun i hi=>hH i (by simp only [AOp.foot,AOp.more,hx,Qu k1,List.mem_append];exact .inr hi))
     rcases k2 with k2 | ⟨m,sz,cs,k2,rfl,rfl⟩
     . exact .inl k2
     have:=hn (by simp);subst this;exact .inr ⟨m,sz,cs,k2,rfl,rfl⟩
   exact h.elim
 | callx d f as=>exact h.elim
 | rng=>exact h.elim
 | nxt=>exact h.elim
 | ent=>exact h.elim
 | isn=>exact h.elim
 | cap d x=>simp only [AOp.sem] at h ⊢;rw [h1 rfl];exact h
 | eqk d b ks x y=>simp only [AOp.sem] at h ⊢;rw [(h2 rfl).1,(h2 rfl).2];exact h
 | clr sz z x =>
   simp only [AOp.sem] at h ⊢;rw [h1 rfl];split at h
   . rename_i id off n sz' hid;have:=hH id (by simp [AOp.foot,AOp.looks,AOp.heapy,AOp.more,AOp.opds,hid,AV.ids,AV.ids1]);rw [this];exact h
   . rename_i id off n c sz' hid;have:=hH id (by simp [AOp.foot,AOp.looks,AOp.heapy,AOp.more,AOp.opds,hid,AV.ids,AV.ids1]);rw [this];exact h
   exact h.elim
 | appz d sz bytes z x k =>simp only [AOp.sem] at h ⊢;rw [(h2 rfl).1,(h2 rfl).2];obtain ⟨m,a1,a2⟩:=h;exact ⟨m,a1,ji a2 (fun i hi=>hH i (by simp [AOp.foot,AOp.looks,AOp.heapy,AOp.more,AOp.opds];exact .inl hi)) hn⟩
 | slp d sz ln x lo hi mx =>
   simp only [AOp.sem] at h ⊢
   have ho : ∀ (m : Option Opd),(∀ y ∈ m.toList,y ∈ (AOp.slp d sz ln x lo hi mx).opds) -> m.map (evF F') = m.map (evF F) := fun m hm => by
    cases m with
    | none=>rfl
    | some y=>simp [hF y (hm y (by simp))]
   rw [hF x (by simp [AOp.opds]),ho lo (fun y hy=>by simp [AOp.opds] at hy ⊢;exact .inr (.inl hy)),ho hi (fun y hy=>by simp [AOp.opds] at hy ⊢;exact .inr (.inr (.inl hy))),ho mx (fun y hy=>by simp [AOp.opds] at hy ⊢;exact .inr (.inr (.inr hy)))];split at h
   . rename_i id off hid;have:=hH id (by simp [AOp.foot,AOp.looks,AOp.heapy,AOp.more,AOp.opds,hid,AV.ids,AV.ids1]);rw [this];exact h
   . exact h
   exact h.elim
 | mkm d =>obtain ⟨rfl,rfl⟩:=h;have:=hn (by simp);subst this;exact ⟨rfl,rfl⟩
 | ins ks x y z =>
   simp only [AOp.sem] at h ⊢;rw [hF x (by simp [AOp.opds]),hF y (by simp [AOp.opds]),hF z (by simp [AOp.opds])];split at h
   . rename_i id hid;have:=hH id (by simp [AOp.foot,AOp.looks,AOp.heapy,AOp.more,AOp.opds,hid,AV.ids,AV.ids1]);rw [this];exact h
   exact h.elim
 | lku d ks z ok x y =>
   simp only [AOp.sem] at h ⊢;rw [(h2 rfl).1,(h2 rfl).2];split at h
   . rename_i id hid;have:=hH id (by simp [AOp.foot,AOp.looks,AOp.heapy,AOp.more,AOp.opds,hid,AV.ids,AV.ids1]);rw [this];exact h
   exact h.elim
 | mpe d ks z x y =>
   simp only [AOp.sem] at h ⊢;rw [(h2 rfl).1,(h2 rfl).2];split at h
   . rename_i id hid;have:=hH id (by simp [AOp.foot,AOp.looks,AOp.heapy,AOp.more,AOp.opds,hid,AV.ids,AV.ids1]);rw [this];exact h
   exact h.elim
 | est x y z =>
   simp only [AOp.sem] at h ⊢;rw [hF x (by simp [AOp.opds]),hF y (by simp [AOp.opds]),hF z (by simp [AOp.opds])];split at h
   . rename_i id hid;have:=hH id (by simp [AOp.foot,AOp.looks,AOp.heapy,AOp.more,AOp.opds,hid,AV.ids,AV.ids1]);rw [this];exact h
   exact h.elim
 | del ks x y =>
   simp only [AOp.sem] at h ⊢;rw [(h2 rfl).1,(h2 rfl).2];split at h
   . rename_i id hid;have:=hH id (by simp [AOp.foot,AOp.looks,AOp.heapy,AOp.more,AOp.opds,hid,AV.ids,AV.ids1]);rw [this];exact h
   exact h.elim
structure Rec where
 dst:Option Nat
 r:AV
 ws:List (Nat × HObj)
 foot:List Nat
def Rec.F (R:Rec):Wr Nat AV:=⟨fun t=>R.dst==some t,fun _=>R.r⟩
def Rec.H (R:Rec):Wr Nat (Option HObj):=⟨fun id=>(R.ws.map (·.1)).contains id,fun id=>Hp.write (fun _=>none) R.ws id⟩
theorem Qg (R:Rec) (fr:List (Nat × AV)):R.F.app (get fr)=get (qH fr R.dst R.r):=by
 funext t;obtain ⟨d,r,ws,ft⟩:=R;cases d with
 | none=>simp [Wr.app,Rec.F,qH]
 | some d =>
   simp only [Wr.app,Rec.F,qH,get];by_cases e:d=t
   . simp [e]
   simp [e]
theorem XH : ∀ (ws : List (Nat × HObj)) (H : Hp) (id : Nat),Hp.write H ws id = if (ws.map (·.1)).contains id then Hp.write (fun _ => none) ws id else H id
 | [],H,id=>by simp [Hp.write]
 | (i, o)::ws, H, id=>by
   simp only [Hp.write];rw [XH ws (Hp.set H i o) id,XH ws (Hp.set (fun _=>none) i o) id];by_cases h:(ws.map (·.1)).contains id=true
   . have : (((i,o) :: ws).map (·.1)).contains id = true := by simp at h ⊢; exact .inr h
     rw [if_pos h,if_pos this,if_pos h]
   rw [if_neg h,if_neg h];by_cases e:id=i
   . subst e;simp [Hp.set]
   have:¬ (((i,o)::ws).map (·.1)).contains id=true:=by simp [e] at h ⊢;exact h
   rw [if_neg this,Hp.set_other _ _ e]
theorem ZO (R:Rec) (H:Hp):R.H.app H=Hp.write H R.ws:=by funext id;simp only [Wr.app,Rec.H];exact (XH R.ws H id).symm
def qg8 (gd:Option (Nat × Bool)) (F:Nat->AV):Prop:=match gd with
 | none=>True
 | some (j,b)=>F j = .v (.bool b)
def V7 (gd:Option (Nat × Bool)) (F:Nat->AV):Prop:=match gd with
 | none=>False
 | some (j,b)=>(∃ c,F j = .v (.bool c)/\c≠b)\/∃ c,F j = .v (.tuple c)
def qaJ (P:Program) (gd:Option (Nat × Bool)) (o:AOp) (R:Rec) (F:Nat->AV) (H:Hp) (new:Nat):Prop :=
 R.dst=o.dst/\((qg8 gd F/\o.sem P (evF F) H new R.r R.ws/\R.foot=o.foot F H)\/(V7 gd F/\R.r = .v undef/\R.ws=[]/\R.foot=[]))
inductive DRun (P : Program) : List (Option (Nat × Bool) × AOp) -> St -> List Rec -> St -> Prop
 | nil (st:St):DRun P [] st [] st
 | cons {gd o l st R Rs st'}:qaJ P gd o R (get st.fr) (hpf st.hp) st.hp.length->DRun P l (st.step R.dst R.r R.ws) Rs st'->DRun P ((gd,o)::l) st (R::Rs) st'
def XD (R:Rec):List Nat × List Nat:=(R.foot,R.ws.map (·.1))
section
variable {P:Program}
def JR (P : Program) : List (Option (Nat × Bool) × AOp) -> St -> Tr -> (St -> Tr -> Prop) -> Prop
 | [],st,tr,K=>K st tr
 | (none,o)::l,st,tr,K=>∃ r ws,o.sem P (evF (get st.fr)) (hpf st.hp) st.hp.length r ws/\JR P l (st.step o.dst r ws) (tr++[(o.foot (get st.fr) (hpf st.hp),ws.map (·.1))]) K
 | (some (j,b),o)::l,st,tr,K=>match get st.fr j with
   | .v (.bool c)=>(c=b->∃ r ws,o.sem P (evF (get st.fr)) (hpf st.hp) st.hp.length r ws/\JR P l (st.step o.dst r ws) (tr++[(o.foot (get st.fr) (hpf st.hp),ws.map (·.1))]) K)/\(c≠b->JR P l (qI [o] st) (tr++[([],[])]) K)
   | .v (.tuple _)=>JR P l (qI [o] st) (tr++[([],[])]) K
   | _=>False
theorem qjt {st:St} {o:AOp} {r ws} {j:Nat} (h:o.dst≠some j):get (st.step o.dst r ws).fr j=get st.fr j:=by
 simp only [St.step,qH];cases hd:o.dst with
 | none=>rfl
 | some d =>rw [hd] at h;have:¬ d=j:=fun e=>h (by rw [e]);simp [get,this]
theorem Qi : ∀ {l : List (Option (Nat × Bool) × AOp)} {st : St} {tr : Tr} {K : St -> Tr -> Prop}, qZ P (grp l) st tr K -> JR P l st tr K
 | [],st,tr,K,h=>h
 | (g, o)::l, st, tr, K, h=>by
   have one : qZ P (⟨g, [o]⟩ :: grp l) st tr K -> JR P ((g, o) :: l) st tr K := fun h => by
    cases g with
    | none =>obtain ⟨r,ws,h1,h2⟩:=h;exact ⟨r,ws,h1,Qi h2⟩
    | some jb =>
      obtain ⟨j,b⟩:=jb;simp only [qZ,JR] at h ⊢;split at h
      . rename_i c hc
        try rw [hc]
        exact ⟨fun e=>by obtain ⟨r,ws,h1,h2⟩:=h.1 e;exact ⟨r,ws,h1,Qi h2⟩,fun e=>Qi (h.2 e)⟩
      . rename_i c hc
        try rw [hc]
        exact Qi h
      exact h.elim
   simp only [grp] at h;split at h
   . rename_i g' os gs hg;split at h
     . rename_i hcond;obtain ⟨rfl,hdst⟩:=hcond;have ih:∀ st tr K,qZ P (⟨g,os⟩::gs) st tr K->JR P l st tr K:=fun st tr K h=>Qi (by rw [hg];exact h);cases g with
       | none =>obtain ⟨r,ws,h1,h2⟩:=h;exact ⟨r,ws,h1,ih _ _ _ h2⟩
       | some jb =>
         obtain ⟨j,b⟩:=jb;have hdst:o.dst≠some j:=by simpa [qfi] using hdst
         simp only [qZ,JR] at h ⊢;split at h
         . rename_i c hc
           try rw [hc]
           refine ⟨fun e=>?_,fun e=>ih _ _ _ ?_⟩
           . obtain ⟨r,ws,h1,h2⟩:=h.1 e;refine ⟨r,ws,h1,ih _ _ _ ?_⟩;simp only [qZ];rw [qjt hdst,hc];exact ⟨fun _=>h2,fun h'=>absurd e h'⟩
           simp only [qZ];rw [jE hdst,hc];refine ⟨fun h'=>absurd h' e,fun _=>?_⟩;rw [<-Q3];have:=h.2 e;simpa using this
         . rename_i c hc
           try rw [hc]
           refine ih _ _ _ ?_;simp only [qZ];rw [jE hdst,hc];simp only;rw [<-Q3];simpa using h
         exact h.elim
     rw [<-hg] at h;exact one h
   rename_i hg;rw [<-hg] at h;exact one h
theorem VD (o:AOp) (st:St):qI [o] st=st.step o.dst (.v undef) []:=by simp only [qI,St.step,qH,qc,List.filterMap_cons,List.filterMap_nil];cases o.dst <;> rfl
theorem QE : ∀ {l : List (Option (Nat × Bool) × AOp)} {st : St} {tr : Tr} {K : St -> Tr -> Prop},JR P l st tr K -> ∃ Rs st',DRun P l st Rs st' /\ K st' (tr ++ Rs.map XD)
 | [],st,tr,K,h=>⟨[],st,.nil st,by have h':K st tr:=h;simpa using h'⟩
 | (gd, o)::l, st, tr, K, h=>by
   have go:qg8 gd (get st.fr)->(∃ r ws,o.sem P (evF (get st.fr)) (hpf st.hp) st.hp.length r ws/\JR P l (st.step o.dst r ws) (tr++[(o.foot (get st.fr) (hpf st.hp),ws.map (·.1))]) K)->∃ Rs st',DRun P ((gd,o)::l) st Rs st'/\K st' (tr++Rs.map XD):=fun hg ⟨r,ws,h1,h2⟩=>by obtain ⟨Rs,st',h3,h4⟩:=QE h2;exact ⟨⟨o.dst,r,ws,o.foot (get st.fr) (hpf st.hp)⟩::Rs,st',.cons ⟨rfl,.inl ⟨hg,h1,rfl⟩⟩ h3,by simpa [XD] using h4⟩
   have sk:V7 gd (get st.fr)->JR P l (qI [o] st) (tr++[([],[])]) K->∃ Rs st',DRun P ((gd,o)::l) st Rs st'/\K st' (tr++Rs.map XD):=fun hg h=>by rw [VD] at h;obtain ⟨Rs,st',h3,h4⟩:=QE h;exact ⟨⟨o.dst,.v undef,[],[]⟩::Rs,st',.cons ⟨rfl,.inr ⟨hg,rfl,rfl,rfl⟩⟩ h3,by simpa [XD] using h4⟩
   cases gd with
   | none=>exact go trivial h
   | some jb =>
     obtain ⟨j,b⟩:=jb;simp only [JR] at h;split at h
     . rename_i c hc;by_cases e:c=b
       . subst e;exact go hc (h.1 rfl)
       exact sk (.inl ⟨c,hc,e⟩) (h.2 e)
     . rename_i c hc;exact sk (.inr ⟨c,hc⟩) h
     exact h.elim
theorem Vz {l st Rs st'} (h:DRun P l st Rs st'):Rs.length=l.length:=by
 induction h with
 | nil=>rfl
 | cons _ _ ih=>simp [ih]
theorem Yj : ∀ (ws : List (Nat × HObj)) (l : List HObj),l.length <= (qc l ws).length
 | [],l=>Nat.le_refl _
 | (i,o)::ws,l=>Nat.le_trans (YW l i o) (Yj ws _)
theorem qnC (l:List HObj) {id:Nat} (o:HObj) (h:id<=l.length):id<(qn l id o).length:=by simp only [qn];split <;> simp <;> omega
theorem qaA : ∀ {ws : List (Nat × HObj)} {l : List HObj},(∀ p ∈ ws,p.1 <= l.length) -> ∀ p ∈ ws,p.1 < (qc l ws).length
 | [],l,_,p,hp=>by simp at hp
 | (i,o)::ws,l,h,p,hp=>by
   simp only [qc];rcases List.mem_cons.1 hp with rfl | hp
   . exact Nat.lt_of_lt_of_le (qnC l o (h (i,o) (by simp))) (Yj _ _)
   exact qaA (fun q hq=>Nat.le_trans (h q (by simp [hq])) (YW _ _ _)) p hp
theorem QY {l st Rs st'} (h:DRun P l st Rs st'):st.hp.length<=st'.hp.length/\∀ R∈Rs,∀ p∈R.ws,p.1<st'.hp.length:=by
 induction h with
 | nil=>exact ⟨Nat.le_refl _,by simp⟩
 | @cons gd o l st R Rs st' hok _ ih =>
   have hids:∀ p∈R.ws,p.1<=st.hp.length:=by
    rcases hok.2 with ⟨_,h1,_⟩ | ⟨_,_,h1,_⟩
    . exact Xw h1
    rw [h1];simp
   refine ⟨Nat.le_trans (Yj R.ws st.hp) ih.1,fun R' hR' p hp=>?_⟩;rcases List.mem_cons.1 hR' with rfl | hR'
   . exact Nat.lt_of_lt_of_le (qaA hids p hp) ih.1
   exact ih.2 R' hR' p hp
theorem qx {κ β : Type} : ∀ {l : List (Wr κ β)} {X : Nat -> Bool} {F : κ -> β},(∀ i,X i = false) -> qm l X F = F
 | [],_,_,_=>rfl
 | a::l,X,F,h=>by simp only [qm,h 0];exact qx (fun i=>h (i+1))
theorem QI {l st Rs st'} (h : DRun P l st Rs st') : ∀ i (hi : i < l.length) (hi' : i < Rs.length),∃ new,qaJ P l[i].1 l[i].2 Rs[i] (qm (Rs.map Rec.F) (fun k => decide (k < i)) (get st.fr)) (qm (Rs.map Rec.H) (fun k => decide (k < i)) (hpf st.hp)) new /\
 (qm (Rs.map Rec.H) (fun k=>decide (k<i)) (hpf st.hp)) new=none:=by
 induction h with
 | nil=>intro i hi;simp at hi
 | @cons gd o l st R Rs st' hok hrun ih =>
   have hids:∀ p∈R.ws,p.1<=st.hp.length:=by
    rcases hok.2 with ⟨_,h1,_⟩ | ⟨_,_,h1,_⟩
    . exact Xw h1
    rw [h1];simp
   intro i hi hi';cases i with
   | zero =>
     refine ⟨st.hp.length,?_,?_⟩
     . rw [qx (fun i=>by simp),qx (fun i=>by simp)];exact hok
     rw [qx (fun i=>by simp)];simp [hpf]
   | succ i =>
     obtain ⟨new,h1,h2⟩:=ih i (by simpa using hi) (by simpa using hi');refine ⟨new,?_,?_⟩
     . simp only [List.map_cons,qm,List.getElem_cons_succ,Nat.zero_lt_succ,decide_true,if_true,Nat.add_lt_add_iff_right];rw [Qg,ZO,<-zh hids];exact h1
     simp only [List.map_cons,qm,Nat.zero_lt_succ,decide_true,if_true,Nat.add_lt_add_iff_right];rw [ZO,<-zh hids];exact h2
theorem Xr {l st Rs st'} (h:DRun P l st Rs st'):get st'.fr=qm (Rs.map Rec.F) (fun _=>true) (get st.fr)/\hpf st'.hp=qm (Rs.map Rec.H) (fun _=>true) (hpf st.hp):=by
 induction h with
 | nil=>exact ⟨rfl,rfl⟩
 | @cons gd o l st R Rs st' hok hrun ih =>
   have hids:∀ p∈R.ws,p.1<=st.hp.length:=by
    rcases hok.2 with ⟨_,h1,_⟩ | ⟨_,_,h1,_⟩
    . exact Xw h1
    rw [h1];simp
   simp only [List.map_cons,qm,if_true];rw [Qg,ZO,<-zh hids];exact ih
def AOp.touch (o:AOp):Bool:=o.heapy || (match o with | .box .. | .al .. | .mks .. | .mkm .. => true | _=>false)
def Opd.tmp : Opd -> List Nat
 | .t n=>[n]
 | .k _=>[]
def qK (c:Option (Nat × Bool) × AOp):List Nat:=c.2.opds.flatMap Opd.tmp++(match c.1 with | some (j,_)=>[j] | none=>[])
def Qm (d:Option Nat) (l:List Nat):Bool:=match d with
 | some d => !l.contains d
 | none=>true
def ZU (a b:Option (Nat × Bool) × AOp):Bool:=Qm a.2.dst (qK b)&&Qm b.2.dst (qK a)&&(match a.2.dst,b.2.dst with | some x,some y=>x != y | _,_=>true)
def qdx (ops:Array Oper):List (List Nat) :=
 let b:=Region.before ops
 (List.range ops.size).map fun k=>(List.range k).filter fun i=>(b.getD k 0).testBit i
def zEq : AV -> AV -> Bool
 | .v (.int k a),.v (.int k' b)=>decide (k=k')&&a==b
 | .v (.bool a),.v (.bool b)=>a==b
 | _,_=>false
theorem qxv {x y:AV} (h:zEq x y=true):x=y:=by
 unfold zEq at h;split at h
 . simp at h;rw [h.1,h.2]
 . simp at h;rw [h]
 cases h
def qf0 : Opd -> Opd -> Bool
 | .t a,.t b=>a==b
 | _,_=>false
theorem Xi {x y:Opd} (h:qf0 x y=true):x=y:=by
 unfold qf0 at h;split at h
 . simp at h;rw [h]
 cases h
def zy (cl:List (Option (Nat × Bool) × AOp)) (i k:Nat):Bool:=match cl[i]?,cl[k]? with
 | some (_,.lku _ ks z false m q),some (_,.mpe _ ks' z' m' q') => decide (i < k) && decide (ks = ks') && zEq z z' && qf0 m m' && qf0 q q' &&
  (List.range k).all fun j=>decide (j<i) || (match cl[j]? with | some c=>Qm c.2.dst (m.tmp++q.tmp) | none=>false)
 | _,_=>false
def qCo (pre:List (List Nat)) (cl:List (Option (Nat × Bool) × AOp)):List (Nat × Nat) :=
 (List.range cl.length).flatMap fun k=>((List.range k).filter fun i => !(pre.getD k []).contains i && !zy cl i k&&((cl.getD i (none,.callv 0 (.t 0) [])).2.touch&&(cl.getD k (none,.callv 0 (.t 0) [])).2.touch)).map fun i=>(i,k)
def Ym (ops:Array Oper) (cl:List (Option (Nat × Bool) × AOp)) (pre:List (List Nat)) (un:List (Nat × Nat)):Bool :=
 (List.range ops.size).all fun k=>match ops[k]?,cl[k]? with
  | some o,some ck => o.after.toList.all (fun e => !Region.binds .any e || decide (e.on < k)) &&
   (pre.getD k []).all (fun j=>o.after.toList.any fun e=>Region.binds .any e&&(e.on==j || (pre.getD e.on []).contains j)) &&
   (List.range k).all fun i => (pre.getD k []).contains i || (match cl[i]? with
    | some ci=>ZU ci ck&&(!ci.2.touch || !ck.2.touch || un.contains (i,k) || zy cl i k)
    | none=>false)
  | _,_=>false
theorem VA {o:AOp} {ev:Opd->AV} {H:Hp} {new:Nat} {r:AV} {ws:List (Nat × HObj)} (ht:o.touch=false) (h:o.sem P ev H new r ws):ws=[]:=by
 cases o with
 | pick=>simp only [AOp.sem] at h;split at h <;> first | exact h.2 | exact h.elim
 | bin=>simp only [AOp.sem] at h;split at h <;> first | (obtain ⟨_,_,_,h⟩:=h;exact h) | exact h.elim
 | bing=>obtain ⟨_,_,_,_,_,_,_,_,h⟩:=h;exact h
 | un=>simp only [AOp.sem] at h;split at h <;> first | (obtain ⟨_,_,_,h⟩:=h;exact h) | exact h.elim
 | ext=>simp only [AOp.sem] at h;split at h <;> first | (obtain ⟨_,_,_,h⟩:=h;exact h) | exact h.elim
 | mv=>exact h.2
 | bld=>exact h.2.2
 | mkf=>exact h.2
 | fa=>simp only [AOp.sem] at h;split at h <;> first | exact h.2 | exact h.elim
 | fld=>simp only [AOp.sem] at h;split at h <;> first | exact h.2 | exact h.elim
 | ia=>simp only [AOp.sem] at h;split at h <;> first | exact h.2.2.1 | exact h.2.2.2 | exact h.elim
 | iaa=>simp only [AOp.sem] at h;split at h <;> first | exact h.2.2 | exact h.elim
 | idx=>simp only [AOp.sem] at h;split at h <;> first | exact h.2.2 | exact h.elim
 | ids=>simp only [AOp.sem] at h;split at h <;> first | exact h.2.2 | exact h.elim
 | len=>simp only [AOp.sem] at h;split at h <;> first | exact h.2 | exact h.elim
 | lns=>simp only [AOp.sem] at h;split at h <;> first | exact h.2 | exact h.elim
 | cnv=>simp only [AOp.sem] at h;split at h <;> first | exact h.2 | exact h.elim
 | mx=>simp only [AOp.sem] at h;split at h <;> first | exact h.2 | exact h.elim
 | nilc=>simp only [AOp.sem] at h;split at h <;> first | exact h.2 | exact h.elim
 | slc d sz x lo hi mx =>
   simp only [AOp.sem,YA] at h;split at h
   . obtain ⟨_,_,_,_,_,_,_,_,h⟩:=h;exact h
   . obtain ⟨_,_,_,_,_,_,_,_,_,h⟩:=h;exact h
   . obtain ⟨_,_,_,_,_,_,_,_,_,_,_,h⟩:=h;exact h
   exact h.elim
 | sls d x lo hi =>
   simp only [AOp.sem] at h;split at h
   . obtain ⟨_,_,_,_,_,_,_,h⟩:=h;exact h
   exact h.elim
 | isn=>exact h.elim
 | cap=>simp only [AOp.sem] at h;split at h <;> first | exact h.2.2 | exact h.2 | exact h.elim
 | eqk=>obtain ⟨_,_,_,_,_,_,_,h⟩:=h;exact h
 | _=>simp [AOp.touch,AOp.heapy] at ht
theorem J9 {o:AOp} (ht:o.touch=false) (F:Nat->AV) (H:Hp):o.foot F H=[]:=by cases o <;> first | rfl | (simp [AOp.touch,AOp.heapy] at ht)
theorem QG {gd:Option (Nat × Bool)} {o:AOp} {R:Rec} {F H new} (ht:o.touch=false) (h:qaJ P gd o R F H new):R.ws=[]/\R.foot=[]:=by
 rcases h.2 with ⟨_,h1,h2⟩ | ⟨_,_,h1,h2⟩
 . refine ⟨VA ht h1,?_⟩;rw [h2];exact J9 ht _ _
 exact ⟨h1,h2⟩
theorem jn : ∀ {un : List (Nat × Nat)} {tr : Tr},zJ tr un = true -> ∀ {i j : Nat},(i,j) ∈ un -> ∃ a b,tr[i]? = some a /\ tr[j]? = some b /\ qaC a.2 b.1 = true /\ qaC a.2 b.2 = true /\ qaC b.2 a.1 = true
 | [],tr,h,i,j,hm=>by simp at hm
 | (p, q)::un, tr, h, i, j, hm=>by
   simp only [zJ,Bool.and_eq_true] at h;rcases List.mem_cons.1 hm with e | hm
   . cases e;have h1:=h.1;split at h1
     . rename_i ri wi rj wj h2 h3;simp only [Bool.and_eq_true] at h1;exact ⟨_,_,h2,h3,h1.1.1,h1.1.2,h1.2⟩
     cases h1
   exact jn h.2 hm
theorem QP {a b:List Nat} (h:qaC a b=true) {x:Nat} (hx:x∈a):x∉b:=by have:=List.all_eq_true.1 h x hx;simpa using this
end
def unl (X : Nat -> Bool) : Nat -> Nat
 | 0=>0
 | n+1=>unl X n+if X n then 0 else 1
theorem XE {X : Nat -> Bool} {Y : Nat -> Bool} {i : Nat} (hx : X i = false) (hy : Y i = true) (hj : ∀ j,j ≠ i -> Y j = X j) : ∀ n,i < n -> unl Y n < unl X n
 | 0,h=>by omega
 | n+1, h=>by
   simp only [unl];by_cases e:n=i
   . subst e
     have:unl Y n=unl X n:=by
      have : ∀ m,m <= n -> unl Y m = unl X m := fun m => by
       induction m with
       | zero=>intro _;rfl
       | succ m ih=>intro hm;simp only [unl];rw [ih (by omega),hj m (by omega)]
      exact this n (Nat.le_refl _)
     rw [this,hx,hy];simp
   rw [hj n e];have:=XE hx hy hj n (by omega);omega
theorem YX {X : Nat -> Bool} : ∀ {n},unl X n = 0 -> ∀ i,i < n -> X i = true
 | 0,_,i,h=>by omega
 | n+1, h, i, hi=>by
   simp only [unl] at h;by_cases e:i=n
   . subst e;cases hx:X i with
     | true=>rfl
     | false=>rw [hx] at h;simp at h
   exact YX (n:=n) (by omega) i (by omega)
section
variable {P:Program} {N:Nat} {ro:Option Nat} {n:Nat}
theorem qW {ops : Array Oper} : ∀ {l : List Oper} {cl},zZ P N ops l = some cl -> cl.length = l.length /\ ∀ i (h : i < l.length) (h' : i < cl.length),zI P N l[i] = some cl[i].2 /\ JW ops l[i].guard = some cl[i].1
 | [],cl,h=>by simp [zZ] at h;subst h;exact ⟨rfl,fun i h=>by simp at h⟩
 | o::l, cl, h=>by
   simp only [zZ] at h;split at h
   . rename_i ao gd cl' h1 h2 h3;cases h;obtain ⟨e1,e2⟩:=qW h3;refine ⟨by simp [e1],fun i hi hi'=>?_⟩;cases i with
     | zero=>exact ⟨h1,h2⟩
     | succ i=>simpa using e2 i (by simpa using hi) (by simpa using hi')
   cases h
theorem jp {ops : Array Oper} {cl pre un} (h : Ym ops cl pre un = true) {i k : Nat} (hik : i < k) (hk : k < ops.size) (hk' : k < cl.length) :
 i∈pre.getD k []\/(ZU cl[i] cl[k]=true/\(zy cl i k=true\/(cl[i].2.touch=true->cl[k].2.touch=true->(i,k)∈un))):=by
 have h1:=List.all_eq_true.1 h k (List.mem_range.2 hk);have ei:cl[i]?=some cl[i]:=List.getElem?_eq_getElem _;have ek:cl[k]?=some cl[k]:=List.getElem?_eq_getElem _;simp only [Array.getElem?_eq_getElem hk,ek,Bool.and_eq_true] at h1;have h2:=List.all_eq_true.1 h1.2 i (List.mem_range.2 hik);rw [ei] at h2;simp only [Bool.or_eq_true,Bool.and_eq_true] at h2;rcases h2 with h2 | ⟨h2,h3⟩
 . exact .inl (by simpa using h2)
 rcases h3 with h3 | h3
 . refine .inr ⟨h2,.inr fun t1 t2=>?_⟩;rw [t1,t2] at h3;simpa using h3
 exact .inr ⟨h2,.inl h3⟩
theorem QV {ops : Array Oper} {cl pre un} (h : Ym ops cl pre un = true) {k : Nat} (hk : k < ops.size) (hk' : k < cl.length) :
 (∀ e∈ops[k].after,Region.binds .any e=true->e.on<k)/\(∀ j∈pre.getD k [],∃ e∈ops[k].after,Region.binds .any e=true/\(e.on=j\/j∈pre.getD e.on [])):=by
 have h1:=List.all_eq_true.1 h k (List.mem_range.2 hk);have ek:cl[k]?=some cl[k]:=List.getElem?_eq_getElem _;simp only [Array.getElem?_eq_getElem hk,ek,Bool.and_eq_true] at h1;refine ⟨fun e he hb=>?_,fun j hj=>?_⟩
 . have:=List.all_eq_true.1 h1.1.1 e (by simpa using he);simpa [hb] using this
 have:=List.all_eq_true.1 h1.1.2 j hj;obtain ⟨e,he,h2⟩:=List.any_eq_true.1 this;simp only [Bool.and_eq_true,Bool.or_eq_true,beq_iff_eq] at h2;exact ⟨e,by simpa using he,h2.1,by simpa using h2.2⟩
structure Fixed (P:Program) (N:Nat) (ops:Array Oper) (cl:List (Option (Nat × Bool) × AOp)) (pre:List (List Nat)) (un:List (Nat × Nat)) (st:St) (Rs:List Rec) (st':St):Prop where
 comp:zZ P N ops ops.toList=some cl
 ok:Ym ops cl pre un=true
 run:DRun P cl st Rs st'
 cm:zJ (Rs.map XD) un=true
variable {ops:Array Oper} {cl:List (Option (Nat × Bool) × AOp)} {pre:List (List Nat)} {un:List (Nat × Nat)} {st:St} {Rs:List Rec} {st':St}
theorem Fixed.lens (f:Fixed P N ops cl pre un st Rs st'):cl.length=ops.size/\Rs.length=ops.size :=
 ⟨by simpa using (qW f.comp).1,by rw [Vz f.run];simpa using (qW f.comp).1⟩
structure Apart (ex:Bool) (ci ck:Option (Nat × Bool) × AOp) (Ri Rk:Rec):Prop where
 look:∀ d,Ri.dst=some d->d∉qK ck
 look':∀ d,Rk.dst=some d->d∉qK ci
 dst:∀ d,Ri.dst=some d->Rk.dst≠some d
 wr:∀ x∈Ri.ws.map (·.1),x∉Rk.foot
 ww:∀ x∈Ri.ws.map (·.1),x∉Rk.ws.map (·.1)
 rw:ex=true\/∀ x∈Rk.ws.map (·.1),x∉Ri.foot
theorem qeY {i k:Nat} {R:Rec} {F:Nat->AV} {H:Hp} {new:Nat} (h:zy cl i k=true) (hi:i<cl.length) (hR:qaJ P cl[i].1 cl[i].2 R F H new):R.ws=[]:=by
 unfold zy at h;rw [List.getElem?_eq_getElem hi] at h;generalize cl[i]=ci at h hR;split at h
 . rename_i h1 h2;cases h1;rcases hR.2 with ⟨_,h3,_⟩ | ⟨_,_,h3,_⟩
   . simp only [AOp.sem] at h3;split at h3
     . split at h3
       . obtain ⟨_,_,_,h4,_⟩:=h3;exact h4
       . exact absurd h3.1 (by decide)
       exact h3.elim
     exact h3.elim
   exact h3
 cases h
theorem Fixed.apart (f:Fixed P N ops cl pre un st Rs st') {i k:Nat} (hik:i<k) (hk:k<cl.length) (hk':k<Rs.length) (hp:i∉pre.getD k []):Apart (zy cl i k) cl[i] cl[k] Rs[i] Rs[k]:=by
 obtain ⟨l1,l2⟩:=f.lens;rcases jp f.ok hik (by omega) hk with h | ⟨h1,h2⟩
 . exact absurd h hp
 obtain ⟨ni,oi,_⟩:=QI f.run i (by omega) (by omega);obtain ⟨nk,ok,_⟩:=QI f.run k hk hk';simp only [ZU,Bool.and_eq_true] at h1;obtain ⟨⟨a1,a2⟩,a3⟩:=h1;refine ⟨fun d hd=>?_,fun d hd=>?_,fun d hd hd'=>?_,?_,?_,?_⟩
 . rw [<-oi.1,hd] at a1;simpa [Qm] using a1
 . rw [<-ok.1,hd] at a2;simpa [Qm] using a2
 . rw [<-oi.1,<-ok.1,hd,hd'] at a3;simp at a3
 all_goals
  rcases h2 with h2 | h2
  . have hw := qeY h2 (by omega) oi
    first
     | (rw [hw];simp;done)
     | exact .inl h2
  cases t1:cl[i].2.touch with
  | false=>obtain ⟨e1,e2⟩:=QG t1 oi;simp [e1,e2]
  | true =>
    cases t2:cl[k].2.touch with
    | false=>obtain ⟨e1,e2⟩:=QG t2 ok;simp [e1,e2]
    | true =>
      obtain ⟨a,b,b1,b2,b3,b4,b5⟩:=jn f.cm (h2 t1 t2);have e1:(Rs.map XD)[i]?=some (XD Rs[i]):=by rw [List.getElem?_map,List.getElem?_eq_getElem (by omega)];rfl
      have e2:(Rs.map XD)[k]?=some (XD Rs[k]):=by rw [List.getElem?_map,List.getElem?_eq_getElem (by omega)];rfl
      rw [e1] at b1;rw [e2] at b2;cases b1;cases b2
      first
       | exact .inr fun x hx=>QP b5 hx
       | (intro x hx
          first
           | exact QP b3 hx
           | exact QP b4 hx)
def Clo (pre:List (List Nat)) (ops:Array Oper) (X:Nat->Bool):Prop:=∀ k,k<ops.size->X k=true->∀ j∈pre.getD k [],X j=true
def frX (Rs:List Rec) (X:Nat->Bool) (st:St):Nat->AV:=qm (Rs.map Rec.F) X (get st.fr)
def hpX (Rs:List Rec) (X:Nat->Bool) (st:St):Hp:=qm (Rs.map Rec.H) X (hpf st.hp)
theorem QM {R:Rec} {d:Nat} (h:R.F.on d=true):R.dst=some d:=by simpa [Rec.F] using h
theorem Qw {R:Rec} {d:Nat} (h:R.H.on d=true):d∈R.ws.map (·.1):=by simpa [Rec.H] using h
theorem ZV {F F':Nat->AV} {x:Opd} (h:∀ d∈x.tmp,F' d=F d):evF F' x=evF F x:=by
 cases x with
 | t n=>exact h n (by simp [Opd.tmp])
 | k v=>rfl
theorem jr {gd:Option (Nat × Bool)} {F F':Nat->AV} (h:∀ j b,gd=some (j,b)->F' j=F j):(qg8 gd F->qg8 gd F')/\(V7 gd F->V7 gd F'):=by
 cases gd with
 | none=>exact ⟨id,id⟩
 | some jb=>obtain ⟨j,b⟩:=jb;simp only [qg8,V7];rw [h j b rfl];exact ⟨id,id⟩
theorem Zu {i k:Nat} (h:zy cl i k=true):∃ gi gk d ks z m q d',cl[i]?=some (gi,.lku d ks z false m q)/\cl[k]?=some (gk,.mpe d' ks z m q)/\i<k/\∀ j,i<=j->j<k->∃ c,cl[j]?=some c/\Qm c.2.dst (m.tmp++q.tmp)=true:=by
 unfold zy at h;split at h
 . rename_i gi d ks z m q gk d' ks' z' m' q' h1 h2;simp only [Bool.and_eq_true,decide_eq_true_eq] at h;obtain ⟨⟨⟨⟨⟨hik,e1⟩,e2⟩,e3⟩,e4⟩,e5⟩:=h;have e2:=qxv e2;have e3:=Xi e3;have e4:=Xi e4;subst e1 e2 e3 e4;refine ⟨gi,gk,d,ks,z,m,q,d',h1,h2,hik,fun j hj hjk=>?_⟩;have:=List.all_eq_true.1 e5 j (List.mem_range.2 hjk);simp only [Bool.or_eq_true,decide_eq_true_eq] at this;rcases this with h | h
   . omega
   split at h
   . rename_i c hc;exact ⟨c,hc,h⟩
   cases h
 cases h
theorem Vl {ks : KS} {kv : Value} {e : Value × Nat × AV} (hself : eqK ks kv e.1 = some true) : ∀ {es : List (Value × Nat × AV)} {n : Nat},zi ks kv es n = some none -> zi ks kv (es ++ [e]) n = some (some (n + es.length))
 | [],n,h=>by simp [zi,hself]
 | a::es, n, h=>by
   simp only [zi,List.cons_append] at h ⊢;split at h
   . cases h
   . rename_i h1;rw [Vl hself h];simp;omega
   cases h
theorem qdh {κ β:Type} {l:List (Wr κ β)} {X:Nat->Bool} {F:κ->β} {j:Nat} (hj:j<l.length):qm l (fun k=>X k&&decide (k<j+1)) F=if X j then l[j].app (qm l (fun k=>X k&&decide (k<j)) F) else qm l (fun k=>X k&&decide (k<j)) F:=by
 split
 . rename_i hx;refine zn hj (by simp) (by simp [hx]) (fun k hk=>?_) (fun k hk hlt hxk=>?_)
   . by_cases e : k < j
     . simp [e,show k<j+1 by omega]
     simp [e,show ¬ k<j+1 by omega]
   simp at hxk;omega
 rename_i hx;congr 1;funext k;by_cases e:k=j
 . subst e;simp [hx]
 by_cases e2:k<j
 . simp [e2,show k<j+1 by omega]
 simp [e2,show ¬ k<j+1 by omega]
theorem Fixed.lku (f : Fixed P N ops cl pre un st Rs st') {X : Nat -> Bool} (hX : Clo pre ops X) {i : Nat} (hi : i < cl.length) (hi' : i < Rs.length) (hx : X i = false) (hr : ∀ j ∈ pre.getD i [], X j = true) {k0 : Nat} (hk0 : k0 < Rs.length) (hex : zy cl i k0 = true)
 (QS:∀ d∈qK cl[i],frX Rs X st d=qm (Rs.map Rec.F) (fun k=>decide (k<i)) (get st.fr) d)
 (ap:∀ k (hk:k<Rs.length) (hk':k<cl.length),X k≠decide (k<i)->Apart (zy cl k i) cl[k] cl[i] Rs[k] Rs[i]\/Apart (zy cl i k) cl[i] cl[k] Rs[i] Rs[k]) {new:Nat}
 (h2:cl[i].2.sem P (evF (qm (Rs.map Rec.F) (fun k=>decide (k<i)) (get st.fr))) (qm (Rs.map Rec.H) (fun k=>decide (k<i)) (hpf st.hp)) new Rs[i].r Rs[i].ws)
 (h3:Rs[i].foot=cl[i].2.foot (qm (Rs.map Rec.F) (fun k=>decide (k<i)) (get st.fr)) (qm (Rs.map Rec.H) (fun k=>decide (k<i)) (hpf st.hp))) (new':Nat) :
 cl[i].2.sem P (evF (frX Rs X st)) (hpX Rs X st) new' Rs[i].r Rs[i].ws:=by
 obtain ⟨l1,l2⟩:=f.lens;obtain ⟨gi,gk,d,ks,z,m,q,d',c1,_,_,_⟩:=Zu hex;have c1':cl[i]=(gi,.lku d ks z false m q):=by rw [List.getElem?_eq_getElem hi] at c1;exact Option.some.inj c1
 rw [c1'] at h2 h3 ⊢;have look:∀ t∈m.tmp++q.tmp,t∈qK cl[i]:=fun t ht=>by rw [c1'];simp only [qK,AOp.opds,List.mem_append,List.flatMap_cons,List.flatMap_nil,List.append_nil] at ht ⊢;exact .inl ht
 have em:evF (frX Rs X st) m=evF (qm (Rs.map Rec.F) (fun k=>decide (k<i)) (get st.fr)) m:=ZV fun t ht=>QS t (look t (by simp [ht]));have eq':evF (frX Rs X st) q=evF (qm (Rs.map Rec.F) (fun k=>decide (k<i)) (get st.fr)) q:=ZV fun t ht=>QS t (look t (by simp [ht]));simp only [AOp.sem] at h2 ⊢;rw [em,eq'];generalize hFm:evF (qm (Rs.map Rec.F) (fun k=>decide (k<i)) (get st.fr)) m=um at h2 ⊢;generalize hFq:evF (qm (Rs.map Rec.F) (fun k=>decide (k<i)) (get st.fr)) q=uq at h2 ⊢;split at h2
 . rename_i x;split at h2
   . rename_i es clk hTx;obtain ⟨kv,hkv,hself,hws,hans⟩:=h2;have footx:x∈Rs[i].foot:=by rw [h3];simp [AOp.foot,AOp.looks,AOp.heapy,AOp.more,AOp.opds,hFm,AV.ids,AV.ids1]
     have main : ∀ j, i <= j -> j <= Rs.length -> (∃ clk', qm (Rs.map Rec.H) (fun k => X k && decide (k < j)) (hpf st.hp) x = some (.mp es clk')) \/
      (zi ks kv es 0=some none/\∃ b clk',qm (Rs.map Rec.H) (fun k=>X k&&decide (k<j)) (hpf st.hp) x=some (.mp (es++[(kv,b,z)]) clk')):=by
      intro j hij;obtain ⟨t,rfl⟩:∃ t,j=i+t:=⟨j - i,by omega⟩;clear hij
      induction t with
      | zero =>
        intro _;refine .inl ⟨clk,?_⟩;rw [<-hTx];refine qe rfl fun k hk hon=>?_;simp only [List.length_map] at hk;simp only [List.getElem_map] at hon;by_cases hki:k<i
        . by_cases hxk : X k = true
          . simp [hxk,hki]
          rcases ap k hk (by omega) (by simp [hki,hxk]) with a | a
          . exact absurd footx (a.wr x (Qw hon))
          rcases a.rw with a | a
          . obtain ⟨_,_,_,_,_,_,_,_,_,_,hlt,_⟩:=Zu a;omega
          exact absurd footx (a x (Qw hon))
        simp [hki]
      | succ t ih =>
        intro hj;have ih:=ih (by omega);have hjl:i+t<Rs.length:=by omega
        generalize hjj:i+t=j at ih hjl;rw [show i+(t+1)=j+1 by omega,qdh (by simpa using hjl)];by_cases hxj:X j=true
        . rw [if_pos hxj];by_cases hon:x∈Rs[j].ws.map (·.1)
          . have hij:i<j:=by
             rcases Nat.eq_or_lt_of_le (show i<=j by omega) with e | e
             . subst e;rw [hx] at hxj;cases hxj
             exact e
            have hpre:i∉pre.getD j []:=fun hp=>by have:=hX j (by omega) hxj i hp;rw [hx] at this;cases this
            have aj:=f.apart hij (by omega) hjl hpre;rcases aj.rw with hexj | hnot
            . obtain ⟨gi2, gj, d2, ks2, z2, m2, q2, d2', b1, b2, _, b4⟩ := Zu hexj;rw [c1] at b1;cases b1;have b2':cl[j]'(by omega)=(gj,.mpe d2' ks z m q):=by rw [List.getElem?_eq_getElem (by omega)] at b2;exact Option.some.inj b2
              obtain ⟨nj,oj,_⟩:=QI f.run j (by omega) hjl;rw [b2'] at oj
              have sameT : ∀ t2 ∈ m.tmp ++ q.tmp, qm (Rs.map Rec.F) (fun k => decide (k < j)) (get st.fr) t2 = qm (Rs.map Rec.F) (fun k => decide (k < i)) (get st.fr) t2 := fun t2 ht2 => qe rfl fun k hk honk => by
               simp only [List.length_map] at hk;simp only [List.getElem_map] at honk;by_cases k1:k<i
               . simp [k1,show k<j by omega]
               by_cases k2:k<j
               . obtain ⟨c,hc,hfree⟩ := b4 k (by omega) k2;obtain ⟨_,ok,_⟩:=QI f.run k (by omega) hk;have hcc:cl[k]'(by omega)=c:=by rw [List.getElem?_eq_getElem (by omega)] at hc;exact Option.some.inj hc
                 rw [<-hcc,<-ok.1,QM honk] at hfree;simp [Qm] at hfree ht2;rcases ht2 with h | h
                 . exact absurd h hfree.1
                 exact absurd h hfree.2
               simp [k1,k2]
              have em2:evF (qm (Rs.map Rec.F) (fun k=>decide (k<j)) (get st.fr)) m = .mp x:=by rw [<-hFm];exact ZV fun t2 h=>sameT t2 (by simp [h])
              have eq2:evF (qm (Rs.map Rec.F) (fun k=>decide (k<j)) (get st.fr)) q=uq:=by rw [<-hFq];exact ZV fun t2 h=>sameT t2 (by simp [h])
              rcases oj.2 with ⟨_,s2,s3⟩ | ⟨_,_,s2,_⟩
              . have footj : x ∈ Rs[j].foot := by rw [s3]; simp [AOp.foot, AOp.looks, AOp.heapy, AOp.more, AOp.opds, em2, AV.ids, AV.ids1]
                have hT : qm (Rs.map Rec.H) (fun k => decide (k < j)) (hpf st.hp) x = qm (Rs.map Rec.H) (fun k => X k && decide (k < j)) (hpf st.hp) x := qe rfl fun k hk honk => by
                 simp only [List.length_map] at hk;simp only [List.getElem_map] at honk;by_cases k2:k<j
                 . cases hxk:X k with
                   | true=>simp
                   | false =>
                     have hp2:k∉pre.getD j []:=fun hp=>by have:=hX j (by omega) hxj k hp;rw [hxk] at this;cases this
                     exact absurd footj ((f.apart k2 (by omega) hjl hp2).wr x (Qw honk))
                 simp [k2]
                simp only [AOp.sem,em2,eq2] at s2;rw [hT] at s2;rcases ih with ⟨clk',e⟩ | ⟨hnone,b,clk',e⟩
                . rw [e] at s2;obtain ⟨kv',g1,g2,g3⟩:=s2;rw [hkv] at g1;cases g1;rcases g3 with ⟨_,_,_,_,_,g⟩ | ⟨g4,_,g⟩
                  . rw [g] at hon;simp at hon
                  refine .inr ⟨g4,clk',clk'+1,?_⟩;simp [Wr.app,Rec.H,g,Hp.write,Hp.set_same]
                rw [e] at s2;obtain ⟨kv',g1,g2,g3⟩:=s2;rw [hkv] at g1;cases g1;rcases g3 with ⟨_,_,_,_,_,g⟩ | ⟨g4,_,g⟩
                . rw [g] at hon;simp at hon
                rw [Vl (e:=(kv,b,z)) hself hnone] at g4;cases g4
              rw [s2] at hon;simp at hon
            exact absurd footx (hnot x hon)
          have hon':((Rs.map Rec.H)[j]'(by simpa using hjl)).on x=false:=by simp only [List.getElem_map,Rec.H];simpa using hon
          have:(((Rs.map Rec.H)[j]'(by simpa using hjl)).app (qm (Rs.map Rec.H) (fun k=>X k&&decide (k<j)) (hpf st.hp))) x=qm (Rs.map Rec.H) (fun k=>X k&&decide (k<j)) (hpf st.hp) x:=by simp only [Wr.app,hon'];rfl
          rw [this];exact ih
        rw [if_neg hxj];exact ih
     have hfin:hpX Rs X st x=qm (Rs.map Rec.H) (fun k=>X k&&decide (k<Rs.length)) (hpf st.hp) x:=qe rfl fun k hk _=>by simp only [List.length_map] at hk;simp [hk]
     rcases main Rs.length (by omega) (Nat.le_refl _) with ⟨clk',e⟩ | ⟨hnone,b,clk',e⟩
     . rw [<-hfin] at e;simp only [e];exact ⟨kv,hkv,hself,hws,hans⟩
     rw [<-hfin] at e;simp only [e];rcases hans with ⟨_,_,g,_⟩ | ⟨_,g⟩
     . rw [hnone] at g;cases g
     exact ⟨kv,hkv,hself,hws,.inl ⟨es.length,(kv,b,z),by rw [Vl (e:=(kv,b,z)) hself hnone];simp,by simp,g⟩⟩
   . exact absurd h2.1 (by decide)
   exact h2.elim
 exact h2.elim
theorem Fixed.serves (f : Fixed P N ops cl pre un st Rs st') {X : Nat -> Bool} (hX : Clo pre ops X) {i : Nat} (hi : i < cl.length) (hi' : i < Rs.length) (hx : X i = false) (hr : ∀ j ∈ pre.getD i [], X j = true) :
 ∃ new,hpX Rs X st new=none/\qaJ P cl[i].1 cl[i].2 Rs[i] (frX Rs X st) (hpX Rs X st) new:=by
 obtain ⟨l1,l2⟩:=f.lens;obtain ⟨new,ok,hnew⟩:=QI f.run i hi hi'
 have ap : ∀ k (hk : k < Rs.length) (hk' : k < cl.length),X k ≠ decide (k < i) -> Apart (zy cl k i) cl[k] cl[i] Rs[k] Rs[i] \/ Apart (zy cl i k) cl[i] cl[k] Rs[i] Rs[k] := fun k hk hk' hne => by
  rcases Nat.lt_trichotomy k i with h | h | h
  . refine .inl (f.apart h hi hi' (fun hp=>hne ?_));rw [hr k hp];simp [h]
  . subst h;rw [hx] at hne;simp at hne
  refine .inr (f.apart h hk' hk (fun hp=>hne ?_))
  have:X k=true:=by
   cases e:X k with
   | true=>rfl
   | false=>rw [e] at hne;exact absurd (by symm;simp;omega) hne
  have:=hX k (by omega) this i hp;rw [hx] at this;cases this
 have QS : ∀ d ∈ qK cl[i],frX Rs X st d = qm (Rs.map Rec.F) (fun k => decide (k < i)) (get st.fr) d := fun d hd => by
  refine qe rfl fun k hk hon=>?_;simp only [List.length_map] at hk;simp only [List.getElem_map] at hon;by_cases e:X k=decide (k<i)
  . exact e
  rcases ap k hk (by omega) e with a | a
  . exact absurd hd (a.look d (QM hon))
  exact absurd hd (a.look' d (QM hon))
 have Z3 : ∀ x, (x ∈ Rs[i].ws.map (·.1) \/ (∀ k, k < Rs.length -> zy cl i k = false) /\ x ∈ Rs[i].foot) -> hpX Rs X st x = qm (Rs.map Rec.H) (fun k => decide (k < i)) (hpf st.hp) x := fun x hxx => by
  refine qe rfl fun k hk hon=>?_;simp only [List.length_map] at hk;simp only [List.getElem_map] at hon;by_cases e:X k=decide (k<i)
  . exact e
  have hon:=Qw hon;rcases ap k hk (by omega) e with a | a
  . rcases hxx with h | ⟨h0,h⟩
    . exact absurd h (a.ww x hon)
    exact absurd h (a.wr x hon)
  rcases hxx with h | ⟨h0,h⟩
  . exact absurd hon (a.ww x h)
  rcases a.rw with a | a
  . rw [h0 k hk] at a;cases a
  exact absurd h (a x hon)
 obtain ⟨b1,b2⟩:=QY f.run
 have hfresh:hpX Rs X st st'.hp.length=none:=by
  have:hpX Rs X st st'.hp.length=qm (Rs.map Rec.H) (fun _=>false) (hpf st.hp) st'.hp.length:=qe rfl fun k hk hon=>by simp only [List.length_map] at hk;simp only [List.getElem_map] at hon;have:=Qw hon;obtain ⟨p,hp,e⟩:=List.mem_map.1 this;have:=b2 Rs[k] (List.getElem_mem _) p hp;omega
  rw [this,qx (fun _=>rfl)];simp [hpf,b1]
 have hg:=jr (gd:=cl[i].1) (F:=qm (Rs.map Rec.F) (fun k=>decide (k<i)) (get st.fr)) (F':=frX Rs X st) (fun j b e=>QS j (by simp [qK,e]));refine ⟨if new∈Rs[i].ws.map (·.1) then new else st'.hp.length,?_,ok.1,?_⟩
 . split
   . rename_i h;rw [Z3 new (.inl h)];exact hnew
   exact hfresh
 rcases ok.2 with ⟨h1, h2, h3⟩ | ⟨h1, h2, h3, h4⟩
 . refine .inl ⟨hg.1 h1,?_,?_⟩
   . by_cases hex : ∃ k,k < Rs.length /\ zy cl i k = true
     . obtain ⟨k,hk,hex⟩:=hex;exact f.lku hX hi hi' hx hr hk hex QS ap h2 h3 _
     refine Q2 h2 (fun x hx => ZV fun d hd => QS d ?_) (fun id hid => Z3 id (.inr ⟨fun k hk => by
      cases e:zy cl i k with
      | false=>rfl
      | true=>exact absurd ⟨k,hk,e⟩ hex,by rw [h3];exact hid⟩)) (fun h=>by rw [if_pos h])
     simp only [qK,List.mem_append,List.mem_flatMap];exact .inl ⟨x,hx,hd⟩
   rw [h3];have sF:∀ x∈cl[i].2.opds,evF (frX Rs X st) x=evF (qm (Rs.map Rec.F) (fun k=>decide (k<i)) (get st.fr)) x:=fun x hx=>ZV fun d hd=>QS d (by simp only [qK,List.mem_append,List.mem_flatMap];exact .inl ⟨x,hx,hd⟩);by_cases hex:∃ k,k<Rs.length/\zy cl i k=true
   . obtain ⟨k,hk,hex⟩ := hex;obtain ⟨gi,gk,d,ks,z,m,q,d',c1,_,_,_⟩:=Zu hex;have c1':cl[i]=(gi,.lku d ks z false m q):=by rw [List.getElem?_eq_getElem hi] at c1;exact Option.some.inj c1
     rw [c1'] at sF ⊢;simp only [AOp.foot,AOp.looks,AOp.heapy,AOp.more,AOp.opds,cond_true,List.flatMap_cons,List.flatMap_nil];rw [sF m (by simp [AOp.opds]),sF q (by simp [AOp.opds])]
   exact (V6 h2 sF fun id hid => Z3 id (.inr ⟨fun k hk => by
    cases e:zy cl i k with
    | false=>rfl
    | true=>exact absurd ⟨k,hk,e⟩ hex,by rw [h3];exact hid⟩)).symm
 exact .inr ⟨hg.2 h1,h2,h3,h4⟩
theorem Fixed.next (f : Fixed P N ops cl pre un st Rs st') {X Y : Nat -> Bool} (hX : Clo pre ops X) {i : Nat} (hi : i < cl.length) (hi' : i < Rs.length) (hx : X i = false) (hy : Y i = true) (hj : ∀ j,j ≠ i -> Y j = X j) :
 frX Rs Y st=Rs[i].F.app (frX Rs X st)/\hpX Rs Y st=Hp.write (hpX Rs X st) Rs[i].ws:=by
 obtain ⟨l1,l2⟩:=f.lens;have ap:∀ k (hk:k<Rs.length) (hk':k<cl.length),i<k->X k=true->Apart (zy cl i k) cl[i] cl[k] Rs[i] Rs[k]:=fun k hk hk' hlt hxk=>f.apart hlt hk' hk (fun hp=>by have:=hX k (by omega) hxk i hp;rw [hx] at this;cases this);constructor
 . have:=zn (l:=Rs.map Rec.F) (F:=get st.fr) (by simpa using hi') hx hy hj (fun k hk hlt hxk key hon=>by simp only [List.length_map] at hk;simp only [List.getElem_map] at hon ⊢;have a:=ap k hk (by omega) hlt hxk;have:=a.dst key (QM hon);simpa [Rec.F] using this);simpa [frX] using this
 have:=zn (l:=Rs.map Rec.H) (F:=hpf st.hp) (by simpa using hi') hx hy hj (fun k hk hlt hxk key hon=>by simp only [List.length_map] at hk;simp only [List.getElem_map] at hon ⊢;have a:=ap k hk (by omega) hlt hxk;have:=a.ww key (Qw hon);simpa [Rec.H] using this);rw [List.getElem_map,ZO] at this;exact this
theorem FrOK.app {w g F} {a:Act} (h:FrOK w g F a) {R:Rec} {v:Value} (hd:∀ k,R.dst=some k->k<a.tmps.size) (hr:Rep w g false R.r v):FrOK w g (R.F.app F) (a.put R.dst v):=by
 obtain ⟨d,r,ws,ft⟩:=R;cases d with
 | none =>
   have:(Rec.F ⟨none,r,ws,ft⟩).app F=F:=by funext t;simp [Wr.app,Rec.F]
   rw [this];exact h
 | some d =>
   intro t;have hlt:=hd d rfl;simp only [Wr.app,Rec.F,Act.put];by_cases e:d=t
   . subst e;simp [hlt];exact hr
   have:=h t;simp only [Array.getD_eq_getD_getElem?] at this ⊢;rw [Array.getElem?_setIfInBounds_ne e];simpa [e] using this
theorem QF {gd:Option (Nat × Bool)} {F:Nat->AV} {w g} {a:Act} (hF:FrOK w g F a):(qg8 gd F->zS a gd=true)/\(V7 gd F->zS a gd=false):=by
 cases gd with
 | none=>exact ⟨fun _=>rfl,fun h=>h.elim⟩
 | some jb =>
   obtain ⟨j,b⟩:=jb;have key:∀ x,F j = .v x->a.tmps.getD j undef=x:=fun x hx=>by have:=hF j;rw [hx] at this;exact zu this
   constructor
   . intro h;have hv:=key _ h
     have hlt:j<a.tmps.size:=by
      rcases Nat.lt_or_ge j a.tmps.size with h' | h'
      . exact h'
      simp [undef,h'] at hv
     have hv':a.tmps[j]?=some (.bool b):=by simp [hlt] at hv;simp [hlt,hv]
     simp [zS,hv']
   rintro (⟨c,h,hne⟩ | ⟨c,h⟩)
   . have hv := key _ h
     have hlt:j<a.tmps.size:=by
      rcases Nat.lt_or_ge j a.tmps.size with h' | h'
      . exact h'
      simp [undef,h'] at hv
     have hv':a.tmps[j]?=some (.bool c):=by simp [hlt] at hv;simp [hlt,hv]
     simp [zS,hv',hne]
   have hv:=key _ h;cases ht:a.tmps[j]? with
   | none=>simp [zS,ht]
   | some y =>
     have:y = .tuple c:=by simpa [ht] using hv
     subst this;simp [zS,ht]
theorem Fixed.step (f : Fixed P N ops cl pre un st Rs st') {X Y : Nat -> Bool} (hX : Clo pre ops X) {i : Nat} (hi : i < ops.size) (hx : X i = false) (hr : ∀ j ∈ pre.getD i [],X j = true) (hy : Y i = true) (hj : ∀ j,j ≠ i -> Y j = X j)
 {a:Act} {w:World} {g:G} (hN:a.tmps.size=N) (hF:FrOK w g (frX Rs X st) a) (hok:HeapOK (hpX Rs X st) g w) {K:Act->World->Prop} {Q:Exit->Act->World->Prop}
 (hK:∀ a' w' g',a'.tmps.size=N->a'.defers=a.defers->FrOK w' g' (frX Rs Y st) a'->HeapOK (hpX Rs Y st) g' w'->Upd (hpX Rs X st) g w (hpX Rs Y st) g' w'->K a' w') :
 wpOpIn (W ro) n P ops Q i K a w:=by
 obtain ⟨l1,l2⟩:=f.lens;obtain ⟨new,hnew,hrec⟩:=f.serves hX (i:=i) (by omega) (by omega) hx hr;obtain ⟨e1,e2⟩:=f.next hX (i:=i) (by omega) (by omega) hx hy hj
 obtain ⟨c1,c2⟩:=(qW f.comp).2 i (by simpa using hi) (by omega);simp only [Array.getElem_toList] at c1 c2;obtain ⟨d1,d2⟩:=WK c1;unfold wpOpIn;simp only [Array.getElem?_eq_getElem hi];rw [zP c2];have hdst:Rs[i].dst=ops[i].dst:=hrec.1.trans d1;rcases hrec.2 with ⟨h1,h2,h3⟩ | ⟨h1,h2,h3,h4⟩
 . rw [(QF hF).1 h1];simp only [if_true];obtain ⟨p1,p2,p3⟩:=qgI (ro:=ro) (n:=n) c1 hF hok hnew h2;refine p1 K Q fun v w' hp=>?_;obtain ⟨g',q1,q2,q3⟩:=hp;rw [<-e2] at q2 q3;rw [<-hdst];refine hK _ w' g' (by rw [JA];exact hN) (qV _ _ _) ?_ q2 q3;rw [e1];exact FrOK.app (hF.mono q3.tr) (fun k e=>by rw [hN];exact d2 k (by rw [<-hdst];exact e)) q1
 rw [(QF hF).2 h1];simp only [Bool.false_eq_true,if_false];refine ⟨fun _ _=>trivial,?_⟩;rw [<-hdst];have e3:hpX Rs Y st=hpX Rs X st:=by rw [e2,h3];rfl
 refine hK _ w g (by rw [JA];exact hN) (qV _ _ _) ?_ (by rw [e3];exact hok) (by rw [e3];exact .refl _ _ _);rw [e1];exact FrOK.app hF (fun k e=>by rw [hN];exact d2 k (by rw [<-hdst];exact e)) (by rw [h2];exact .v _ _)
theorem Yb {listed:Array Bool} {i:Nat} (h:i∈Region.ready .any ops listed):∃ (hi:i<ops.size),listed.getD i true=false/\∀ e∈ops[i].after,Region.binds .any e=true->listed.getD e.on false=true:=by simp only [Region.ready,List.mem_filter,List.mem_range,Bool.and_eq_true,Bool.not_eq_true'] at h;obtain ⟨hi,h1,h2⟩:=h;refine ⟨hi,h1,fun e he hb=>?_⟩;simp only [Array.getElem?_eq_getElem hi,Option.map_some,Option.getD_some] at h2;have:=(Array.all_eq_true_iff_forall_mem.1 h2) e he;simpa [hb] using this
theorem Vw {listed:Array Bool} (hl:listed.size=ops.size) (he:∀ k (hk:k<ops.size), ∀ e∈ops[k].after, Region.binds .any e=true->e.on<k) (h:Region.ready .any ops listed=[]):∀ i, i<ops.size->listed.getD i true=true:=fun i=>by
 induction i using Nat.strongRecOn with
 | _ i ih =>
   intro hi;cases hx:listed.getD i true with
   | true=>rfl
   | false =>
     exfalso
     have:i∈Region.ready .any ops listed:=by
      simp only [Region.ready,List.mem_filter,List.mem_range,Bool.and_eq_true,Bool.not_eq_true'];refine ⟨hi,hx,?_⟩;simp only [Array.getElem?_eq_getElem hi,Option.map_some,Option.getD_some];refine Array.all_eq_true_iff_forall_mem.2 fun e hm=>?_;cases hb:Region.binds .any e with
      | false=>rfl
      | true =>
        have hlt:=he i hi e hm hb;have:=ih e.on hlt (by omega);have hlt':e.on<listed.size:=by omega
        simpa [hlt'] using this
     rw [h] at this;simp at this
theorem Ya {listed:Array Bool} (h:∀ i,i<ops.size->listed.getD i true=true):Region.ready .any ops listed=[]:=by simp only [Region.ready,List.filter_eq_nil_iff,List.mem_range,Bool.and_eq_true,Bool.not_eq_true'];intro i hi ⟨h1,_⟩;rw [h i hi] at h1;cases h1
def lst (listed:Array Bool):Nat->Bool:=fun i=>listed.getD i true
theorem Fixed.done (f:Fixed P N ops cl pre un st Rs st') {X:Nat->Bool} (h:∀ i,i<ops.size->X i=true):frX Rs X st=get st'.fr/\hpX Rs X st=hpf st'.hp:=by
 obtain ⟨l1,l2⟩:=f.lens;obtain ⟨e1,e2⟩:=Xr f.run;rw [e1,e2];constructor
 . funext t;exact qe rfl fun k hk _=>h k (by simp at hk;omega)
 funext t;exact qe rfl fun k hk _=>h k (by simp at hk;omega)
theorem Fixed.all (f : Fixed P N ops cl pre un st Rs st') {w0 : World} {g0 : G} {Q : Exit -> Act -> World -> Prop} {a0 : Act}
 (hQ:∀ a w g,Sim N st' a w g->Upd (hpf st.hp) g0 w0 (hpf st'.hp) g w->a.defers=a0.defers->Q .normal a w) :
 ∀ (jM : Nat) (listed : Array Bool) (a : Act) (w : World) (g : G),listed.size = ops.size -> Clo pre ops (lst listed) -> unl (lst listed) ops.size <= jM -> a.tmps.size = N -> a.defers = a0.defers -> FrOK w g (frX Rs (lst listed) st) a -> HeapOK (hpX Rs (lst listed) st) g w ->
   Upd (hpf st.hp) g0 w0 (hpX Rs (lst listed) st) g w->wpAnyIn (W ro) n P .any ops Q jM listed a w:=by
 obtain ⟨l1,l2⟩:=f.lens
 have fin : ∀ (listed : Array Bool) (a : Act) (w : World) (g : G),(∀ i,i < ops.size -> lst listed i = true) -> a.tmps.size = N -> a.defers = a0.defers -> FrOK w g (frX Rs (lst listed) st) a -> HeapOK (hpX Rs (lst listed) st) g w ->
  Upd (hpf st.hp) g0 w0 (hpX Rs (lst listed) st) g w->Q .normal a w:=fun listed a w g h hN hD hF hok hu=>by
  obtain ⟨e1,e2⟩:=f.done h;rw [e1] at hF;rw [e2] at hok hu;exact hQ a w g ⟨hN,hF,hok⟩ hu hD
 have ed:=fun k (hk:k<ops.size)=>(QV f.ok hk (by omega)).1;intro jM
 induction jM with
 | zero =>intro listed a w g hl hX hfu hN hD hF hok hu;have h:=YX (X:=lst listed) (n:=ops.size) (by omega);exact ⟨Ya h,fin listed a w g h hN hD hF hok hu⟩
 | succ jM ih =>
   intro listed a w g hl hX hfu hN hD hF hok hu;refine ⟨fun h=>fin listed a w g (Vw hl ed h) hN hD hF hok hu,fun i hi=>?_⟩;obtain ⟨hlt,hx,he⟩:=Yb hi
   have hget : ∀ j,j < ops.size -> (listed.getD j false = true) -> lst listed j = true := fun j hj h => by
    have:j<listed.size:=by omega
    simpa [lst,this] using h
   have hr : ∀ j ∈ pre.getD i [],lst listed j = true := fun j hj => by
    obtain ⟨e,hm,hb,h⟩:=(QV f.ok hlt (by omega)).2 j hj;have hon:=ed i hlt e hm hb;have hL:=hget e.on (by omega) (he e hm hb);rcases h with h | h
    . rw [<-h];exact hL
    exact hX e.on (by omega) hL j h
   have hi':i<listed.size:=by omega
   have hy:lst (listed.setIfInBounds i true) i=true:=by simp [lst,hi']
   have hj:∀ j,j≠i->lst (listed.setIfInBounds i true) j=lst listed j:=fun j hne=>by simp only [lst,Array.getD_eq_getD_getElem?];rw [Array.getElem?_setIfInBounds_ne (Ne.symm hne)]
   refine f.step hX hlt hx hr hy hj hN hF hok fun a' w' g' hN' hD' hF' hok' hu'=>?_;refine ih _ a' w' g' (by simpa using hl) (fun k hk hk1 j hjm=>?_) ?_ hN' (hD'.trans hD) hF' hok' (hu.trans hu')
   . by_cases e : j = i
     . subst e;exact hy
     rw [hj j e];by_cases e':k=i
     . subst e';exact hr j hjm
     rw [hj k e'] at hk1;exact hX k hk hk1 j hjm
   have:=XE hx hy hj ops.size hlt;omega
theorem zz (n:Nat):∀ i,i<n->lst (Array.replicate n false) i=false:=fun i hi=>by simp [lst,hi]
theorem qdd {id : Nat} {ops : Array Oper} {cl pre un} {st : St} {K : St -> Prop} {a : Act} {w : World} {g : G} {Q : Exit -> Act -> World -> Prop} (hm : P.follows .mixedOrders = true)
 (hc:zZ P N ops ops.toList=some cl) (hd:Ym ops cl pre un=true) (h:qZ P (grp cl) st [] fun st tr=>zJ tr un=true/\K st) (hs:Sim N st a w g) (hn:qxx N st a w g K (Q .normal)) :
 (Code.region id ops true).wpIn (W ro) n P Q a w:=by
 obtain ⟨Rs,st',hrun,hcm,hK⟩:=QE (Qi h);simp only [List.nil_append] at hcm;have f:Fixed P N ops cl pre un st Rs st':=⟨hc,hd,hrun,hcm⟩;obtain ⟨l1,l2⟩:=f.lens;refine wpIn_region_any hm ?_;obtain ⟨hokd,hud⟩:=hs.2.2.drew
 have e1:frX Rs (lst (Array.replicate ops.size false)) st=get st.fr:=by
  have:frX Rs (lst (Array.replicate ops.size false)) st=qm (Rs.map Rec.F) (fun _=>false) (get st.fr):=by funext t;exact qe rfl fun k hk _=>zz _ k (by simp at hk;omega)
  rw [this,qx (fun _=>rfl)]
 have e2:hpX Rs (lst (Array.replicate ops.size false)) st=hpf st.hp:=by
  have:hpX Rs (lst (Array.replicate ops.size false)) st=qm (Rs.map Rec.H) (fun _=>false) (hpf st.hp):=by funext t;exact qe rfl fun k hk _=>zz _ k (by simp at hk;omega)
  rw [this,qx (fun _=>rfl)]
 refine f.all (g0:=g) (w0:=w) (a0:=a) (fun a' w' g' hs' hu' hD'=>hn st' a' w' g' hK hs' hu' hD') ops.size _ a w.drew g (by simp) (fun k hk hk1=>?_) ?_ hs.1 rfl ?_ ?_ ?_
 . rw [zz _ k hk] at hk1;cases hk1
 . have : ∀ m,unl (lst (Array.replicate ops.size false)) m <= m := fun m => by
    induction m with
    | zero=>exact Nat.le_refl _
    | succ m ih=>simp only [unl];split <;> omega
   exact this _
 . rw [e1];exact hs.2.1.mono hud.tr
 . rw [e2];exact hokd
 rw [e2];exact hud
end
def VL (P : Program) (N : Nat) : Code -> AC -> Prop
 | .skip,.skip=>True
 | .region _ ops d,.rgn gs _=>d=false/\∃ cl,zZ P N ops ops.toList=some cl/\gs=grp cl
 | .region _ ops d,.drw gs un _=>d=true/\P.follows .mixedOrders=true/\∃ cl pre,zZ P N ops ops.toList=some cl/\Ym ops cl pre un=true/\gs=grp cl
 | .seq a b,.seq x y=>VL P N a x/\VL P N b y
 | .cond c a b,.cond d x y=>opd c=some d/\VL P N a x/\VL P N b y
 | .block id a,.block id' x=>id=id'/\VL P N a x
 | .loop a,.loop x=>VL P N a x
 | .exit id,.exit id'=>id=id'
 | .ret,.ret=>True
 | .label l,.label l'=>l=l'
 | .scope a,.scope x=>VL P N a x
 | .rangeFunc g ps a b,.rf g' qs x y _=>opd g=some g'/\qs=ps.toList/\(∀ p∈qs,p<N)/\VL P N a x/\VL P N b y
 | _,.dead=>True
 | _,_=>False
def comp (P : Program) (N : Nat) : Code -> AC
 | .skip => .skip
 | .region _ ops d=>match zZ P N ops ops.toList with
   | some cl=>bif d then (bif Ym ops cl (qdx ops) (qCo (qdx ops) cl)&&P.follows .mixedOrders then .drw (grp cl) (qCo (qdx ops) cl) [] else .dead) else .rgn (grp cl) []
   | none => .dead
 | .seq a b => .seq (comp P N a) (comp P N b)
 | .cond c a b=>match opd c with
   | some d => .cond d (comp P N a) (comp P N b)
   | none => .dead
 | .block id a => .block id (comp P N a)
 | .loop a => .loop (comp P N a)
 | .exit id => .exit id
 | .ret => .ret
 | .label l => .label l
 | .scope a => .scope (comp P N a)
 | .rangeFunc g ps a b=>match opd g with
   | some g'=>bif ps.toList.all (fun p=>decide (p<N)) then .rf g' ps.toList (comp P N a) (comp P N b) [] else .dead
   | none => .dead
 | _ => .dead
theorem ze {P : Program} {N : Nat} : ∀ (c : Code),VL P N c (comp P N c)
 | .skip=>trivial
 | .region id ops d=>by
   simp only [comp];split
   . rename_i cl hcl;cases d with
     | false=>exact ⟨rfl,cl,hcl,rfl⟩
     | true =>
       simp only [cond_true];cases hk:(Ym ops cl (qdx ops) (qCo (qdx ops) cl)&&P.follows .mixedOrders) with
       | false=>exact trivial
       | true =>simp only [Bool.and_eq_true] at hk;exact ⟨rfl,hk.2,cl,qdx ops,hcl,hk.1,rfl⟩
   exact trivial
 | .seq a b=>⟨ze a,ze b⟩
 | .cond c a b=>by
   simp only [comp];split
   . rename_i h0;exact ⟨h0,ze a,ze b⟩
   exact trivial
 | .block id a=>⟨rfl,ze a⟩
 | .loop a=>ze a
 | .exit id=>rfl
 | .ret=>trivial
 | .label l=>rfl
 | .rangeFunc g ps a b=>by
   simp only [comp];split
   . rename_i g' h0;cases hk:(ps.toList.all (fun p=>decide (p<N))) with
     | false=>exact trivial
     | true =>exact ⟨h0,rfl,fun p hp=>by simpa using List.all_eq_true.1 hk p hp,ze a,ze b⟩
   exact trivial
 | .scope a=>ze (P:=P) (N:=N) a
 | .goto _=>trivial
 | .refuse _=>trivial
def qz5 (n : Nat) : List Nat -> List Nat
 | []=>[n]
 | m::l=>bif n<m then n::m::l else bif n==m then m::l else m::qz5 n l
def qla : List Nat -> List Nat -> List Nat
 | [],l=>l
 | n::k,l=>qz5 n (qla k l)
def qEk (n:Option Nat) (l:List Nat):List Nat:=match n with
 | some n=>l.filter (· != n)
 | none=>l
def qnb : List AOp -> List Nat -> List Nat
 | [],l=>l
 | o::os,l=>qla (o.opds.flatMap Opd.tmp) (qEk o.dst (qnb os l))
def qca : List Grp -> List Nat -> List Nat
 | [],l=>l
 | ⟨none,os⟩::gs,l=>qnb os (qca gs l)
 | ⟨some (j,_),os⟩::gs,l=>qz5 j (qnb os (qca gs l))
def qDE (id : Nat) : List (Nat × List Nat) -> List Nat
 | []=>[]
 | (i,l)::r=>bif i==id then l else qDE id r
def ann (rt : List Nat) : AC -> List (Nat × List Nat) -> List Nat -> AC × List Nat
 | .skip,_,l=>(.skip,l)
 | .rgn gs _,_,l=>(.rgn gs l,qca gs l)
 | .drw gs un _,_,l=>(.drw gs un l,qca gs l)
 | .seq x y,ex,l=>(.seq (ann rt x ex (ann rt y ex l).2).1 (ann rt y ex l).1,(ann rt x ex (ann rt y ex l).2).2)
 | .cond c x y,ex,l=>(.cond c (ann rt x ex l).1 (ann rt y ex l).1,qla c.tmp (qla (ann rt x ex l).2 (ann rt y ex l).2))
 | .block id x,ex,l=>(.block id (ann rt x ((id,l)::ex) l).1,(ann rt x ((id,l)::ex) l).2)
 | .loop x,ex,l=>(.loop (ann rt x ex (ann rt x ex []).2).1,(ann rt x ex []).2)
 | .exit id,ex,_=>(.exit id,qDE id ex)
 | .ret,_,_=>(.ret,rt)
 | .label i,_,l=>(.label i,l)
 | .scope x,ex,l=>(.scope (ann rt x ex l).1,(ann rt x ex l).2)
 | .rf g ps x y _,ex,l=>(.rf g ps (ann rt x ex (ann rt y ex []).2).1 (ann rt y ex []).1 l,qla g.tmp (qla ((ann rt x ex (ann rt y ex []).2).2.filter fun t => !ps.contains t) (qla rt (qla (ex.flatMap (·.2)) l))))
 | .dead,_,_=>(.dead,[])
theorem zR {P : Program} {N : Nat} {rt : List Nat} : ∀ {ac : AC} {c : Code} {ex l},VL P N c ac -> VL P N c (ann rt ac ex l).1
 | .skip,c,ex,l,h=>by cases c <;> exact h
 | .rgn gs ks,c,ex,l,h=>by cases c <;> exact h
 | .drw gs un ks,c,ex,l,h=>by cases c <;> exact h
 | .seq x y,c,ex,l,h=>by cases c <;> first | exact ⟨zR h.1,zR h.2⟩ | exact h
 | .cond d x y,c,ex,l,h=>by cases c <;> first | exact ⟨h.1,zR h.2.1,zR h.2.2⟩ | exact h
 | .block id x,c,ex,l,h=>by cases c <;> first | exact ⟨h.1,zR h.2⟩ | exact h
 | .loop x,c,ex,l,h=>by cases c <;> first | exact zR (ac:=x) h | exact h
 | .exit id,c,ex,l,h=>by cases c <;> exact h
 | .ret,c,ex,l,h=>by cases c <;> exact h
 | .label i,c,ex,l,h=>by cases c <;> exact h
 | .scope x,c,ex,l,h=>by cases c <;> first | exact zR (ac:=x) h | exact h
 | .rf g ps x y ks,c,ex,l,h=>by
   cases c <;> first | exact h.elim | skip
   obtain ⟨h1,h2,h3,h6,h7⟩:=h;exact ⟨h1,h2,h3,zR h6,zR h7⟩
 | .dead,c,ex,l,h=>by cases c <;> exact h
section
variable {F:Fence} {n:Nat} {P:Program} {Q:Exit->Act->World->Prop} {a:Act} {w:World}
theorem Qz {b:Frame} {k:List Item} {cs:List Frame} {c:Code}:step P (lone (b.atR a (.code (.scope c)::k)) cs w) = .next (lone (b.atR a (.code c :: .inScope c::k)) cs w) :=
 step_lone_go (by simp [stepG,stepG.exec,Frame.atR])
theorem XA {b:Frame} {k:List Item} {cs:List Frame} {c:Code}:step P (lone (b.atR a (.inScope c::k)) cs w) = .next (lone (b.atR a k) cs w) :=
 step_lone_go (by simp [stepG,stepG.exec,Frame.atR])
theorem Q4 {c:Code} (h:c.wpIn F n P (Exit.noGoto Q) a w):(Code.scope c).wpIn F n P Q a w:=by
 intro b k cs hro hb hr;have h0:(lone (b.atR a (.code (.scope c)::k)) cs w).fenced P F:=fenced_calm hb hr rfl;obtain ⟨e,a₁,w₁,hq,harr⟩:=h b (.inScope c::k) cs hro hb hr;cases e with
 | normal=>exact ⟨.normal,a₁,w₁,hq,.head h0 Qz (StepsIn.trans harr (.one (fenced_calm hb hr rfl) XA))⟩
 | exit id =>
   have hx:exitTo id (.inScope c::k)=exitTo id k:=by simp [exitTo]
   exact ⟨.exit id,a₁,w₁,hq,fun k' hk => .head h0 Qz (harr.1 k' (by rw [hx]; exact hk)),
    fun hr' hk=>let ⟨k₁,h1,h2⟩:=harr.2 hr' (by rw [hx];exact hk);⟨k₁,h1,.head h0 Qz h2⟩⟩
 | goto l=>exact hq.elim
 | ret=>exact ⟨_,a₁,w₁,hq,.of_steps (.one h0 Qz) harr⟩
 | panic ch=>exact ⟨_,a₁,w₁,hq,.of_steps (.one h0 Qz) harr⟩
 | outgrown=>exact ⟨_,a₁,w₁,hq,.of_steps (.one h0 Qz) harr⟩
end
theorem HeapOK.allocX {hp g w} (h:HeapOK hp g w) (ob:Obj):HeapOK hp g (w.alloc ob)/\Upd hp g w hp g (w.alloc ob):=by have tr:Trans w g (w.alloc ob) g:=⟨fun _ _ x=>x,JM h.ex ob,fun _ _ x=>x,fun b arr ty fz hb=>⟨arr,(Below.heap_alloc w ob b (Array.getElem?_eq_some_iff.1 hb).1).trans hb,rfl⟩,rfl,rfl,rfl,by simp,Nat.le_refl _⟩;refine ⟨h.change (fun _=>False) tr (fun _ _=>rfl) (fun _ _=>rfl) (fun i o c d hi ho hl hr'=>Below.heap_alloc _ _ _ (h.lt ho hl hr')) (fun i o c d hi ho hl hr' q hq=>hq) (fun _ h=>h.elim) (fun _ _ _ _ _ _ _ h=>h.elim) (fun b q hs=>?_),tr,fun c hc => .inl hc,fun b q hs => .inl hs,fun b hb _=>Below.heap_alloc _ _ _ hb⟩;obtain ⟨v,hv⟩:=h.ex b q hs;exact ⟨v,(tr.cell b q hs).trans hv⟩
theorem HeapOK.mark {hp g w} (h:HeapOK hp g w) {id:Nat} (hn:hp id=none) (L:Loop):HeapOK (Hp.set hp id .gone) (g.home id (.base L)) w/\Upd hp g w (Hp.set hp id .gone) (g.home id (.base L)) w:=by
 have tr : Trans w g w (g.home id (.base L)) := ⟨fun _ _ x => x,fun _ _ _ => rfl,
  fun i l' hi => by
   have:i≠id:=fun e=>by subst e;rw [h.dom i hn] at hi;cases hi
   simp [G.home,this,hi],
  fun b arr ty fz hb=>⟨arr,hb,rfl⟩,rfl,rfl,rfl,Nat.le_refl _,Nat.le_refl _⟩
 refine ⟨h.change (fun i=>i=id) tr (fun i hi=>Hp.set_other _ _ hi) (fun i hi=>by simp [G.home,hi]) (fun _ _ _ _ _ _ _ _=>rfl) (fun i o c d hi ho hl hr' q hq=>hq) ?_ ?_ h.ex,tr,?_,fun b q hs => .inl hs,fun b hb _=>rfl⟩
 . rintro i rfl;exact ⟨.gone,.base L,Hp.set_same _ _ _,by simp [G.home],trivial⟩
 . rintro i i' o o' c d d' rfl ho ho' hl hl' hr1 hr2;rw [Hp.set_same] at ho;cases ho;cases hl
 rintro c ⟨i,o,d,ho,hl,hr1⟩;by_cases e:i=id
 . subst e;rw [Hp.set_same] at ho;cases ho;cases hl
 rw [Hp.set_other _ _ e] at ho;simp [G.home,e] at hr1;exact .inl ⟨i,o,d,ho,hl,hr1⟩
abbrev mark (D:Nat):Deferred:={ target := .collected D,args:=#[] }
theorem qgL {hp0 g0 w0 hp g w} (h : HeapOK hp g w) (u : Upd hp0 g0 w0 hp g w) {D : Nat} (hD : w.heap[D]? = some (.deferred (some []))) (hl : ¬ qaI hp g D) (hs : w0.heap.size <= D) :
 HeapOK hp g (w.putObj D (.deferred none))/\Upd hp0 g0 w0 hp g (w.putObj D (.deferred none))/\Trans w g (w.putObj D (.deferred none)) g:=by
 have tr : Trans w g (w.putObj D (.deferred none)) g := ⟨fun _ _ x => x,fun b q _ => Y2 hD rfl rfl _,fun _ _ x => x,fun b a1 t1 f1 hb1 => by
  by_cases e:b=D
  . subst e;rw [hD] at hb1;cases hb1
  exact ⟨a1,(World.putObj_heap_other e).trans hb1,rfl⟩,rfl,rfl,rfl,by simp,Nat.le_refl _⟩
 refine ⟨h.change (fun _ => False) tr (fun _ _ => rfl) (fun _ _ => rfl) (fun i o c d hi ho hlv hr' => World.putObj_heap_other (fun e => hl (e ▸ ⟨i,o,d,ho,hlv,hr'⟩))) (fun i o c d hi ho hl hr' q hq => hq) (fun _ h => h.elim) (fun _ _ _ _ _ _ _ h => h.elim) (fun b q hs => ?_),
  ⟨u.tr.trans tr,u.live,u.S,fun b hb hn=>(World.putObj_heap_other (by omega)).trans (u.keep b hb hn)⟩,tr⟩
 obtain ⟨v,hv⟩:=h.ex b q hs;exact ⟨v,(tr.cell b q hs).trans hv⟩
def DStep (w:World) (a:Act) (hp':Hp) (g':G) (w':World) (a':Act):Prop :=
 ∃ ms:List Nat,a'.defers=ms.map mark++a.defers/\ms.Nodup/\∀ D∈ms,w.heap.size<=D/\w'.heap[D]?=some (.deferred (some []))/\¬ qaI hp' g' D
theorem DStep.nil {w a hp' g' w' a'} (h:a'.defers=a.defers):DStep w a hp' g' w' a':=⟨[],by simpa using h,List.nodup_nil,fun D h=>by simp at h⟩
theorem DStep.keep {w a hp1 g1 w1 a1 hp2 g2 w2} (h:DStep w a hp1 g1 w1 a1) (u:Upd hp1 g1 w1 hp2 g2 w2):DStep w a hp2 g2 w2 a1:=by
 obtain ⟨ms,h1,h2,h3⟩:=h;refine ⟨ms,h1,h2,fun D hD=>?_⟩;obtain ⟨k1,k2,k3⟩:=h3 D hD;have hlt:D<w1.heap.size:=(Array.getElem?_eq_some_iff.1 k2).1;refine ⟨k1,(u.keep D hlt k3).trans k2,fun hl=>?_⟩;rcases u.live D hl with h | h
 . exact k3 h
 omega
theorem DStep.trans {w a hp1 g1 w1 a1 hp2 g2 w2 a2} (h:DStep w a hp1 g1 w1 a1) (hs:w.heap.size<=w1.heap.size) (u:Upd hp1 g1 w1 hp2 g2 w2) (k:DStep w1 a1 hp2 g2 w2 a2):DStep w a hp2 g2 w2 a2:=by
 have h':=h.keep u;obtain ⟨ms0,q1,q2,q3⟩:=h;obtain ⟨ms,h1,h2,h3⟩:=h';obtain ⟨ms2,k1,k2,k3⟩:=k
 have hms:ms0=ms:=by
  have:ms0.map mark=ms.map mark:=List.append_cancel_right (q1.symm.trans h1);have inj:Function.Injective mark:=fun x y e=>by simpa [mark] using e
  exact (List.map_inj_right (fun x y e=>inj e)).1 this
 subst hms;refine ⟨ms2++ms0,by rw [k1,h1];simp,?_,fun D hD=>?_⟩
 . rw [List.nodup_append];refine ⟨k2,h2,fun x hx y hy e=>?_⟩;subst e;have:=(k3 x hx).1;have:=(Array.getElem?_eq_some_iff.1 (q3 x hy).2.1).1;omega
 rcases List.mem_append.1 hD with hD | hD
 . obtain ⟨c1,c2,c3⟩:=k3 D hD;exact ⟨by omega,c2,c3⟩
 exact h3 D hD
section
variable {P:Program} {E:HE} {N:Nat} {ro:Option Nat} {n:Nat}
def RS (P:Program) (E:HE):Prop :=
 ∀ (v : AV) (hp : List HObj) (H : List AV -> List HObj -> (AV -> List HObj -> Prop) -> Prop) (K0 : List HObj -> Prop),E.R v hp H K0 -> ∃ f caps,v = .fn (.func f) [] caps /\ ja P f = true /\
   ∀ (w1:World) (g1:G),(∀ xs hp' K',H xs hp' K'->qjX P w1 g1 hp.length xs hp' K')->VK P w1 g1 f (.yl hp.length::caps) (hp++[.lp .ready (hp.length+1),.gone]) fun _ hp'=>K0 hp'
def XL (N:Nat) (st:St) (a:Act) (w:World) (g:G) (Q:Exit->St->Prop) (R:Exit->Act->World->Prop):Prop :=
 ∀ e st' a' w' g',Q e st'->Sim N st' a' w' g'->Upd (hpf st.hp) g w (hpf st'.hp) g' w'->DStep w a (hpf st'.hp) g' w' a'->R e a' w'
theorem jL (ps:List Nat) (vs:List Value):∀ (t:Array Value),((ps.zip vs).foldl (fun tmps (t,a)=>tmps.setIfInBounds t a) t).size=t.size:=by
 induction ps generalizing vs with
 | nil=>intro t;rfl
 | cons p ps ih =>
   intro t;cases vs with
   | nil=>rfl
   | cons v vs=>simp [ih]
theorem FrOK.putPs {w g} : ∀ {ps : List Nat} {xs : List AV} {vs : List Value} {fr : List (Nat × AV)} {t : Array Value} {df : List Deferred},(∀ p ∈ ps,p < t.size) -> xs.length = ps.length -> vs.length = ps.length -> FrOK w g (get fr) { tmps := t,defers := df } ->
 (∀ i (h:i<xs.length),Rep w g false xs[i] (vs.getD i undef))->FrOK w g (get (AM.putPs ps xs fr)) { tmps:=(ps.zip vs).foldl (fun tmps (t,a)=>tmps.setIfInBounds t a) t,defers:=df }
 | [],xs,vs,fr,t,df,hp,h1,h2,hF,hr=>by have:xs=[]:=List.eq_nil_of_length_eq_zero (by simpa using h1);subst this;exact hF
 | p::ps,[],vs,fr,t,df,hp,h1,h2,hF,hr=>by simp at h1
 | p::ps,x::xs,[],fr,t,df,hp,h1,h2,hF,hr=>by simp at h2
 | p::ps,x::xs,v::vs,fr,t,df,hp,h1,h2,hF,hr=>by simp only [AM.putPs,List.zip_cons_cons,List.foldl_cons];refine FrOK.putPs (fun q hq=>by simpa using hp q (by simp [hq])) (by simpa using h1) (by simpa using h2) ?_ (fun i hi=>by have:=hr (i+1) (by simpa using hi);simpa using this);have h0:=hr 0 (by simp);have:=FrOK.put (d:=some p) (r:=x) (v:=v) hF (fun k e=>by cases e;exact hp _ (by simp)) (by simpa using h0);exact this
theorem qbp {hp g w} (hok:HeapOK hp g w) {id mk:Nat} {s:LpSt} (ho:hp id=some (.lp s mk)) {L:Loop} (hL:g.ρ mk=some (.base L)):∃ c,g.ρ id=some (.blk c 0)/\w.heap[c]?=some (.loop { L with state:=s.state,pending:=s.pend })/\∀ o,¬ g.S c o:=by
 obtain ⟨l,h1,h2⟩:=hok.rep id _ ho;cases l with
 | virg=>exact h2.elim
 | base L=>exact h2.elim
 | blk c d =>obtain ⟨L',k0,k1,rfl,k3⟩:=h2;rw [hL] at k0;cases k0;exact ⟨c,h1,k1,k3⟩
theorem Vj {hp : List HObj} {g w} (hok : HeapOK (hpf hp) g w) {id mk : Nat} {s s' : LpSt} (ho : hpf hp id = some (.lp s mk)) {L : Loop} (hL : g.ρ mk = some (.base L)) {c : Nat} (hc : g.ρ id = some (.blk c 0)) :
 HeapOK (hpf (qn hp id (.lp s' mk))) g (w.putObj c (.loop { L with state:=s'.state,pending:=s'.pend }))/\Upd (hpf hp) g w (hpf (qn hp id (.lp s' mk))) g (w.putObj c (.loop { L with state:=s'.state,pending:=s'.pend })):=by
 obtain ⟨c',k1,k2,k3⟩:=qbp hok ho hL;rw [hc] at k1;cases k1;rw [Qt (Nat.le_of_lt (qq ho))];exact hok.putO ho rfl rfl hc k2 rfl rfl (fun tr hh=>⟨L,tr.ρ _ _ hL,hh,rfl,k3⟩)
end
section
variable {P:Program} {E:HE} {N:Nat} {ro:Option Nat} {n:Nat}
theorem W5 (l:List HObj) (x y:HObj):hpf (l++[x,y])=Hp.set (Hp.set (hpf l) (l.length+1) y) l.length x:=by
 funext i;simp only [hpf,Hp.set];by_cases e:i=l.length
 . subst e;simp
 rw [if_neg e];by_cases e2:i=l.length+1
 . subst e2;simp
 rw [if_neg e2];rcases Nat.lt_or_ge i l.length with h | h
 . rw [List.getElem?_append_left h]
 rw [List.getElem?_eq_none (by simp;omega),List.getElem?_eq_none (by omega)]
theorem qwl {w1 : World} {g1 : G} {g' : Operand} {ps : Array Tmp} {assign body : Code} {x y : AC} {a : Act} {fr : List (Nat × AV)} {id : Nat} {L : Loop} {c0 : Nat}
 (hsx:∀ {st:St} {Q:Exit->St->Prop} {a:Act} {w:World} {g:G} {R:Exit->Act->World->Prop} {ro:Option Nat} {n:Nat},AWP P E x st Q->Trans w1 g1 w g->Sim N st a w g->XL N st a w g Q R->assign.wpIn (W ro) n P R a w)
 (hsy:∀ {st:St} {Q:Exit->St->Prop} {a:Act} {w:World} {g:G} {R:Exit->Act->World->Prop} {ro:Option Nat} {n:Nat},AWP P E y st Q->Trans w1 g1 w g->Sim N st a w g->XL N st a w g Q R->body.wpIn (W ro) n P R a w)
 (hL:g1.ρ (id+1)=some (.base L)) (hc0:g1.ρ id=some (.blk c0 0)) (hLa:L.assign=assign) (hLb:L.body=body) (hLp:L.params=ps) (hLt:L.tmps=a.tmps) (hps:∀ p∈ps.toList,p<N) (hN:a.tmps.size=N)
 (hF:FrOK w1 g1 (get fr) a) {xs:List AV} {hp:List HObj} {K:AV->List HObj->Prop}
 (hid:hpf hp id=some (.lp .ready (id+1))) (hlen:xs.length=ps.toList.length)
 (h:AWP P E x { fr:=putPs ps.toList xs fr,hp:=hp } (Exit.th (fun st1=>hpf st1.hp id=some (.lp .ready (id+1))/\AWP P E y { fr:=st1.fr,hp:=qn st1.hp id (.lp .busy (id+1)) } (ZT id K)) (fun _ _=>False))) :
 qjX P w1 g1 id xs hp K:=by
 intro ro n w g c vs hok htr hc hvs hrep;have hLg:=htr.ρ _ _ hL;have hcg:=htr.ρ _ _ hc0;rw [hc] at hcg;simp only [Option.some.injEq,Loc.blk.injEq,and_true] at hcg;subst hcg;obtain ⟨c',k1,k2,k3⟩:=qbp hok hid hLg;rw [hc] at k1;simp only [Option.some.injEq,Loc.blk.injEq,and_true] at k1;subst k1;have k2':w.heap[c]?=some (.loop { L with state := .ready,pending:=none }):=k2;have hy0:=run_yield (P:=P) (args:=vs) k2' (by rw [hvs,hlen,hLp];simp);refine ⟨L.fn,_,L.assign,L.body,hy0,roundIn_of_wpIn (by trivial) ?_⟩;rw [hLa,hLb];show assign.wpIn (W (some c)) n P _ _ w;have ht:(ps.zip vs).foldl (fun tmps (t,a)=>tmps.setIfInBounds t a) a.tmps=(ps.toList.zip vs.toList).foldl (fun tmps (t,a)=>tmps.setIfInBounds t a) a.tmps:=by rw [<-Array.foldl_toList,Array.toList_zip]
 have hsim : Sim N { fr := putPs ps.toList xs fr,hp := hp } { tmps := (L.params.zip vs).foldl (fun tmps (t,a) => tmps.setIfInBounds t a) L.tmps,defers := [] } w g := by
  refine ⟨?_,?_,hok⟩
  . rw [hLp,hLt,ht,jL];exact hN
  rw [hLp,hLt,ht];refine FrOK.putPs (df:=[]) (fun p hp=>by rw [hN];exact hps p hp) hlen (by simp [hvs,hlen]) (fun i=>(hF i).mono htr) (fun i hi=>?_);have:=hrep i hi;simpa [show i<vs.size by omega] using this
 refine hsx h htr hsim ?_;intro e st1 a1 w2 g2 hq hs1 hu1 hd1;cases e with
 | normal =>
   obtain ⟨hid1,hb⟩:=hq;have hL2:=hu1.tr.ρ _ _ hLg;have hc2:=hu1.tr.ρ _ _ hc;obtain ⟨c',j1,j2,j3⟩:=qbp hs1.2.2 hid1 hL2;rw [hc2] at j1;simp only [Option.some.injEq,Loc.blk.injEq,and_true] at j1;subst j1;have hbr:=run_beginRound (P:=P) (r:={ L with state := .ready,pending:=none }) j2 rfl;obtain ⟨s1,s2⟩:=Vj (s' := .busy) hs1.2.2 hid1 hL2 hc2;refine ⟨_,hbr,?_⟩;show body.wpIn (W (some c)) n P _ a1 _;have hsim2:Sim N { fr:=st1.fr,hp:=qn st1.hp id (.lp .busy (id+1)) } a1 (w2.putObj c (.loop { L with state := .busy,pending:=none })) g2:=⟨hs1.1,fun i=>(hs1.2.1 i).mono s2.tr,s1⟩;refine hsy hb ((htr.trans hu1.tr).trans s2.tr) hsim2 ?_;intro e3 st3 a3 w3 g3 hq3 hs3 hu3 hd3;have hL3:=hu3.tr.ρ _ _ hL2;have hc3:=hu3.tr.ρ _ _ hc2
   have fin : ∀ (jump : Option Code) (s' : LpSt) (b : Bool),hpf st3.hp id = some (.lp .busy (id + 1)) -> K (B b) (qn st3.hp id (.lp s' (id + 1))) -> b = jump.isNone -> s'.state = (if jump.isNone then .ready else .done) -> s'.pend = jump ->
    ∃ v w',(Instr.endRound c jump).run P w3 = .ok v w'/\∃ v' r hp' g',Ending.returned v = .returned v'/\K r hp'/\Rep w' g' false r v'/\HeapOK (hpf hp') g' w'/\Upd (hpf hp) g w (hpf hp') g' w':=fun jump s' b hb3 hK hbj hs' hp'=>by
    obtain ⟨c',i1,i2,i3⟩:=qbp hs3.2.2 hb3 hL3;rw [hc3] at i1;simp only [Option.some.injEq,Loc.blk.injEq,and_true] at i1;subst i1;have her:=run_endRound (P:=P) (r:={ L with state := .busy,pending:=none }) jump i2;obtain ⟨u1,u2⟩:=Vj (s':=s') hs3.2.2 hb3 hL3 hc3;refine ⟨_,_,her,_,B b,_,g3,rfl,hK,by rw [hbj];exact .v _ _,?_,?_⟩
    . rw [<-hs',<-hp'];exact u1
    rw [<-hs',<-hp'];exact ((hu1.trans s2).trans hu3).trans u2
   cases e3 with
   | normal=>exact fin none .ready true hq3.1 hq3.2 rfl rfl rfl
   | ret=>exact fin (some .ret) (.done none) false hq3.1 hq3.2 rfl rfl rfl
   | exit i=>exact fin (some (.exit i)) (.done (some i)) false hq3.1 hq3.2 rfl rfl rfl
   | _=>exact hq3.elim
 | _=>exact hq.elim
theorem q6 {w1 : World} {g1 : G} (hY : YS P E w1 g1) (hR : RS P E) : ∀ {ac : AC} {c : Code} {st : St} {Q : Exit -> St -> Prop} {a : Act} {w : World} {g : G} {R : Exit -> Act -> World -> Prop} {ro : Option Nat} {n : Nat},
 VL P N c ac->(ro=none\/ac.noRf=true)->AWP P E ac st Q->Trans w1 g1 w g->Sim N st a w g->XL N st a w g Q R->c.wpIn (W ro) n P R a w
 | .skip,c,st,Q,a,w,g,R,ro,n,hf,hr,h,ht,hs,hl=>by
   cases c <;> first | exact hf.elim | skip
   exact wpIn_skip (hl _ st a w g h hs (.refl _ _ _) (.nil rfl))
 | .rgn gs ks,c,st,Q,a,w,g,R,ro,n,hf,hr,h,ht,hs,hl=>by
   cases c <;> first | exact hf.elim | skip
   rename_i id ops d;obtain ⟨rfl,cl,hc,rfl⟩:=hf;refine wpIn_region ?_;rw [List.range_eq_range'];have:=Y0 (ro:=ro) (n:=n) (ops:=ops) (Q:=R) hY 0 (l:=ops.toList) (by simp) hc (Zw h) ht hs (fun st' a' w' g' hK hs' hu hd=>hl _ _ a' w' g' hK (hs'.keep ks) hu (.nil hd));simpa using this
 | .drw gs un ks,c,st,Q,a,w,g,R,ro,n,hf,hr,h,ht,hs,hl=>by
   cases c <;> first | exact hf.elim | skip
   rename_i id ops d;obtain ⟨rfl,hm,cl,pre,hc,hd,rfl⟩:=hf;exact qdd hm hc hd h hs (fun st' a' w' g' hK hs' hu hd=>hl _ _ a' w' g' hK (hs'.keep ks) hu (.nil hd))
 | .seq x y,c,st,Q,a,w,g,R,ro,n,hf,hr,h,ht,hs,hl=>by
   cases c <;> first | exact hf.elim | skip
   rename_i c1 c2;have hr1:ro=none\/x.noRf=true:=hr.imp (fun h=>h) (fun h=>by simp [AC.noRf] at h;exact h.1);have hr2:ro=none\/y.noRf=true:=hr.imp (fun h=>h) (fun h=>by simp [AC.noRf] at h;exact h.2);refine wpIn_seq (q6 hY hR hf.1 hr1 h ht hs fun e st' a' w' g' hq hs' hu hd=>?_);cases e with
   | normal=>exact q6 hY hR hf.2 hr2 hq (ht.trans hu.tr) hs' (fun e st2 a2 w2 g2 q2 s2 u2 d2=>hl e st2 a2 w2 g2 q2 s2 (hu.trans u2) (hd.trans hu.tr.size u2 d2))
   | _=>exact hl _ _ _ _ _ hq hs' hu hd
 | .cond d x y,c,st,Q,a,w,g,R,ro,n,hf,hr,h,ht,hs,hl=>by
   cases c <;> first | exact hf.elim | skip
   rename_i d' c1 c2;have hr1:ro=none\/x.noRf=true:=hr.imp (fun h=>h) (fun h=>by simp [AC.noRf] at h;exact h.1);have hr2:ro=none\/y.noRf=true:=hr.imp (fun h=>h) (fun h=>by simp [AC.noRf] at h;exact h.2);obtain ⟨hd,h1,h2⟩:=hf;simp only [AWP] at h;split at h
   . rename_i t ht';have:=qi hs.2.1 hd;rw [ht'] at this;have hv:a.eval d' = .bool t:=zu this;exact wpIn_cond_split hv (fun e=>q6 hY hR h1 hr1 (h.1 e) ht hs hl) (fun e=>q6 hY hR h2 hr2 (h.2 e) ht hs hl)
   exact h.elim
 | .block id x,c,st,Q,a,w,g,R,ro,n,hf,hr,h,ht,hs,hl=>by
   cases c <;> first | exact hf.elim | skip
   obtain ⟨rfl,hf⟩:=hf;refine wpIn_block (q6 hY hR hf hr h ht hs fun e st' a' w' g' hq hs' hu hd=>?_);cases e with
   | exit id' =>
     simp only [Exit.blk] at hq;simp only [Exit.inBlock];split
     . rename_i e;rw [if_pos e] at hq;exact hl _ _ _ _ _ hq hs' hu hd
     rename_i e;rw [if_neg e] at hq;exact hl _ _ _ _ _ hq hs' hu hd
   | _=>exact hl _ _ _ _ _ hq hs' hu hd
 | .loop x,c,st,Q,a,w,g,R,ro,n,hf,hr,h,ht,hs,hl=>by
   cases c <;> first | exact hf.elim | skip
   rename_i c;obtain ⟨α,I,C,μ,a0,h0,hle,hround⟩:=h;have hf:VL P N c x:=hf;obtain ⟨g2,hs1,hu1⟩:=hle N a w g hs;let Inv:Nat->Act->World->Prop:=fun m a' w'=>∃ b g',C b/\μ b=m/\Sim N (I b) a' w' g'/\Upd (hpf st.hp) g w (hpf (I b).hp) g' w'/\DStep w a (hpf (I b).hp) g' w' a'
   have loop : ∀ (m : Nat) (a' : Act) (w' : World),Inv m a' w' -> (Code.loop c).wpIn (W ro) n P R a' w' := fun m => by
    intro a' w' hI;refine wpIn_loop_ghost Inv m hI ?_;intro m a' w' ⟨b,g',hb,hm,hs',hu',hd'⟩;refine q6 hY hR hf hr (hround b hb) (ht.trans hu'.tr) hs' fun e st2 a2 w2 g2 q2 s2 u2 d2=>?_;cases e with
    | normal =>obtain ⟨b',hb',hlt,hle'⟩:=q2;obtain ⟨g3,hs3,hu3⟩:=hle' N a2 w2 g2 s2;exact ⟨μ b',by omega,b',g3,hb',rfl,hs3,(hu'.trans u2).trans hu3,(hd'.trans hu'.tr.size u2 d2).keep hu3⟩
    | _=>exact hl _ _ _ _ _ q2 s2 (hu'.trans u2) (hd'.trans hu'.tr.size u2 d2)
   exact loop (μ a0) a w ⟨a0,g2,h0,rfl,hs1,hu1,.nil rfl⟩
 | .exit id,c,st,Q,a,w,g,R,ro,n,hf,hr,h,ht,hs,hl=>by
   cases c <;> first | exact hf.elim | skip
   cases hf;exact wpIn_exit (hl _ st a w g h hs (.refl _ _ _) (.nil rfl))
 | .ret,c,st,Q,a,w,g,R,ro,n,hf,hr,h,ht,hs,hl=>by
   cases c <;> first | exact hf.elim | skip
   exact wpIn_ret (hl _ st a w g h hs (.refl _ _ _) (.nil rfl))
 | .label i,c,st,Q,a,w,g,R,ro,n,hf,hr,h,ht,hs,hl=>by
   cases c <;> first | exact hf.elim | skip
   exact wpIn_label (hl _ st a w g h hs (.refl _ _ _) (.nil rfl))
 | .scope x,c,st,Q,a,w,g,R,ro,n,hf,hr,h,ht,hs,hl=>by
   cases c <;> first | exact hf.elim | skip
   refine Q4 (q6 hY hR (ac:=x) hf hr h ht hs fun e st' a' w' g' hq hs' hu hd=>?_);cases e with
   | goto l=>exact hq.elim
   | _=>exact hl _ _ _ _ _ hq hs' hu hd
 | .rf gg qs x y ks, c, st, Q, a, w, g, R, ro, n, hf, hr, h, ht, hs, hl=>by
   cases c <;> first | exact hf.elim | skip
   rename_i g' ps assign body;obtain ⟨hg,rfl,hps,hx,hy⟩:=hf;have hro:ro=none:=hr.resolve_right (by simp [AC.noRf]);subst hro;obtain ⟨hnn,K0,hK0,hend⟩:=h;rw [Bool.and_eq_true] at hnn;obtain ⟨nx,ny⟩:=hnn;obtain ⟨f,caps,hv,hfun,hcall⟩:=hR _ _ _ _ hK0;obtain ⟨id,hidd⟩:∃ id,id=st.hp.length:=⟨_,rfl⟩;rw [<-hidd] at hcall hend;have eg:=qi hs.2.1 hg;rw [hv] at eg;generalize hgv:a.eval g'=gv at eg;cases eg with
   | fn _ _ _ _ as bs la lb ra rb =>
     have las:as=[]:=List.eq_nil_of_length_eq_zero (by simpa using la);subst las;refine wpIn_rangeFunc ?_;intro fn hfn;obtain ⟨rec,hrec⟩:∃ rec:Loop,rec={ state := .ready,pending:=none,fn,tmps:=a.tmps,params:=ps,assign,body,defers:=w.heap.size }:=⟨_,rfl⟩;obtain ⟨hok0,hu0⟩:=hs.2.2.allocX (.deferred (some []));have hn1:hpf st.hp (id+1)=none:=by simp [hpf,hidd]
     obtain ⟨hokA,huA⟩:=hok0.mark hn1 rec;have hn2:Hp.set (hpf st.hp) (id+1) .gone id=none:=by rw [Hp.set_other _ _ (by omega)];simp [hpf,hidd]
     have hsz:(w.alloc (.deferred (some []))).heap.size=w.heap.size+1:=by simp
     obtain ⟨hokB,huB⟩:=hokA.allocO hn2 (.loop rec) (.lp .ready (id+1)) (fun tr=>⟨rec,tr.ρ _ _ (by simp [G.home]),by rw [qO,hrec];rfl,rfl,fun q h=>J2 hok0 q h⟩);have hp2:hpf (st.hp++[.lp .ready (id+1),.gone])=Hp.set (Hp.set (hpf st.hp) (id+1) .gone) id (.lp .ready (id+1)):=by rw [hidd];exact W5 _ _ _
     rw [<-hp2] at hokB huB;obtain ⟨W1,hW1⟩:∃ W1,W1=(w.alloc (.deferred (some []))).alloc (.loop rec):=⟨_,rfl⟩;rw [<-hW1] at hokB huB;obtain ⟨gB,hgB⟩:∃ gB,gB=(g.home (id+1) (.base rec)).home id (.blk (w.alloc (.deferred (some []))).heap.size 0):=⟨_,rfl⟩;rw [<-hgB] at hokB huB;have hLB:gB.ρ (id+1)=some (.base rec):=by rw [hgB];simp [G.home]
     have hcB:gB.ρ id=some (.blk (w.heap.size+1) 0):=by rw [hgB];simp [G.home]
     have huw:=(hu0.trans huA).trans huB;have htw:=ht.trans huw.tr
     have hrounds : ∀ xs hp' K',(hpf hp' id = some (.lp .ready (id + 1)) /\ xs.length = ps.toList.length /\
      AWP P E x { fr:=putPs ps.toList xs st.fr,hp:=hp' } (Exit.th (fun st1=>hpf st1.hp id=some (.lp .ready (id+1))/\AWP P E y { fr:=st1.fr,hp:=qn st1.hp id (.lp .busy (id+1)) } (ZT id K')) (fun _ _=>False)))->qjX P W1 gB id xs hp' K':=fun xs hp' K' ⟨q1,q2,q3⟩=>by
      have hY':YS P E W1 gB:=fun i xs hp K hh ro n w g c vs k1 k2 k3 k4 k5=>hY i xs hp K hh ro n w g c vs k1 (htw.trans k2) k3 k4 k5;exact qwl (g':=g') (a:=a) (fun {st Q a w g R ro n} f3 f4 f5 f6=>q6 hY hR hx (.inr nx) f3 (htw.trans f4) f5 f6) (fun {st Q a w g R ro n} f3 f4 f5 f6=>q6 hY hR hy (.inr ny) f3 (htw.trans f4) f5 f6) hLB hcB (by rw [hrec]) (by rw [hrec]) (by rw [hrec]) (by rw [hrec]) hps hs.1 (fun i=>(hs.2.1 i).mono huw.tr) q1 q2 q3
     have hc:=hcall W1 gB hrounds;refine ⟨w.heap.size+1,[mark w.heap.size],W1,{ target := .fn (.func f) bs.toArray,args:=#[.func (.yield (w.heap.size+1)) #[] #[]] },W1,f,#[.func (.yield (w.heap.size+1)) #[] #[]]++bs.toArray,W1,?_,?_,fun _ _=>trivial,?_,fun h=>by simp [Fence.wide] at h,?_⟩
     . rw [hW1,hrec];exact run_enterLoop_outer _ _ _ _ _
     . simp only [resolve,hgv];simp [go_sem]
     . simp [invoke,zo hfun]
     have hargs : ∀ i (h : i < (AV.yl id :: caps).length), Rep W1 gB false (AV.yl id :: caps)[i] ((#[Value.func (.yield (w.heap.size + 1)) #[] #[]] ++ bs.toArray).getD i undef) := fun i hi => by
      cases i with
      | zero=>simpa using Rep.yl (w:=W1) (g:=gB) id (w.heap.size+1) hcB
      | succ i =>have h2:=(rb i (by simpa using hi)).mono huw.tr;simp only [List.getElem_cons_succ];simp only [Array.getD_eq_getD_getElem?,List.getD_eq_getElem?_getD] at h2 ⊢;rw [Array.getElem?_append_right (by simp)];simpa using h2
     have hcc:=hc none (n - 1) W1 gB (#[Value.func (.yield (w.heap.size+1)) #[] #[]]++bs.toArray) hokB (.refl _ _) (by simp [lb]) hargs;refine hcc.mono ?_;rintro e w2 ⟨v,r,hp',g2,rfl,hK,hrr,hok2,hu2⟩;have he:=hend hp' hK;have hL2:=hu2.tr.ρ _ _ hLB;have hc2:=hu2.tr.ρ _ _ hcB;have hDB:W1.heap[w.heap.size]?=some (.deferred (some [])):=by rw [hW1];exact (Below.heap_alloc _ _ _ (by simp)).trans (qO _ _)
     have hliveB:¬ qaI (hpf (st.hp++[.lp .ready (id+1), .gone])) gB w.heap.size:=by
      rintro ⟨i,o,d,ho,hl,hr⟩;rw [hp2] at ho;by_cases e:i=id
      . subst e;rw [hcB] at hr;simp at hr
      rw [Hp.set_other _ _ e] at ho;by_cases e2:i=id+1
      . subst e2;rw [Hp.set_same] at ho;cases ho;cases hl
      rw [Hp.set_other _ _ e2] at ho;rw [hgB] at hr;simp [G.home,e,e2] at hr;exact absurd (hs.2.2.lt ho hl hr) (Nat.lt_irrefl _)
     have hds:DStep w a (hpf (st.hp++[.lp .ready (id+1),.gone])) gB W1 { a with defers:=[mark w.heap.size]++a.defers } :=
      ⟨[w.heap.size],rfl,by simp,fun D hD=>by simp at hD;subst hD;exact ⟨Nat.le_refl _,hDB,hliveB⟩⟩
     have fin : ∀ (s : LpSt) (mk : Nat) (Qe : Exit) (jump : Option Code),hpf hp' id = some (.lp s mk) -> s.state ≠ .busy -> s.pend = jump -> (∀ g4 w4,Sim N { fr := st.fr,hp := qn hp' id .gone } { a with defers := [mark w.heap.size] ++ a.defers } w4 g4 -> Upd (hpf st.hp) g w (hpf (qn hp' id .gone)) g4 w4 -> DStep w a (hpf (qn hp' id .gone)) g4 w4 { a with defers := [mark w.heap.size] ++ a.defers } ->
      (match jump with
       | none=>R .normal { a with defers:=[mark w.heap.size]++a.defers } w4
       | some c=>c.wpIn (W none) n P R { a with defers:=[mark w.heap.size]++a.defers } w4)) ->
      ∃ jump w₄,(Instr.endLoop (w.heap.size+1)).run P w2 = .ok jump w₄ /\
      (match jump with
       | none=>R .normal { a with defers:=[mark w.heap.size]++a.defers } w₄
       | some c=>c.wpIn (W none) n P R { a with defers:=[mark w.heap.size]++a.defers } w₄):=fun s mk Qe jump hlp hst hpe hgo=>by
      subst hpe;have hmk:∃ L',g2.ρ mk=some (.base L')/\w2.heap[w.heap.size+1]?=some (.loop { L' with state:=s.state,pending:=s.pend }):=by obtain ⟨l,h1,h2⟩:=hok2.rep id _ hlp;rw [hc2] at h1;cases h1;obtain ⟨L',m0,m1,m2,m3⟩:=h2;exact ⟨L',m0,m1⟩
      obtain ⟨L',hL',hlp2⟩:=hmk;have hel:=run_endLoop (P:=P) (r:={ L' with state:=s.state,pending:=s.pend }) hlp2 hst
      have hover:∃ s':LpSt,s'.state = .exhausted/\s'.pend=s.pend:=by
       cases s with
       | ready=>exact ⟨.over none,rfl,rfl⟩
       | busy=>exact absurd rfl hst
       | done j =>
         cases j with
         | none=>exact ⟨.over (some none),rfl,rfl⟩
         | some i=>exact ⟨.over (some (some i)),rfl,rfl⟩
       | over j=>exact ⟨.over j,rfl,rfl⟩
      obtain ⟨s',e1,e2⟩:=hover;obtain ⟨u1,u2⟩:=Vj (s':=s') hok2 hlp hL' hc2;rw [e1,e2] at u1 u2;have hidlt:id<hp'.length:=qq hlp;have hlp':hpf (qn hp' id (.lp s' mk)) id=some (.lp s' mk):=by rw [Qt (Nat.le_of_lt hidlt)];exact Hp.set_same _ _ _
      obtain ⟨v1,v2⟩:=u1.drop hlp';have hset:Hp.set (hpf (qn hp' id (.lp s' mk))) id .gone=hpf (qn hp' id .gone):=by rw [Qt (Nat.le_of_lt hidlt),Qt (Nat.le_of_lt hidlt),Hp.set_set]
      rw [hset] at v1 v2;have hu4:=((huw.trans hu2).trans u2).trans v2;refine ⟨_,_,hel,?_⟩;exact hgo g2 _ ⟨hs.1,fun i=>(hs.2.1 i).mono hu4.tr,v1⟩ hu4 (((hds.keep hu2).keep u2).keep v2)
     simp only [Jf] at he;show ∃ jump w₄,_/\_;split at he
     . rename_i hlp;exact fin .ready _ .normal none hlp (by simp [LpSt.state]) rfl (fun g4 w4 s4 u4 d4=>hl _ _ _ _ g4 he (s4.keep ks) u4 d4)
     . rename_i hlp;exact fin (.done none) _ .ret (some .ret) hlp (by simp [LpSt.state]) rfl (fun g4 w4 s4 u4 d4=>wpIn_ret (hl _ _ _ _ g4 he s4 u4 d4))
     . rename_i i _ hlp;exact fin (.done (some i)) _ (.exit i) (some (.exit i)) hlp (by simp [LpSt.state]) rfl (fun g4 w4 s4 u4 d4=>wpIn_exit (hl _ _ _ _ g4 he s4 u4 d4))
     exact he.elim
 | .dead,c,st,Q,a,w,g,R,ro,n,hf,hr,h,ht,hs,hl=>h.elim
end
end Go.AM
