/-
  Pt1: texts joined: Am0 Am1 Am2 Am3 Am4 Am5 Am6 Am7 Am8 Am9 Am10 Am10a. Own work.
-/
import Derived.WalkKit
import Derived.Lib.TrailingZeros
import Derived.RangeFuncIn
import Derived.OrdersIn
import Derived.Laws.Externs
set_option linter.all false
set_option linter.unusedSimpArgs false
set_option linter.unusedVariables false
set_option linter.unusedSectionVars false

namespace Go.AM
def qd:=@Bool.and_eq_true
def Qs:=@Nat.le_refl
def Wd:=@List.getElem?_eq_getElem
def RL:=@Option.map_eq_some_iff
def LL:=@List.all_eq_true
def CC:=@Go.run_underlying
def xl:=@Option.some.injEq
def xm:=@List.mem_append
def gm:=@List.mem_map
def wI:=@List.map_cons
def sg:=@List.mem_cons
def qmk:=@List.eq_nil_of_length_eq_zero
def qml:=@List.getElem?_eq_some_iff
def qmm:=@Prod.mk.injEq
def qmn:=@List.take_of_length_le
def qmo:=@List.append_assoc
def qmp:=@List.getD_eq_getElem?_getD
def qmq:=@List.length_map
def qmr:=@List.getElem_mem
def qms:=@Array.getElem?_eq_some_iff
def qmt:=@Nat.mul_le_mul_right
def qmv:=@List.getElem_map
def qmw:=@List.getElem?_append_left
def qmx:=@List.getElem_append_right
def qmy:=@List.getElem?_append_right
def qmz:=@List.getElem_append_left
def qmB:=@Array.getD_eq_getD_getElem?
def qmC:=@List.all_cons
def qmF:=@List.nil_append
def qmG:=@Ne.symm
def qmI:=@List.length_append
def qmJ:=@Nat.add_assoc
def qmK:=@Array.getElem?_setIfInBounds_ne
def qmM:=@Bool.false_eq_true
def qmN:=@Array.getElem?_append_left
def qmR:=@Go.Result.andThen_ok
def qmS:=@List.length_take
def qmT:=@Nat.le_trans
def qmU:=@List.map_map
def qmV:=@Nat.lt_or_ge
def qm0:=@Nat.add_mul
def qm3:=@List.append_nil
def qm4:=@List.ext_getElem
def qm6:=@Option.map_some
def qm8:=@Go.run_loadCells
def qna:=@List.getElem_cons_succ
def qnb:=@Array.getElem?_append_right
def qnc:=@if_false
def qne:=@Go.RowKit.Below.heap_alloc
def qng:=@Go.Sem.run_bind
def qnj:=@Nat.mul_one
def qnu:=@Nat.min_eq_left
def qny:=@Nat.lt_irrefl
def qnD:=@List.take_append_drop
def qnF:=@List.drop_append_of_le_length
def qnL:=@List.getElem_cons_zero
def qnQ:=@List.getElem?_take_of_lt
def qnS:=@Nat.add_zero
def qnV:=@List.length_drop
def qnW:=@Array.ext_getElem?
def qnY:=@Nat.lt_of_lt_of_le
def qnZ:=@List.foldl_cons
def qn2:=@Go.Oper.semAt_eq
def qn6:=@List.mem_iff_getElem
def qoh:=@Option.bind_eq_some_iff
def qoi:=@Go.World.block_lt_of_cell?
def qol:=@List.getElem?_drop
def qom:=@List.getElem_range
def qon:=@beq_iff_eq
def qor:=@List.getElem_drop
def qos:=@List.getElem_take
def qou:=@List.drop_take
def qow:=@Go.Sem.run_pure
def qoC:=@Nat.mod_eq_of_lt
def qo2:=@Array.getElem?_modify
def qo3:=@Array.getElem?_toList
def qo5:=@List.getElem?_toArray
def qpc:=@Nat.mul_comm
def qpl:=@Array.foldl_toList
def qps:=@Function.comp_def
def qpt:=@Int.emod_eq_of_lt
def qpw:=@Nat.mod_lt
def qpy:=@Array.toList_map
def qpK:=@List.mapM_cons
def qpQ:=@List.map_take
def qpR:=@Nat.mul_assoc
end Go.AM
namespace Go.AM
def qkL:List (Nat×Nat×(Nat->Value->Prop)):=[(1,64,fun i v=>v = .int .u8 (Lib.deBruijn64tab.getD i 0))]
inductive AV where
 | v (x:Value)
 | sl (full:Bool) (n:Nat) (cs:List AV)
 | agg (cs:List AV)
 | tup (vs:List AV)
 | ptr (cs:List AV) (off:Nat)
 | ref (id off:Nat)
 | ms (id off n sz:Nat)
 | fn (f:Fn) (first caps:List AV)
 | mp (id:Nat)
 | mc (id off n c sz:Nat)
 | yl (id:Nat)
 | any
 deriving Inhabited
inductive Loc where
 | virg
 | blk (c d:Nat)
 | base (L:Loop)
structure G where
 S:Nat->Nat->Prop
 ρ:Nat->Option Loc
inductive LpSt where
 | ready | busy
 | done (j:Option Nat)
 | over (j:Option (Option Nat))
 deriving Inhabited
def LpSt.state:LpSt->LoopState
 | .ready => .ready
 | .busy => .busy
 | .done _ => .done
 | .over _ => .exhausted
def LpSt.pend:LpSt->Option Code
 | .done none=>some .ret
 | .done (some id) | .over (some (some id))=>some (.exit id)
 | .over (some none)=>some .ret
 | _=>none
inductive HObj where
 | cells (cs:List AV)
 | mp (es:List (Value×Nat×AV)) (clock:Nat)
 | mpp (Φ:List (Value×Nat×AV)->Nat->Prop)
 | it (m since:Nat) (seen:List Nat) (stepped:Nat)
 | lp (s:LpSt) (mk:Nat)
 | gone
 deriving Inhabited
abbrev Hp:=Nat->Option HObj
inductive Rep (w:World) (g:G):Bool->AV->Value->Prop
 | v (p:Bool) (x:Value):Rep w g p (.v x) x
 | any (p:Bool) (x:Value):Rep w g p .any x
 | sl (p full:Bool) (n:Nat) (cs:List AV) (a:Option Addr) (cap:Nat) (vs:Nat->Value)
  (hn:n<=cap) (hf:full=true->cap=n)
  (hc:∀ i,i<cs.length->∃ ad,a=some ad/\ad.spot=none/\g.S ad.block (ad.off+i)/\w.cell? ⟨ad.block,ad.off+i,none⟩=some (vs i))
  (hr:∀ i (h:i<cs.length),Rep w g true cs[i] (vs i)):Rep w g p (.sl full n cs) (.slice a n cap)
 | agg (p:Bool) (cs:List AV) (vs:List Value) (hl:vs.length=cs.length)
  (hr:∀ i (h:i<cs.length),Rep w g p cs[i] (vs.getD i undef)):Rep w g p (.agg cs) (.agg vs.toArray)
 | tup (p:Bool) (cs:List AV) (vs:List Value) (hl:vs.length=cs.length)
  (hr:∀ i (h:i<cs.length),Rep w g p cs[i] (vs.getD i undef)):Rep w g p (.tup cs) (.tuple vs.toArray)
 | ptr (p:Bool) (cs:List AV) (off b o:Nat) (vs:Nat->Value)
  (hc:∀ i,i<cs.length->g.S b (o+i)/\w.cell? ⟨b,o+i,none⟩=some (vs i))
  (hr:∀ i (h:i<cs.length),Rep w g true cs[i] (vs i)):Rep w g p (.ptr cs off) (.pointer (some ⟨b,o+off,none⟩))
 | ref (id off c d:Nat) (hl:g.ρ id=some (.blk c d)):Rep w g false (.ref id off) (.pointer (some ⟨c,d+off,none⟩))
 | ms (id off n sz c d cap:Nat) (arr:Array Value) (ty:TypeId) (fz:Nat×Nat) (hl:g.ρ id=some (.blk c d)) (hn:n<=cap)
  (hb:w.heap[c]?=some (.cells arr ty fz)) (hs:d+off+cap*sz<=arr.size):Rep w g false (.ms id off n sz) (.slice (some ⟨c,d+off,none⟩) n cap)
 | msz (id off sz:Nat) (a:Option Addr) (l:Loc) (hl:g.ρ id=some l):Rep w g false (.ms id off 0 sz) (.slice a 0 0)
 | fn (p:Bool) (f:Fn) (as bs:List AV) (xs ys:List Value) (hl:xs.length=as.length) (hl':ys.length=bs.length)
  (hr:∀ i (h:i<as.length),Rep w g p as[i] (xs.getD i undef))
  (hr':∀ i (h:i<bs.length),Rep w g p bs[i] (ys.getD i undef)):Rep w g p (.fn f as bs) (.func f xs.toArray ys.toArray)
 | mp (id c d:Nat) (hl:g.ρ id=some (.blk c d)):Rep w g false (.mp id) (.map (some c))
 | mc (id off n cap sz c d:Nat) (arr:Array Value) (ty:TypeId) (fz:Nat×Nat) (hl:g.ρ id=some (.blk c d)) (hn:n<=cap)
  (hb:w.heap[c]?=some (.cells arr ty fz)) (hs:d+off+cap*sz<=arr.size):Rep w g false (.mc id off n cap sz) (.slice (some ⟨c,d+off,none⟩) n cap)
 | mcz (id off sz:Nat) (a:Option Addr) (l:Loc) (hl:g.ρ id=some l):Rep w g false (.mc id off 0 0 sz) (.slice a 0 0)
 | yl (id c:Nat) (hl:g.ρ id=some (.blk c 0)):Rep w g false (.yl id) (.func (.yield c) #[] #[])
@[simp] abbrev FE (_:World):Nat:=0
structure Trans (w:World) (g:G) (w':World) (g':G):Prop where
 S:∀ b o,g.S b o->g'.S b o
 cell:∀ b o,g.S b o->w'.cell? ⟨b,o,none⟩=w.cell? ⟨b,o,none⟩
 ρ:∀ id l,g.ρ id=some l->g'.ρ id=some l
 shp:∀ (b:Nat) (arr:Array Value) ty fz,w.heap[b]?=some (.cells arr ty fz)->∃ arr':Array Value,w'.heap[b]?=some (.cells arr' ty fz)/\arr'.size=arr.size
 os:w'.os=w.os
 tape:w'.tape=w.tape
 output:w'.output=w.output
 size:w.heap.size<=w'.heap.size
 drawn:FE w<=FE w'
theorem Trans.refl (w:World) (g:G):Trans w g w g:=⟨fun _ _ h=>h,fun _ _ _=>rfl,fun _ _ h=>h,fun _ A _ _ h=>⟨A,h,rfl⟩,rfl,rfl,rfl,Qs _,Qs _⟩
theorem Trans.trans {w g w' g' q y} (h:Trans w g w' g') (k:Trans w' g' q y):Trans w g q y :=
 ⟨fun b o x=>k.S b o (h.S b o x),fun b o x=>(k.cell b o (h.S b o x)).trans (h.cell b o x),fun i l x=>k.ρ i l (h.ρ i l x),
  fun b A ty fz x=>by obtain ⟨e,X,K⟩:=h.shp b A ty fz x;obtain ⟨O,h3,h4⟩:=k.shp b e ty fz X;exact ⟨O,h3,h4.trans K⟩,
  k.os.trans h.os,k.tape.trans h.tape,k.output.trans h.output,qmT h.size k.size,qmT h.drawn k.drawn⟩
theorem Rep.mono {w g w' g'} (t:Trans w g w' g') {p x v} (h:Rep w g p x v):Rep w' g' p x v:=by
 induction h with
 | v p x=>exact .v p x
 | any p x=>exact .any p x
 | sl p e n cs a cap vs A hf X hr q =>exact .sl p e n cs a cap vs A hf (fun i K=>by obtain ⟨ad,O,h2,h3,h4⟩:=X i K;exact ⟨ad,O,h2,t.S _ _ h3,(t.cell _ _ h3).trans h4⟩) q
 | agg p cs vs y hr q=>exact .agg p cs vs y q
 | tup p cs vs y hr q=>exact .tup p cs vs y q
 | ptr p cs off b o vs X hr q=>exact .ptr p cs off b o vs (fun i K=>⟨t.S _ _ (X i K).1,(t.cell _ _ (X i K).1).trans (X i K).2⟩) q
 | ref id off c d y=>exact .ref id off c d (t.ρ _ _ y)
 | ms id off n sz c d cap x0 ty fz y A hb hs =>obtain ⟨arr',O,h2⟩:=t.shp _ _ _ _ hb;exact .ms id off n sz c d cap arr' ty fz (t.ρ _ _ y) A O (by omega)
 | msz id off sz a l y=>exact .msz id off sz a l (t.ρ _ _ y)
 | fn p f as bs xs ys y x1 hr x3 q x2=>exact .fn p f as bs xs ys y x1 q x2
 | mp id c d y=>exact .mp id c d (t.ρ _ _ y)
 | mc id off n cap sz c d x0 ty fz y A hb hs =>obtain ⟨arr',O,h2⟩:=t.shp _ _ _ _ hb;exact .mc id off n cap sz c d arr' ty fz (t.ρ _ _ y) A O (by omega)
 | mcz id off sz a l y=>exact .mcz id off sz a l (t.ρ _ _ y)
 | yl id c y=>exact .yl id c (t.ρ _ _ y)
theorem Rep.pure {w g} {p x v} (h:Rep w g p x v) (hp:p=true) (ρ':Nat->Option Loc):Rep w { g with ρ:=ρ' } true x v:=by
 induction h with
 | v p x=>exact .v _ x
 | any p x=>exact .any _ x
 | sl p K n e a X O hn hf hc A q=>exact .sl _ K n e a X O hn hf hc (fun i h=>q i h rfl)
 | agg p e O y A q=>exact .agg _ e O y (fun i h=>q i h hp)
 | tup p e O y A q=>exact .tup _ e O y (fun i h=>q i h hp)
 | ptr p e off b o O hc A q=>exact .ptr _ e off b o O hc (fun i h=>q i h rfl)
 | ref id off c d y=>cases hp
 | ms id off n sz c d X x2 ty fz y hn hb hs=>cases hp
 | msz id off sz a l y=>cases hp
 | fn p f as bs xs ys y x0 A x3 q x1=>exact .fn _ f as bs xs ys y x0 (fun i h=>q i h hp) (fun i h=>x1 i h hp)
 | mp id c d y=>cases hp
 | mc=>cases hp
 | mcz=>cases hp
 | yl=>cases hp
theorem Rep.weak {w g} {p x v} (h:Rep w g p x v) (y:p=true):Rep w g false x v:=by
 induction h with
 | v p x=>exact .v _ x
 | any p x=>exact .any _ x
 | sl p x0 n e a A X hn hf hc K O=>exact .sl _ x0 n e a A X hn hf hc K
 | agg p e X q K O=>exact .agg _ e X q (fun i h=>O i h y)
 | tup p e X q K O=>exact .tup _ e X q (fun i h=>O i h y)
 | ptr p e off b o X hc K O=>exact .ptr _ e off b o X hc K
 | ref id off c d q=>cases y
 | ms id off n sz c d A x3 ty fz q hn hb hs=>cases y
 | msz id off sz a l q=>cases y
 | fn p f as bs xs ys q x1 K x4 O x2=>exact .fn _ f as bs xs ys q x1 (fun i h=>O i h y) (fun i h=>x2 i h y)
 | mp id c d q=>cases y
 | mc=>cases y
 | mcz=>cases y
 | yl=>cases y
theorem Rep.of {w g} {p x v} (h:Rep w g p x v):Rep w g false x v:=by
 cases p with
 | false=>exact h
 | true=>exact h.weak rfl
def HRep (w:World) (g:G):HObj->Loc->Prop
 | .gone,_=>True
 | .cells v,.virg=>v=[]
 | .cells v,.blk c d=>∃ (a:Array Value) (T:TypeId) (f:Nat×Nat),w.heap[c]?=some (.cells a T f)/\d+v.length<=a.size /\
  (∀ o,d<=o->¬ g.S c o)/\(∀ o,d<=o->o<=a.size->w.frozen? ⟨c,o,none⟩=false) /\
  (∀ i (h:i<v.length),∃ x,a[d+i]?=some x/\Rep w g false v[i] x)
 | .mp u C,.blk c d=>∃ (E:Array MapEntry),w.heap[c]?=some (.map E C)/\E.size=u.length/\d=0/\(∀ o,¬ g.S c o) /\
  (∀ i (h:i<u.length),∃ e,E[i]?=some e/\e.key=u[i].1/\e.born=u[i].2.1/\Rep w g false u[i].2.2 e.val)
 | .mpp Φ,.blk c d=>∃ u C,Φ u C/\∃ (E:Array MapEntry),w.heap[c]?=some (.map E C)/\E.size=u.length/\d=0/\(∀ o,¬ g.S c o) /\
  (∀ i (h:i<u.length),∃ e,E[i]?=some e/\e.key=u[i].1/\e.born=u[i].2.1/\Rep w g false u[i].2.2 e.val)
 | .it m n seen t,.blk c d=>∃ M,w.heap[c]?=some (.mapIter (some M) n seen.toArray t)/\g.ρ m=some (.blk M 0)/\d=0/\∀ o,¬ g.S c o
 | .lp s k,.blk c d=>∃ L,g.ρ k=some (.base L)/\w.heap[c]?=some (.loop { L with state:=s.state,pending:=s.pend })/\d=0/\∀ o,¬ g.S c o
 | _,.virg=>False
 | _,.base _=>False
def HObj.live:HObj->Bool
 | .gone=>false
 | _=>true
def UU (h:Hp) (g:G) (c:Nat):Prop:=∃ id o d,h id=some o/\o.live=true/\g.ρ id=some (.blk c d)
def TabOK (g:G) (w:World):Prop:=∀ t∈qkL,(∃ (a:Array Value) (T:TypeId) (f:Nat×Nat),w.heap[t.1]?=some (.cells a T f)/\a.size=t.2.1)/\∀ i,i<t.2.1->g.S t.1 i/\∃ v,w.cell? ⟨t.1,i,none⟩=some v/\t.2.2 i v
theorem TabOK.mono {w g w' g'} (t:Trans w g w' g') (h:TabOK g w):TabOK g' w':=fun x hx=>by obtain ⟨⟨A,ty,fz,e,q⟩,hc⟩:=h x hx;obtain ⟨arr',O,X⟩:=t.shp _ _ _ _ e;refine ⟨⟨arr',ty,fz,O,X.trans q⟩,fun i hi=>?_⟩;obtain ⟨y,v,K,h3⟩:=hc i hi;exact ⟨t.S _ _ y,v,(t.cell _ _ y).trans K,h3⟩
structure HeapOK (hp:Hp) (g:G) (w:World):Prop where
 dom:∀ id,hp id=none->g.ρ id=none
 rep:∀ id o,hp id=some o->∃ l,g.ρ id=some l/\HRep w g o l
 inj:∀ id id' o o' c d d',hp id=some o->hp id'=some o'->o.live=true->o'.live=true->g.ρ id=some (.blk c d)->g.ρ id'=some (.blk c d')->id=id'
 ex:∀ b o,g.S b o->∃ v,w.cell? ⟨b,o,none⟩=some v
 tab:TabOK g w
structure Upd (hp:Hp) (g:G) (w:World) (hp':Hp) (g':G) (w':World):Prop where
 tr:Trans w g w' g'
 live:∀ c,UU hp' g' c->UU hp g c\/w.heap.size<=c
 S:∀ b o,g'.S b o->g.S b o\/UU hp g b\/w.heap.size<=b
 keep:∀ b,b<w.heap.size->¬ UU hp g b->w'.heap[b]?=w.heap[b]?
theorem Upd.refl (y:Hp) (g:G) (w:World):Upd y g w y g w:=⟨.refl w g,fun _ h => .inl h,fun _ _ h => .inl h,fun _ _ _=>rfl⟩
theorem Upd.trans {hp g w O g' w' q e X} (h:Upd hp g w O g' w') (k:Upd O g' w' q e X):Upd hp g w q e X :=
 ⟨h.tr.trans k.tr,
  fun c hc=>by
   rcases k.live c hc with y | y
   . exact h.live c y
   exact .inr (qmT h.tr.size y),
  fun b o K=>by
   rcases k.S b o K with y | y | y
   . exact h.S b o y
   . exact .inr (h.live b y)
   exact .inr (.inr (qmT h.tr.size y)),
  fun b K A=>by
   refine (k.keep b (qnY K h.tr.size) (fun hl=>?_)).trans (h.keep b K A);rcases h.live b hl with y | y
   . exact A y
   omega⟩
inductive Opd where
 | t (n:Nat)
 | k (x:AV)
inductive Leaf where
 | int | bool | str
 deriving DecidableEq
def Qb:Leaf->Value->Value->Option Bool
 | .int,.int k a,.int K b=>if k=K then some (a==b) else none
 | .bool,.bool a,.bool b=>some (a==b)
 | .str,.string a,.string b=>some (a==b)
 | _,_,_=>none
def qo:List Leaf->List Value->List Value->Option Bool
 | [],[],[]=>some true
 | l::L,a::as,b::s=>match Qb l a b with
   | some true=>qo L as s
   | some false=>some false
   | none=>none
 | _,_,_=>none
abbrev KS:=Bool×List Leaf
def eqK:KS->Value->Value->Option Bool
 | (true,L),.agg as,.agg s=>qo L as.toList s.toList
 | (false,[l]),a,b=>Qb l a b
 | _,_,_=>none
def zO (K:KS) (k:Value):List (Value×Nat×AV)->Nat->Option (Option Nat)
 | [],_=>some none
 | e::E,i=>match eqK K k e.1 with
   | some true=>some (some i)
   | some false=>zO K k E (i+1)
   | none=>none
inductive AOp where
 | mv (d:Nat) (x:Opd)
 | pick (d:Nat) (c a b:Opd)
 | bin (d:Nat) (op:BinOp) (x y:Opd)
 | bing (d:Nat) (op:BinOp) (ty:TypeId) (x y:Opd)
 | un (d:Nat) (op:UnOp) (x:Opd)
 | ext (d:Nat) (x:Opd) (i:Nat)
 | ld (d:Nat) (agg:Bool) (sz:Nat) (x:Opd)
 | st (sz:Nat) (a x:Opd)
 | box (d:Nat) (sz:Nat) (x:Opd)
 | al (d:Nat) (zero:List AV)
 | bsl (d:Nat) (n sz:Nat) (zero:List AV) (parts:List (Nat×Opd))
 | bld (d:Nat) (zero:List AV) (parts:List (Nat×Nat×Opd))
 | fa (d:Nat) (x:Opd) (off:Nat)
 | fld (d:Nat) (agg:Bool) (sz off:Nat) (x:Opd)
 | ia (d:Nat) (sz:Nat) (x i:Opd)
 | iaa (d:Nat) (len sz:Nat) (x i:Opd)
 | idx (d:Nat) (len:Nat) (agg:Bool) (sz:Nat) (x i:Opd)
 | ids (d:Nat) (x i:Opd)
 | len (d:Nat) (x:Opd)
 | lns (d:Nat) (x:Opd)
 | lnm (d:Nat) (x:Opd)
 | slc (d:Nat) (sz:Nat) (x:Opd) (lo hi mx:Option Opd)
 | sls (d:Nat) (x:Opd) (lo hi:Option Opd)
 | app (d:Nat) (sz bytes:Nat) (x y:Opd)
 | cpy (d:Nat) (sz:Nat) (x y:Opd)
 | mks (d:Nat) (sz bytes:Nat) (zero:List AV) (n c:Opd)
 | cnv (d:Nat) (k:IntKind) (x:Opd)
 | mx (d:Nat) (max:Bool) (x y:Opd)
 | nilc (d:Nat) (x:Opd)
 | mkf (d:Nat) (f:Fn) (first caps:List Opd)
 | call (d:Nat) (f:FuncId) (args:List Opd)
 | callv (d:Nat) (x:Opd) (args:List Opd)
 | cap (d:Nat) (x:Opd)
 | clr (sz:Nat) (zero:List AV) (x:Opd)
 | appz (d:Nat) (sz bytes:Nat) (zero:List AV) (x k:Opd)
 | callx (d:Nat) (f:FuncId) (args:List Opd)
 | slp (d:Nat) (sz ln:Nat) (x:Opd) (lo hi mx:Option Opd)
 | mkm (d:Nat)
 | ins (ks:KS) (m k v:Opd)
 | lku (d:Nat) (ks:KS) (zero:AV) (ok:Bool) (m k:Opd)
 | mpe (d:Nat) (ks:KS) (zero:AV) (m k:Opd)
 | est (m s v:Opd)
 | del (ks:KS) (m k:Opd)
 | eqk (d:Nat) (neg:Bool) (ks:KS) (x y:Opd)
 | rng (d:Nat) (x:Opd)
 | nxt (d:Nat) (x:Opd)
 | ent (d:Nat) (x:Opd)
 | isn (d:Nat) (neg:Bool) (kd:Nat) (x:Opd)
 | b2s (d:Nat) (x:Opd)
 | s2b (d:Nat) (x:Opd)
 | apps (d:Nat) (bytes:Nat) (x y:Opd)
def AOp.dst:AOp->Option Nat
 | .mv d _ | .pick d .. | .bin d .. | .bing d .. | .un d .. | .ext d .. | .ld d .. | .box d .. | .al d .. | .bsl d .. | .bld d .. | .fa d .. | .fld d .. | .ia d .. | .iaa d .. | .idx d ..
 | .ids d .. | .len d .. | .lns d .. | .lnm d .. | .slc d .. | .sls d .. | .app d .. | .cpy d .. | .mks d .. | .cnv d .. | .mx d .. | .nilc d .. | .mkf d .. | .call d .. | .callv d ..
 | .cap d _ | .appz d .. | .callx d .. | .slp d .. | .mkm d | .lku d .. | .mpe d .. | .eqk d .. | .rng d _ | .nxt d _ | .ent d _ | .isn d _ _ _ | .b2s d _ | .s2b d _ | .apps d .. => some d
 | .st .. | .clr .. | .ins .. | .est .. | .del .. => none
def AV.ofCell:Value->AV
 | .slice none 0 0 => .sl true 0 []
 | x => .v x
def AV.ofValue:Value->AV
 | .agg y => .agg (y.toList.map AV.ofCell)
 | x=>AV.ofCell x
def AV.isCell:AV->Bool
 | .v (.agg _) | .v (.tuple _) | .agg _ | .tup _ | .any=>false
 | _=>true
def AV.cells:AV->List AV
 | .agg cs=>cs
 | x=>[x]
def AV.isPure0:AV->Bool
 | .v _ | .sl .. | .ptr .. => true
 | _=>false
def AV.isPure:AV->Bool
 | .v _ | .sl .. | .ptr .. => true
 | .fn _ as y=>as.all AV.isPure0&&y.all AV.isPure0
 | _=>false
def AV.isPC:AV->Bool
 | .v (.agg _) | .v (.tuple _)=>false
 | .v _ | .sl .. | .ptr .. => true
 | _=>false
def AV.sc1:AV->Bool
 | .v _=>true
 | .sl _ _ []=>true
 | _=>false
def AV.scalar:AV->Bool
 | .v _=>true
 | .sl _ _ []=>true
 | .tup y=>y.all AV.sc1
 | .agg y=>y.all AV.sc1
 | _=>false
def splice (cs:List AV) (off:Nat) (xs:List AV):List AV:=cs.take off++xs++cs.drop (off+xs.length)
def qJ (cs:List AV) (off m:Nat):List AV:=(cs.drop off).take m
def YH (f:AV->Option (AV×List Nat)):List AV->Option (List AV×List Nat)
 | []=>some ([],[])
 | x::X=>match f x,YH f X with
   | some (y,a),some (Y,b)=>some (y::Y,a++b)
   | _,_=>none
def jo (f:AV->Option (AV×List Nat)) (h:Hp) (id:Nat):Option (List AV×List Nat):=match h id with
 | some (.cells c)=>match YH f c with
   | some (y,i)=>some (y,id::i)
   | none=>none
 | _=>none
def Xr (h:Hp):Nat->AV->Option (AV×List Nat)
 | k,.v x=>some (.v x,[])
 | k,.sl f n c=>some (.sl f n c,[])
 | k,.ptr c o=>some (.ptr c o,[])
 | k,.fn f as b=>bif (AV.fn f as b).isPure then some (.fn f as b,[]) else none
 | k+1,.ms id off n s=>match jo (Xr h k) h id with
   | some (y,i)=>if off+n*s<=y.length then some (.sl false n (qJ y off (n*s)),i) else none
   | none=>none
 | k+1,.mc id off n _ s=>match jo (Xr h k) h id with
   | some (y,i)=>if off+n*s<=y.length then some (.sl false n (qJ y off (n*s)),i) else none
   | none=>none
 | k+1,.ref id off=>match jo (Xr h k) h id with
   | some (y,i)=>some (.ptr y off,i)
   | none=>none
 | _,_=>none
def zA (h:Hp):AV->Option (AV×List Nat)
 | .v x=>some (.v x,[])
 | .sl f n C=>some (.sl f n C,[])
 | .ptr C o=>some (.ptr C o,[])
 | .ms id off n sz=>Xr h 5 (.ms id off n sz)
 | .mc id off n c sz=>Xr h 5 (.mc id off n c sz)
 | .ref id off=>Xr h 5 (.ref id off)
 | _=>none
def zY (h:Hp):List AV->Option (List AV×List Nat)
 | []=>some ([],[])
 | x::X=>match zA h x,zY h X with
   | some (y,a),some (Y,b)=>some (y::Y,a++b)
   | _,_=>none
def qR (h:Hp):AV->Option (AV×List Nat)
 | .agg c=>(zY h c).map fun (ys,a)=>(.agg ys,a)
 | .fn f as s=>match zY h as,zY h s with
   | some (X,a),some (ys,b)=>some (.fn f X ys,a++b)
   | _,_=>none
 | x=>zA h x
def zC (hp:Hp):List AV->Option (List AV×List Nat)
 | []=>some ([],[])
 | x::X=>match qR hp x,zC hp X with
   | some (y,a),some (ys,b)=>some (y::ys,a++b)
   | _,_=>none
def qH (h:Hp):AV->Option (AV×List Nat)
 | .agg c=>(zC h c).map fun (ys,a)=>(.agg ys,a)
 | .tup c=>(zC h c).map fun (ys,a)=>(.tup ys,a)
 | x=>qR h x
def qj (h:Hp):List AV->Option (List AV×List Nat)
 | []=>some ([],[])
 | x::X=>match qH h x,qj h X with
   | some (y,a),some (Y,b)=>some (y::Y,a++b)
   | _,_=>none
def zh:Nat->List AV->List AV
 | 0,_=>[]
 | n+1,z=>z++zh n z
def jI:BinOp->Value->Value->Option Value
 | .add,.int k a,.int K b=>if k=K then some (.int k (k.wrap (a+b))) else none
 | .sub,.int k a,.int K b=>if k=K then some (.int k (k.wrap (a - b))) else none
 | .mul,.int k a,.int K b=>if k=K then some (.int k (k.wrap (a*b))) else none
 | .quo,.int k a,.int K b=>if k=K/\b≠0 then some (.int k (k.wrap (a.tdiv b))) else none
 | .rem,.int k a,.int K b=>if k=K/\b≠0 then some (.int k (a.tmod b)) else none
 | .and,.int k a,.int K b=>if k=K then some (.int k (k.wrap (BitVec.ofInt k.bits a &&& BitVec.ofInt k.bits b).toNat)) else none
 | .or,.int k a,.int K b=>if k=K then some (.int k (k.wrap (BitVec.ofInt k.bits a ||| BitVec.ofInt k.bits b).toNat)) else none
 | .xor,.int k a,.int K b=>if k=K then some (.int k (k.wrap (BitVec.ofInt k.bits a ^^^ BitVec.ofInt k.bits b).toNat)) else none
 | .andNot,.int k a,.int K b=>if k=K then some (.int k (k.wrap (BitVec.ofInt k.bits a &&& ~~~ BitVec.ofInt k.bits b).toNat)) else none
 | .shl,.int k a,.int _ b=>if b<0 then none else some (.int k (k.wrap (a*2 ^ (min b.toNat k.bits))))
 | .shr,.int k a,.int _ b=>if b<0 then none else some (.int k (a.fdiv (2 ^ (min b.toNat k.bits))))
 | .eql,.int k a,.int K b=>if k=K then some (.bool (a==b)) else none
 | .neq,.int k a,.int K b=>if k=K then some (.bool (a != b)) else none
 | .lss,.int k a,.int K b=>if k=K then some (.bool (decide (a<b))) else none
 | .leq,.int k a,.int K b=>if k=K then some (.bool (decide (a<=b))) else none
 | .gtr,.int k a,.int K b=>if k=K then some (.bool (decide (a>b))) else none
 | .geq,.int k a,.int K b=>if k=K then some (.bool (decide (a≥b))) else none
 | .add,.string a,.string b=>if a.size+b.size<=9223372036854775807 then some (.string (a++b)) else none
 | .eql,.string a,.string b=>some (.bool (a.toList==b.toList))
 | .neq,.string a,.string b=>some (.bool (!(a.toList==b.toList)))
 | .lss,.string a,.string b=>some (.bool (Op.bytesLess a.toList b.toList))
 | _,_,_=>none
def unV:UnOp->Value->Option Value
 | .neg,.int k n=>some (.int k (k.wrap (0 - n)))
 | .not,.bool b=>some (.bool !b)
 | _,_=>none
def elems (h:Hp) (sz:Nat):AV->Option (Nat×List AV)
 | .sl _ n cs=>if cs.length=n*sz then some (n,cs) else none
 | .ms id off n s=>match h id with
   | some (.cells cs)=>if s=sz/\off+n*sz<=cs.length then some (n,qJ cs off (n*sz)) else none
   | _=>none
 | .mc id off n _ s=>match h id with
   | some (.cells cs)=>if s=sz/\off+n*sz<=cs.length then some (n,qJ cs off (n*sz)) else none
   | _=>none
 | _=>none
def QO (cs:List AV) (sz:Nat):List (Nat×AV)->List AV
 | []=>cs
 | (i,x)::r=>QO (splice cs (i*sz) x.cells) sz r
def Jv (c:List AV):List (Nat×Nat×AV)->List AV
 | []=>c
 | (off,_,x)::r=>Jv (splice c off x.cells) r
def lO:List AV->Option (List Value)
 | []=>some []
 | .v x::r=>(lO r).map (x::·)
 | _=>none
def AV.val:AV->Option Value
 | .v x=>some x
 | .agg y=>(lO y).map fun l => .agg l.toArray
 | _=>none
def evF (F:Nat->AV):Opd->AV
 | .t n=>F n
 | .k x=>x
abbrev I (n:Int):AV := .v (.int .i64 n)
abbrev B (b:Bool):AV := .v (.bool b)
section
variable (ev:Opd->AV) (hp:Hp) (new:Nat) (r:AV) (ws:List (Nat×HObj))
def ZM (a:Bool) (s:Nat) (x:AV):Prop :=
 match x with
 | .ptr c off=>ws=[]/\(match a with | true=>off+s<=c.length/\r = .agg (qJ c off s) | false=>∃ y,c[off]?=some y/\r=y)
 | .ref id off=>match hp id with
   | some (.cells c)=>ws=[]/\(match a with | true=>off+s<=c.length/\r = .agg (qJ c off s) | false=>∃ y,c[off]?=some y/\r=y)
   | _=>False
 | _=>False
def Ux (s:Nat) (a x:AV):Prop :=
 match a with
 | .ref id off=>match hp id with
   | some (.cells c)=>x.cells.length=s/\(x.cells.all AV.isCell)=true/\off+s<=c.length/\ws=[(id,.cells (splice c off x.cells))]/\r = .any
   | _=>False
 | _=>False
def Xx (s:Nat) (x:AV) (L i M:Option AV):Prop :=
 match x with
 | .sl f n C=>∃ l h:Nat,(match L with | none=>l=0 | some y=>y=I l)/\(match i with | none=>h=n | some y=>y=I h)/\l<=h/\h<=n/\C.length=n*s /\
  (match M with | none=>r = .sl (f&&decide (h=n)) (h - l) (qJ C (l*s) ((h - l)*s)) | some y=>y=I h/\i.isSome/\r = .sl true (h - l) (qJ C (l*s) ((h - l)*s)))/\ws=[]
 | .ms id off n z=>∃ l h:Nat,(match L with | none=>l=0 | some y=>y=I l)/\(match i with | none=>h=n | some y=>y=I h)/\l<=h/\h<=n/\z=s /\
  (match M with | none=>True | some y=>∃ m:Nat,y=I m/\h<=m/\m<=n/\i.isSome)/\(r = .ms id (off+l*s) (h - l) s\/∃ m:Nat,M=some (I m)/\r = .mc id (off+l*s) (h - l) (m - l) s)/\ws=[]
 | .mc id off n c z=>∃ l h m:Nat,(match L with | none=>l=0 | some y=>y=I l)/\(match i with | none=>h=n | some y=>y=I h)/\(match M with | none=>m=c | some y=>y=I m/\i.isSome) /\
  l<=h/\h<=m/\m<=c/\z=s/\r = .mc id (off+l*s) (h - l) (m - l) s/\ws=[]
 | _=>False
def zG (sz b:Nat) (x:AV) (m:Nat) (ys:List AV):Prop :=
 match x with
 | .sl f n cs=>f=true/\cs.length=n*sz/\(n+m)*b<=140737488355328/\n+m<=140737488355328 /\
  ((n=0\/0<m)/\r = .ms new 0 (n+m) sz/\ws=[(new,.cells (cs++ys))])
 | .ms id off n s=>match hp id with
   | some (.cells cs)=>s=sz/\off+n*sz<=cs.length/\(n+m)*b<=140737488355328/\n+m<=140737488355328 /\
    r = .ms new 0 (n+m) sz/\ws=[(id,.gone),(new,.cells (qJ cs off (n*sz)++ys))]
   | _=>False
 | .mc id off n c s=>match hp id with
   | some (.cells cs)=>s=sz/\off+n*sz<=cs.length/\(n+m)*b<=140737488355328/\n+m<=140737488355328 /\
    ((n+m<=c/\off+(n+m)*sz<=cs.length/\r = .mc id off (n+m) c sz/\ws=[(id,.cells (splice cs (off+n*sz) ys))]) \/
     (c<n+m/\r = .ms new 0 (n+m) sz/\ws=[(new,.cells (qJ cs off (n*sz)++ys))]))
   | _=>False
 | _=>False
end
def qx (P:Program) (f:FuncId) (a:List AV) (r:AV):Prop :=
 ∀ (R:Option Nat) (n:Nat) (w:World) (g:G) (V:Array Value),HeapOK (fun _=>none) g w->V.size=a.length->(∀ i (h:i<a.length),Rep w g true a[i] (V.getD i undef)) ->
   CallsIn { Fence.wide with round:=R } n P f V w fun e j=>∃ v u,e = .returned v/\Rep j u true r v/\HeapOK (fun _=>none) u j/\Upd (fun _=>none) g w (fun _=>none) u j
def AV.isFlat:AV->Bool
 | .agg _ | .tup _ | .fn .. => false
 | _=>true
def jB (P:Program) (f:FuncId):Bool:=match P.funcs[f]? with
 | some n => !(n.name == "runtime.NumGoroutine") && n.body.isSome
 | none=>false
def made (c:List AV):Hp:=fun i=>if i=0 then some (.cells c) else none
def YK (P:Program) (f:FuncId) (a:List AV) (m s:Nat) (c:List AV):Prop :=
 (c.all AV.isPC)=true/\∀ (r:Option Nat) (n:Nat) (w:World) (g:G) (V:Array Value),HeapOK (fun _=>none) g w->V.size=a.length->(∀ i (h:i<a.length),Rep w g true a[i] (V.getD i undef)) ->
  CallsIn { Fence.wide with round:=r } n P f V w fun e j=>∃ v u,e = .returned v/\Rep j u false (.ms 0 0 m s) v/\HeapOK (made c) u j/\Upd (fun _=>none) g w (made c) u j
def Br (Φ:List (Value×Nat×AV)->Nat->Prop):Hp:=fun i=>if i=0 then some (.mpp Φ) else none
def HX (P:Program) (f:FuncId) (a:List AV) (Φ:List (Value×Nat×AV)->Nat->Prop):Prop :=
 (∀ E c,Φ E c->(E.all fun e=>e.2.2.isPC)=true)/\∀ (r:Option Nat) (n:Nat) (w:World) (g:G) (V:Array Value),HeapOK (fun _=>none) g w->V.size=a.length->(∀ i (h:i<a.length),Rep w g true a[i] (V.getD i undef)) ->
  CallsIn { Fence.wide with round:=r } n P f V w fun e j=>∃ v u,e = .returned v/\Rep j u false (.mp 0) v/\HeapOK (Br Φ) u j/\Upd (fun _=>none) g w (Br Φ) u j
def gones (ids:List Nat):List (Nat×HObj):=ids.map fun i=>(i,.gone)
def AV.isV:AV->Bool
 | .v _=>true
 | _=>false
def Wg (c:List AV) (i:List Nat):List (Nat×HObj):=bif c.all AV.isV then [] else gones i
theorem Yo {c:List AV} {i:List Nat} {p:Nat×HObj} (h:p∈Wg c i):p∈gones i:=by
 unfold Wg at h;cases e:c.all AV.isV with
 | true=>rw [e] at h;cases h
 | false=>rw [e] at h;exact h
theorem Lh (c:List AV) (i:List Nat):Wg c i=[]\/Wg c i=gones i:=by
 unfold Wg;cases c.all AV.isV with
 | true=>exact .inl rfl
 | false=>exact .inr rfl
def QV (l:List UInt8):List AV:=l.map fun b => .v (.int .u8 b.toNat)
def AOp.sem (P:Program) (o:AOp) (O:Opd->AV) (hp:Hp) (new:Nat) (r:AV) (X:List (Nat×HObj)):Prop :=
 match o with
 | .mv _ x=>r=O x/\X=[]
 | .pick _ c a b=>match O c with
   | .v (.bool t)=>r=(bif t then O a else O b)/\X=[]
   | _=>False
 | .bin _ op x y=>match O x,O y with
   | .v a,.v b=>∃ z,jI op a b=some z/\r = .v z/\X=[]
   | _,_=>False
 | .bing _ op ty x y=>∃ a b z,(O x).val=some a/\(O y).val=some b/\(∀ w,(binOp op ty a b).run P w = .ok z w)/\(∀ p q w,(eqGuard op ty p q a b).run P w = .ok () w)/\r = .v z/\X=[]
 | .un _ op x=>match O x with
   | .v a=>∃ z,unV op a=some z/\r = .v z/\X=[]
   | _=>False
 | .ext _ x i=>match O x with
   | .tup vs=>∃ y,vs[i]?=some y/\r=y/\X=[]
   | _=>False
 | .ld _ agg sz x=>ZM hp r X agg sz (O x)
 | .st sz a x=>Ux hp r X sz (O a) (O x)
 | .box _ sz x=>(O x).cells.length=sz/\((O x).cells.all AV.isCell)=true/\r = .ref new 0/\X=[(new,.cells (O x).cells)]
 | .al _ zero=>r = .ref new 0/\X=[(new,.cells zero)]
 | .bsl _ n sz zero x1=>∃ ys ids,qj hp (x1.map fun p=>O p.2)=some (ys,ids)/\(ys.all fun y=>y.cells.all AV.isCell&&y.cells.all AV.isPure&&(y.cells.length==sz))=true /\
  ((r = .sl true n (QO (zh n zero) sz ((x1.map (·.1)).zip ys))/\X=gones ids)\/(r = .mc new 0 n n sz/\X=gones ids++[(new,.cells (QO (zh n zero) sz ((x1.map (·.1)).zip ys)))]))
 | .bld _ zero x1=>(x1.all fun p=>(O p.2.2).cells.all AV.isCell&&((O p.2.2).cells.length==p.2.1))=true /\
  r = .agg (Jv zero (x1.map fun p=>(p.1,p.2.1,O p.2.2)))/\X=[]
 | .fa _ x off=>match O x with
   | .ptr K o=>r = .ptr K (o+off)/\X=[]
   | .ref id o=>r = .ref id (o+off)/\X=[]
   | _=>False
 | .fld _ agg sz off x=>match O x with
   | .agg K=>(match agg with | true=>off+sz<=K.length/\r = .agg (qJ K off sz) | false=>∃ y,K[off]?=some y/\r=y)/\X=[]
   | _=>False
 | .ia _ sz x i=>match O x,O i with
   | .sl _ n K,.v (.int _ j)=>(0<=j/\j<n)/\r = .ptr K (j.toNat*sz)/\X=[]/\K.length=n*sz
   | .ms id off n x2,.v (.int _ j)=>(0<=j/\j<n)/\x2=sz/\r = .ref id (off+j.toNat*sz)/\X=[]
   | .mc id off n _ x2,.v (.int _ j)=>(0<=j/\j<n)/\x2=sz/\r = .ref id (off+j.toNat*sz)/\X=[]
   | _,_=>False
 | .iaa _ ln sz x i=>match O x,O i with
   | .ptr K o,.v (.int _ j)=>(0<=j/\j<ln)/\r = .ptr K (o+j.toNat*sz)/\X=[]
   | .ref id o,.v (.int _ j)=>(0<=j/\j<ln)/\r = .ref id (o+j.toNat*sz)/\X=[]
   | _,_=>False
 | .idx _ ln agg sz x i=>match O x,O i with
   | .agg K,.v (.int _ j)=>(0<=j/\j<ln)/\(match agg with | true=>j.toNat*sz+sz<=K.length/\r = .agg (qJ K (j.toNat*sz) sz) | false=>∃ y,K[j.toNat*sz]?=some y/\r=y)/\X=[]
   | _,_=>False
 | .ids _ x i=>match O x,O i with
   | .v (.string s),.v (.int _ j)=>0<=j/\(∃ b,s[j.toNat]?=some b/\r = .v (.int .u8 b.toNat))/\X=[]
   | _,_=>False
 | .len _ x=>match O x with
   | .sl _ n _=>r=I n/\X=[]
   | .ms _ _ n _=>r=I n/\X=[]
   | .mc _ _ n _ _=>r=I n/\X=[]
   | _=>False
 | .lns _ x=>match O x with
   | .v (.string s)=>r=I s.size/\X=[]
   | _=>False
 | .lnm _ x=>match O x with
   | .mp id=>match hp id with
     | some (.mp es _)=>r=I es.length/\X=[]
     | _=>False
   | _=>False
 | .slc _ sz x lo hi x5=>Xx r X sz (O x) (lo.map O) (hi.map O) (x5.map O)
 | .sls _ x lo hi=>match O x with
   | .v (.string s)=>∃ l h:Nat,(match lo.map O with | none=>l=0 | some y=>y=I l)/\(match hi.map O with | none=>h=s.size | some y=>y=I h)/\l<=h/\h<=s.size/\r = .v (.string (s.extract l h))/\X=[]
   | _=>False
 | .app _ sz bytes x y=>∃ m ys,elems hp sz (O y)=some (m,ys)/\(ys.all AV.isPC)=true/\zG hp new r X sz bytes (O x) m ys
 | .cpy _ sz x y=>match O x with
   | .ms id off n x2=>∃ m ys K,elems hp sz (O y)=some (m,ys)/\((ys.take (Nat.min m n*sz)).all AV.isPC)=true/\hp id=some (.cells K)/\x2=sz/\off+n*sz<=K.length/\r=I (Nat.min m n:Nat)/\X=[(id,.cells (splice K off (ys.take (Nat.min m n*sz))))]
   | .mc id off n _ x2=>∃ m ys K,elems hp sz (O y)=some (m,ys)/\((ys.take (Nat.min m n*sz)).all AV.isPC)=true/\hp id=some (.cells K)/\x2=sz/\off+n*sz<=K.length/\r=I (Nat.min m n:Nat)/\X=[(id,.cells (splice K off (ys.take (Nat.min m n*sz))))]
   | _=>False
 | .mks _ sz bytes zero n c=>∃ k:Nat,O n=I k/\O c=I k/\k*bytes<=140737488355328/\k<=140737488355328/\zero.length=sz/\r = .ms new 0 k sz/\X=[(new,.cells (zh k zero))]
 | .cnv _ k x=>match O x with
   | .v (.int _ n)=>r = .v (.int k (k.wrap n))/\X=[]
   | _=>False
 | .mx _ x7 x y=>match O x,O y with
   | .v (.int k a),.v (.int _ b)=>r = .v (.int k (bif x7 then (if b>a then b else a) else (if b<a then b else a)))/\X=[]
   | _,_=>False
 | .nilc _ x=>match O x with
   | .ptr K o=>r = .ptr K o/\X=[]
   | .ref id o=>r = .ref id o/\X=[]
   | .fn (.func f) as bs=>r = .fn (.func f) as bs/\X=[]
   | _=>False
 | .mkf _ f first x3=>r = .fn f (first.map O) (x3.map O)/\X=[]
 | .call _ f x4=>∃ ys ids,qj hp (x4.map O)=some (ys,ids)/\((qx P f ys r/\X=bif r.scalar then [] else gones ids)\/(∃ m sz K,YK P f ys m sz K/\r = .ms new 0 m sz/\X=Wg K ids++[(new,.cells K)])\/∃ Φ,HX P f ys Φ/\r = .mp new/\X=gones ids++[(new,.mpp Φ)])
 | .callv _ x x4=>match O x with
   | .fn (.func f) first x3=>(jB P f=true/\(first++x3).all AV.isFlat=true)/\∃ ys ids,qj hp (first++x4.map O++x3)=some (ys,ids)/\((qx P f ys r/\X=bif r.scalar then [] else gones ids)\/(∃ m sz K,YK P f ys m sz K/\r = .ms new 0 m sz/\X=Wg K ids++[(new,.cells K)]))
   | _=>False
 | .callx .. | .rng .. | .nxt .. | .ent .. | .isn .. => False
 | .cap _ x=>match O x with
   | .sl x6 n _=>x6=true/\r=I n/\X=[]
   | .mc _ _ _ c _=>r=I c/\X=[]
   | _=>False
 | .clr sz zero x=>match O x with
   | .ms id off n x2=>∃ K,hp id=some (.cells K)/\x2=sz/\off+n*sz<=K.length/\r = .any/\X=[(id,.cells (splice K off (zh n zero)))]
   | .mc id off n _ x2=>∃ K,hp id=some (.cells K)/\x2=sz/\off+n*sz<=K.length/\r = .any/\X=[(id,.cells (splice K off (zh n zero)))]
   | _=>False
 | .appz _ sz bytes zero x k=>∃ m:Nat,O k=I m/\zG hp new r X sz bytes (O x) m (zh m zero)
 | .slp _ sz ln x lo hi x5=>match O x with
   | .ref id off=>match hp id with
     | some (.cells K)=>∃ l h m:Nat,(match lo.map O with | none=>l=0 | some y=>y=I l)/\(match hi.map O with | none=>h=ln | some y=>y=I h)/\(match x5.map O with | none=>m=ln | some y=>y=I m/\hi.isSome) /\
      l<=h/\h<=m/\m<=ln/\off+ln*sz<=K.length/\r = .mc id (off+l*sz) (h - l) (m - l) sz/\X=[]
     | _=>False
   | .ptr K off=>∃ l h:Nat,(match lo.map O with | none=>l=0 | some y=>y=I l)/\(match hi.map O with | none=>h=ln | some y=>y=I h)/\x5=none /\
    l<=h/\h<=ln/\off+ln*sz<=K.length/\r = .sl (decide (h=ln)) (h - l) (qJ K (off+l*sz) ((h - l)*sz))/\X=[]
   | _=>False
 | .mkm _=>r = .mp new/\X=[(new,.mp [] 0)]
 | .ins ks m k v=>match O m with
   | .mp id=>match hp id with
     | some (.mp es x0)=>∃ A,(O k).val=some A/\eqK ks A A=some true/\r = .any /\
      ((∃ i e,zO ks A es 0=some (some i)/\es[i]?=some e/\X=[(id,.mp (es.set i (e.1,e.2.1,O v)) x0)]) \/
       (zO ks A es 0=some none/\X=[(id,.mp (es++[(A,x0,O v)]) (x0+1))]))
     | _=>False
   | _=>False
 | .lku _ ks zero ok m k=>match O m with
   | .mp id=>match hp id with
     | some (.mp es _)=>∃ A,(O k).val=some A/\eqK ks A A=some true/\X=[] /\
      ((∃ i e,zO ks A es 0=some (some i)/\es[i]?=some e/\r=bif ok then .tup [e.2.2,B true] else e.2.2) \/
       (zO ks A es 0=some none/\r=bif ok then .tup [zero,B false] else zero))
     | some (.mpp Φ)=>ok=true/\∃ A,(O k).val=some A/\eqK ks A A=some true/\X=[]/\∀ es x0,Φ es x0 ->
      ((∃ i e,zO ks A es 0=some (some i)/\es[i]?=some e/\r = .tup [e.2.2,B true]) \/
       (zO ks A es 0=some none/\r = .tup [zero,B false]))
     | _=>False
   | _=>False
 | .mpe _ ks zero m k=>match O m with
   | .mp id=>match hp id with
     | some (.mp es x0)=>∃ A,(O k).val=some A/\eqK ks A A=some true /\
      ((∃ i e,zO ks A es 0=some (some i)/\es[i]?=some e/\r = .tup [e.2.2,I e.2.1]/\X=[]) \/
       (zO ks A es 0=some none/\r = .tup [zero,I x0]/\X=[(id,.mp (es++[(A,x0,zero)]) (x0+1))]))
     | _=>False
   | _=>False
 | .est m s v=>match O m with
   | .mp id=>match hp id with
     | some (.mp es x0)=>∃ i e,O s=I e.2.1/\es.findIdx? (fun x=>x.2.1==e.2.1)=some i/\es[i]?=some e/\r = .any/\X=[(id,.mp (es.set i (e.1,e.2.1,O v)) x0)]
     | _=>False
   | _=>False
 | .del ks m k=>match O m with
   | .mp id=>match hp id with
     | some (.mp es x0)=>∃ A,(O k).val=some A/\eqK ks A A=some true/\r = .any /\
      ((∃ i,zO ks A es 0=some (some i)/\X=[(id,.mp (es.eraseIdx i) x0)]) \/
       (zO ks A es 0=some none/\X=[]))
     | _=>False
   | _=>False
 | .b2s _ x=>∃ bs:List UInt8,elems hp 1 (O x)=some (bs.length,QV bs)/\r = .v (.string ⟨bs.toArray⟩)/\X=[]
 | .s2b _ x=>match O x with
   | .v (.string s)=>r = .sl false s.size (QV s.data.toList)/\X=[]
   | _=>False
 | .apps _ bytes x y=>match O y with
   | .v (.string s)=>zG hp new r X 1 bytes (O x) s.size (QV s.data.toList)
   | _=>False
 | .eqk _ neg ks x y=>∃ a b z,(O x).val=some a/\(O y).val=some b/\eqK ks a b=some z/\r=B (neg != z)/\X=[]
def AOp.many (o:AOp) (ev:Opd->AV) (hp:Hp) (A:Nat) (K:AV->List (Nat×HObj)->Prop):Prop :=
 match o with
 | .rng _ x=>match ev x with
   | .mp id=>match hp id with
     | some (.mp _ y)=>K (.ref A 0) [(A,.it id y [] y)]
     | some (.mpp Φ)=>∀ X y,Φ X y->K (.ref A 0) [(id,.mp X y),(A,.it id y [] y)]
     | _=>False
   | _=>False
 | .nxt _ x=>match ev x with
   | .ref id 0=>match hp id with
     | some (.it m q seen x0)=>match hp m with
       | some (.mp X y)=>(seen.isEmpty || X.isEmpty || !X.all (fun e=>decide (x0<=e.2.1)))=true /\
        ((X.filter fun e => !seen.contains e.2.1&&decide (e.2.1<q)).isEmpty=true->K (.tup [B false]) []) /\
        ∀ e∈X,seen.contains e.2.1=false->K (.tup [B true,AV.ofValue e.1,e.2.2]) [(id,.it m q (seen++[e.2.1]) y)]
       | _=>False
     | _=>False
   | _=>False
 | .ent _ x=>match ev x with
   | .ref id 0=>match hp id with
     | some (.it m _ seen O)=>match hp m with
       | some (.mp X y)=>y=O/\∃ b e,seen.getLast?=some b/\X.find? (fun e=>e.2.1==b)=some e/\K (.tup [AV.ofValue e.1,e.2.2]) []
       | _=>False
     | _=>False
   | _=>False
 | .isn _ neg kd x=>match kd,ev x with
   | 0,.sl _ _ cs=>match cs with
     | []=>K (B false) []/\K (B true) []
     | _::_=>K (B neg) []
   | 0,.ms _ _ n _=>(n≠0->K (B neg) [])/\(n=0->K (B false) []/\K (B true) [])
   | 1,.ptr .. | 1,.ref .. | 2,.mp _ | 3,.fn .. => K (B neg) []
   | 0,.v (.slice none 0 0) | 1,.v (.pointer none) | 2,.v (.map none) | 3,.v .nilFunc=>K (B !neg) []
   | _,_=>False
 | _=>False
end Go.AM

namespace Go.AM
open Go.RowKit
variable {A:Array TypeId} {c:Call} {f:FuncId} {k:IntKind} {s:List Nat} {b d o n O y m:Nat} {x:Operand} {P:Program} {e T ts tx:TypeId} {i:TypeInfo} {v Z:Value}
def Hp.set (y:Hp) (id:Nat) (o:HObj):Hp:=fun i=>if i=id then some o else y i
def Hp.write (hp:Hp):List (Nat×HObj)->Hp
 | []=>hp
 | (id,o)::ws=>Hp.write (Hp.set hp id o) ws
theorem Hp.set_same (hp:Hp) (id:Nat) (o:HObj):Hp.set hp id o id=some o:=by simp [Hp.set]
theorem Hp.set_other (hp:Hp) {id i:Nat} (o:HObj) (h:i≠id):Hp.set hp id o i=hp i:=by simp [Hp.set,h]
theorem zk (w:World) (o:Obj):(w.alloc o).heap[w.heap.size]?=some o:=by show (w.heap.push o)[w.heap.size]?=some o;simp
theorem HRep.mono {w g w' g'} {o:HObj} {l:Loc} (t:Trans w g w' g') (hb:∀ c d,l = .blk c d->w'.heap[c]?=w.heap[c]?)
 (hS:∀ c d q,l = .blk c d->g'.S c q->g.S c q) (h:HRep w g o l):HRep w' g' o l:=by
 cases o with
 | gone=>cases l <;> trivial
 | cells cs =>
   cases l with
   | virg=>exact h
   | base L=>exact h
   | blk c d =>
     obtain ⟨x2,ty,fz,X,h2,K,A,h5⟩:=h;refine ⟨x2,ty,fz,(hb c d rfl).trans X,h2,fun q hq hs=>K q hq (hS c d q rfl hs),fun q hq x3=>?_,fun i hi=>?_⟩
     . rw [World.frozen?_of_block (w:=w) (hb c d rfl)];exact A q hq x3
     obtain ⟨x,hx,hr⟩:=h5 i hi;exact ⟨x,hx,hr.mono t⟩
 | mp es y =>
   cases l with
   | virg=>exact h
   | base L=>exact h
   | blk c d =>obtain ⟨O,X,h2,K,A,h5⟩:=h;refine ⟨O,(hb c d rfl).trans X,h2,K,fun q hs=>A q (hS c d q rfl hs),fun i hi=>?_⟩;obtain ⟨e,h7,h8,h9,x0⟩:=h5 i hi;exact ⟨e,h7,h8,h9,x0.mono t⟩
 | mpp Φ =>
   cases l with
   | virg=>exact h
   | base L=>exact h
   | blk c d =>obtain ⟨es,y,hΦ,O,X,h2,K,A,h5⟩:=h;refine ⟨es,y,hΦ,O,(hb c d rfl).trans X,h2,K,fun q hs=>A q (hS c d q rfl hs),fun i hi=>?_⟩;obtain ⟨e,h7,h8,h9,x0⟩:=h5 i hi;exact ⟨e,h7,h8,h9,x0.mono t⟩
 | it m x4 seen x1 =>
   cases l with
   | virg=>exact h
   | base L=>exact h
   | blk c d =>obtain ⟨mb,X,h2,K,A⟩:=h;exact ⟨mb,(hb c d rfl).trans X,t.ρ _ _ h2,K,fun q hs=>A q (hS c d q rfl hs)⟩
 | lp s mk =>
   cases l with
   | virg=>exact h
   | base L=>exact h
   | blk c d =>obtain ⟨L,h0,X,K,A⟩:=h;exact ⟨L,t.ρ _ _ h0,(hb c d rfl).trans X,K,fun q hs=>A q (hS c d q rfl hs)⟩
theorem HeapOK.lt {K g w} (h:HeapOK K g w) {id o c d} (ho:K id=some o) (hl:o.live=true) (hr:g.ρ id=some (.blk c d)):c<w.heap.size:=by
 obtain ⟨l,X,q⟩:=h.rep id o ho;rw [hr] at X;cases X;cases o with
 | gone=>cases hl
 | cells cs=>obtain ⟨A,ty,fz,y,_⟩:=q;exact (qms.1 y).1
 | mp es O=>obtain ⟨e,y,_⟩:=q;exact (qms.1 y).1
 | mpp=>obtain ⟨_,_,_,e,y,_⟩:=q;exact (qms.1 y).1
 | it=>obtain ⟨mb,y,_⟩:=q;exact (qms.1 y).1
 | lp=>obtain ⟨L,_,y,_⟩:=q;exact (qms.1 y).1
theorem HeapOK.change {hp g w} (h:HeapOK hp g w) {x0:Hp} {w':World} {g':G} (T:Nat->Prop)
 (tr:Trans w g w' g')
 (O:∀ id,¬ T id->x0 id=hp id)
 (hρ:∀ id,¬ T id->g'.ρ id=g.ρ id)
 (x6:∀ id o c d,¬ T id->hp id=some o->o.live=true->g.ρ id=some (.blk c d)->w'.heap[c]?=w.heap[c]?)
 (hS:∀ id o c d,¬ T id->hp id=some o->o.live=true->g.ρ id=some (.blk c d)->∀ q,g'.S c q->g.S c q)
 (hT:∀ id,T id->∃ o l,x0 id=some o/\g'.ρ id=some l/\HRep w' g' o l)
 (x3:∀ id y o o' c d d',T id->x0 id=some o->x0 y=some o'->o.live=true->o'.live=true->g'.ρ id=some (.blk c d)->g'.ρ y=some (.blk c d')->id=y)
 (x8:∀ b q,g'.S b q->∃ v,w'.cell? ⟨b,q,none⟩=some v):HeapOK x0 g' w':=by
 refine ⟨fun id hn=>?_,fun id o A=>?_,fun id y o o' c d d' A x1 K x4 hr x2=>?_,x8,h.tab.mono tr⟩
 . by_cases X:T id
   . obtain ⟨o,l,h1,_⟩:=hT id X;rw [h1] at hn;cases hn
   rw [O id X] at hn;rw [hρ id X];exact h.dom id hn
 . by_cases X:T id
   . obtain ⟨o',l,h1,h2,h3⟩:=hT id X;rw [h1] at A;cases A;exact ⟨l,h2,h3⟩
   rw [O id X] at A;obtain ⟨l,h1,h2⟩:=h.rep id o A;refine ⟨l,(hρ id X).trans h1,?_⟩;by_cases K:o.live=true
   . exact h2.mono tr (fun c d e=>x6 id o c d X A K (e ▸ h1)) (fun c d q e=>hS id o c d X A K (e ▸ h1) q)
   cases o with
   | gone=>cases l <;> trivial
   | cells cs=>simp [HObj.live] at K
   | mp es x7=>simp [HObj.live] at K
   | mpp=>simp [HObj.live] at K
   | it=>simp [HObj.live] at K
   | lp=>simp [HObj.live] at K
 by_cases X:T id
 . exact x3 id y o o' c d d' X A x1 K x4 hr x2
 by_cases x5:T y
 . exact (x3 y id o' o c d' d x5 x1 A x4 K x2 hr).symm
 rw [O id X] at A;rw [O y x5] at x1;rw [hρ id X] at hr;rw [hρ y x5] at x2;exact h.inj id y o o' c d d' A x1 K x4 hr x2
def G.home (g:G) (id:Nat) (l:Loc):G:={ g with ρ:=fun i=>if i=id then some l else g.ρ i }
def G.pub (g:G) (p:Nat->Nat->Prop):G:={ g with S:=fun b q=>g.S b q\/p b q }
theorem Wn {w:World} {g:G} (h:∀ b q,g.S b q->∃ v,w.cell? ⟨b,q,none⟩=some v) (o:Obj):∀ b q,g.S b q->(w.alloc o).cell? ⟨b,q,none⟩=w.cell? ⟨b,q,none⟩ :=
 fun b q s=>by obtain ⟨v,u⟩:=h b q s;exact World.cell?_alloc_lt w o _ (qoi _ _ u)
theorem Trans.alloc_home {O g w} (h:HeapOK O g w) (o:Obj) {id:Nat} (X:O id=none) (l:Loc):Trans w g (w.alloc o) (g.home id l) :=
 ⟨fun _ _ x=>x,Wn h.ex o,
  fun i l' y=>by
   have:i≠id:=fun e=>by subst e;rw [h.dom i X] at y;cases y
   simp [G.home,this,y],
  fun b A ty K q=>⟨A,(qne w o b (qms.1 q).1).trans q,rfl⟩,rfl,rfl,rfl,by simp,Qs _⟩
theorem HeapOK.alloc_priv {hp g w} (h:HeapOK hp g w) {id:Nat} (hn:hp id=none) (A:Array Value) (ty:TypeId) (cs:List AV) (x4:cs.length<=A.size)
 (hr:∀ i (O:i<cs.length),∃ x,A[i]?=some x/\Rep w g false cs[i] x) :
 HeapOK (Hp.set hp id (.cells cs)) (g.home id (.blk w.heap.size 0)) (w.alloc (.cells A ty)) /\
 Upd hp g w (Hp.set hp id (.cells cs)) (g.home id (.blk w.heap.size 0)) (w.alloc (.cells A ty)):=by
 have tr:=Trans.alloc_home h (.cells A ty) hn (.blk w.heap.size 0);have x3:∀ q,¬ g.S w.heap.size q:=fun q hs=>by obtain ⟨v,hv⟩:=h.ex _ _ hs;exact absurd (qoi _ _ hv) (qny _)
 refine ⟨h.change (fun i=>i=id) tr (fun i O=>Hp.set_other _ _ O) (fun i O=>by simp [G.home,O]) (fun i o c d O K hl x1=>qne _ _ _ (h.lt K hl x1)) (fun i o c d O K hl x1 q hq=>hq) ?_ ?_ ?_,tr,?_,fun b q hs => .inl hs,fun b hb _=>qne _ _ _ hb⟩
 . rintro i rfl;refine ⟨_,.blk w.heap.size 0,Hp.set_same _ _ _,by simp [G.home],A,ty,(0,0),zk _ _,by omega,fun q _=>x3 q,fun q _ _=>by simp,fun i O=>?_⟩;obtain ⟨x,h1,h2⟩:=hr i O;exact ⟨x,by simpa using h1,h2.mono tr⟩
 . rintro i i' o o' c d d' rfl K x0 hl x2 y X;simp only [G.home] at y X;simp at y;obtain ⟨rfl,rfl⟩:=y;by_cases e:i'=i
   . exact e.symm
   rw [Hp.set_other _ _ e] at x0;simp [e] at X;exact absurd (h.lt x0 x2 X) (qny _)
 . intro b q hs;obtain ⟨v,hv⟩:=h.ex b q hs;exact ⟨v,(tr.cell b q hs).trans hv⟩
 rintro c ⟨i,o,d,K,hl,y⟩;by_cases e:i=id
 . subst e;simp [G.home] at y;exact .inr (by omega)
 rw [Hp.set_other _ _ e] at K;simp [G.home,e] at y;exact .inl ⟨i,o,d,K,hl,y⟩
theorem HeapOK.virgin {X g w} (h:HeapOK X g w) {id:Nat} (hn:X id=none) :
 HeapOK (Hp.set X id (.cells [])) (g.home id .virg) w/\Upd X g w (Hp.set X id (.cells [])) (g.home id .virg) w:=by
 have tr:Trans w g w (g.home id .virg):=⟨fun _ _ x=>x,fun _ _ _=>rfl,
  fun i l' O=>by
   have:i≠id:=fun e=>by subst e;rw [h.dom i hn] at O;cases O
   simp [G.home,this,O],
  fun b A ty fz hb=>⟨A,hb,rfl⟩,rfl,rfl,rfl,Qs _,Qs _⟩
 refine ⟨h.change (fun i=>i=id) tr (fun i O=>Hp.set_other _ _ O) (fun i O=>by simp [G.home,O]) (fun _ _ _ _ _ _ _ _=>rfl) (fun i o c d O K hl x2 q hq=>hq) ?_ ?_ h.ex,tr,?_,fun b q hs => .inl hs,fun b hb _=>rfl⟩
 . rintro i rfl;exact ⟨_,.virg,Hp.set_same _ _ _,by simp [G.home],rfl⟩
 . rintro i i' o o' c d d' rfl K x1 hl x0 y x3;simp [G.home] at y
 rintro c ⟨i,o,d,K,hl,y⟩;by_cases e:i=id
 . subst e;simp [G.home] at y
 rw [Hp.set_other _ _ e] at K;simp [G.home,e] at y;exact .inl ⟨i,o,d,K,hl,y⟩
theorem HeapOK.alloc_pub {K g w} (h:HeapOK K g w) (A:Array Value) (ty:TypeId) :
 HeapOK K (g.pub fun b q=>b=w.heap.size/\q<A.size) (w.alloc (.cells A ty)) /\
 Upd K g w K (g.pub fun b q=>b=w.heap.size/\q<A.size) (w.alloc (.cells A ty)):=by
 have tr:Trans w g (w.alloc (.cells A ty)) (g.pub fun b q=>b=w.heap.size/\q<A.size) :=
  ⟨fun _ _ x => .inl x,Wn h.ex _,fun i l' hi=>hi,fun b O ty fz X=>⟨O,(qne w _ b (qms.1 X).1).trans X,rfl⟩,rfl,rfl,rfl,by simp,Qs _⟩
 refine ⟨h.change (fun _=>False) tr (fun _ _=>rfl) (fun _ _=>rfl) (fun i o c d hi ho hl y=>qne _ _ _ (h.lt ho hl y)) (fun i o c d hi ho hl y q e=>?_) (fun _ h=>h.elim) (fun _ _ _ _ _ _ _ h=>h.elim) ?_,tr,fun c hc => .inl hc,?_,fun b X _=>qne _ _ _ X⟩
 . rcases e with e | ⟨rfl,_⟩
   . exact e
   exact absurd (h.lt ho hl y) (qny _)
 . rintro b q (hs | ⟨rfl,e⟩)
   . obtain ⟨v,hv⟩:=h.ex b q hs;exact ⟨v,(tr.cell b q (hs)).trans hv⟩
   exact ⟨A[q],by simp [e]⟩
 rintro b q (hs | ⟨rfl,e⟩)
 . exact .inl hs
 exact .inr (.inr (Qs _))
def World.setArr (w:World) (c:Nat) (A:Array Value) (ty:TypeId) (fz:Nat×Nat):World:={ w with heap:=w.heap.setIfInBounds c (.cells A ty fz) }
theorem jt (w:World) {c:Nat} (a t f) (h:b≠c):(World.setArr w c a t f).heap[b]?=w.heap[b]?:=by simp only [World.setArr];rw [qmK (qmG h)]
theorem QP (w:World) {c:Nat} (a ty fz) (h:c<w.heap.size):(World.setArr w c a ty fz).heap[c]?=some (.cells a ty fz):=by simp [World.setArr,h]
theorem HeapOK.rewrite {hp g w} (h:HeapOK hp g w) {id:Nat} {cs:List AV} {c:Nat} {A:Array Value} {ty fz} (ho:hp id=some (.cells cs)) (hρ:g.ρ id=some (.blk c d))
 (hb:w.heap[c]?=some (.cells A ty fz)) {arr':Array Value} (x9:arr'.size=A.size) {cs':List AV} (x2:∀ q,q<d->arr'[q]?=A[q]?)
 (hr:d+cs'.length<=arr'.size/\∀ i (hi:i<cs'.length),∃ x,arr'[d+i]?=some x/\Rep w g false cs'[i] x) :
 HeapOK (Hp.set hp id (.cells cs')) g (World.setArr w c arr' ty fz)/\Upd hp g w (Hp.set hp id (.cells cs')) g (World.setArr w c arr' ty fz):=by
 obtain ⟨l,h1,h2⟩:=h.rep id _ ho;rw [hρ] at h1;cases h1;obtain ⟨y1,y5,y2,g1,g2,g3,g4,g5⟩:=h2;rw [hb] at g1;cases g1;have O:c<w.heap.size:=(qms.1 hb).1
 have y:∀ b q,g.S b q->(World.setArr w c arr' ty fz).cell? ⟨b,q,none⟩=w.cell? ⟨b,q,none⟩:=fun b q hs=>by
  by_cases e:b=c
  . subst e
    have hq:q<d:=by
     rcases qmV q d with h' | h'
     . exact h'
     exact absurd hs (g3 q h')
    simp only [World.cell?,QP w arr' ty fz O,hb];simp [x2 q hq]
  exact World.cell?_of_block (jt w arr' ty fz e)
 have tr:Trans w g (World.setArr w c arr' ty fz) g:=⟨fun _ _ x=>x,y,fun _ _ x=>x,fun b a1 t1 f1 x0=>by
  by_cases e:b=c
  . subst e;rw [hb] at x0;cases x0;exact ⟨arr',QP w arr' ty fz O,x9⟩
  exact ⟨a1,(jt w arr' ty fz e).trans x0,rfl⟩,rfl,rfl,rfl,by simp [World.setArr],Qs _⟩
 refine ⟨h.change (fun i=>i=id) tr (fun i hi=>Hp.set_other _ _ hi) (fun _ _=>rfl) (fun i o c' d' hi x7 hl x8=>jt _ _ _ _ (fun e=>hi (h.inj i id o _ c d' d x7 ho hl rfl (e ▸ x8) hρ))) (fun _ _ _ _ _ _ _ _ _ hq=>hq) ?_ ?_ ?_,tr,?_,fun b q hs => .inl hs,fun b y3 x6=>jt _ _ _ _ (fun e=>x6 (e ▸ ⟨id,_,d,ho,rfl,hρ⟩))⟩
 . rintro i rfl;refine ⟨_,_,Hp.set_same _ _ _,hρ,arr',ty,fz,QP w arr' ty fz O,hr.1,g3,fun q hq y4=>?_,fun j hj=>?_⟩
   . have:=g4 q hq (by omega);simp only [World.frozen?,QP w arr' ty fz O,hb] at this ⊢;exact this
   obtain ⟨x,hx,y0⟩:=hr.2 j hj;exact ⟨x,hx,y0.mono tr⟩
 . rintro i i' o o' c1 d1 x4 rfl x1 K hl x5 X x3;by_cases e:i'=i
   . exact e.symm
   rw [Hp.set_other _ _ e] at K;exact h.inj i i' _ o' c1 d1 x4 ho K rfl x5 X x3
 . intro b q hs;obtain ⟨v,hv⟩:=h.ex b q hs;exact ⟨v,(y b q hs).trans hv⟩
 rintro c1 ⟨i,o,d1,x1,hl,X⟩;by_cases e:i=id
 . subst e;exact .inl ⟨i,_,d1,ho,rfl,X⟩
 rw [Hp.set_other _ _ e] at x1;exact .inl ⟨i,o,d1,x1,hl,X⟩
theorem HeapOK.rename {hp g w} (h:HeapOK hp g w) {id new:Nat} {cs:List AV} {c off:Nat} (ho:hp id=some (.cells cs)) (hρ:g.ρ id=some (.blk c d)) (hn:hp new=none) (x5:off<=cs.length) :
 HeapOK (Hp.set (Hp.set hp id .gone) new (.cells (cs.drop off))) (g.home new (.blk c (d+off))) w /\
 Upd hp g w (Hp.set (Hp.set hp id .gone) new (.cells (cs.drop off))) (g.home new (.blk c (d+off))) w:=by
 have x1:id≠new:=fun e=>by subst e;rw [ho] at hn;cases hn
 obtain ⟨l,h1,h2⟩:=h.rep id _ ho;rw [hρ] at h1;cases h1;obtain ⟨x0,ty,fz,g1,g2,g3,g4,g5⟩:=h2
 have tr:Trans w g w (g.home new (.blk c (d+off))):=⟨fun _ _ x=>x,fun _ _ _=>rfl,
  fun i l' K=>by
   have:i≠new:=fun e=>by subst e;rw [h.dom i hn] at K;cases K
   simp [G.home,this,K],
  fun b x0 ty fz hb=>⟨x0,hb,rfl⟩,rfl,rfl,rfl,Qs _,Qs _⟩
 refine ⟨h.change (fun i=>i=id\/i=new) tr (fun i K=>?_) (fun i K=>?_) (fun _ _ _ _ _ _ _ _=>rfl) (fun i o c d K ho hl x6 q hq=>hq) ?_ ?_ h.ex,tr,?_,fun b q hs => .inl hs,fun b hb _=>rfl⟩
 . rw [Hp.set_other _ _ (fun e=>K (.inr e)),Hp.set_other _ _ (fun e=>K (.inl e))]
 . simp [G.home,show i≠new from fun e=>K (.inr e)]
 . rintro i (rfl | rfl)
   . exact ⟨.gone,.blk c d,by rw [Hp.set_other _ _ x1,Hp.set_same],by simp [G.home,x1,hρ],trivial⟩
   refine ⟨_,.blk c (d+off),Hp.set_same _ _ _,by simp [G.home],x0,ty,fz,g1,by simp;omega,fun q hq=>g3 q (by omega),fun q hq=>g4 q (by omega),fun j hj=>?_⟩;simp at hj;obtain ⟨x,hx,x4⟩:=g5 (off+j) (by omega);refine ⟨x,by rw [qmJ];exact hx,?_⟩;rw [qor];exact x4.mono tr
 . rintro i i' o o' c1 d1 x3 (rfl | rfl) y O hl x2 X A
   . rw [Hp.set_other _ _ x1,Hp.set_same] at y;cases y;cases hl
   by_cases e:i'=i
   . exact e.symm
   rw [Hp.set_other _ _ e] at O;by_cases e2:i'=id
   . subst e2;rw [Hp.set_same] at O;cases O;cases x2
   rw [Hp.set_other _ _ e2] at O;simp [G.home] at X;obtain ⟨rfl,rfl⟩:=X;simp [G.home,e] at A;exact absurd (h.inj i' id o' _ c x3 d O ho x2 rfl A hρ) e2
 rintro c1 ⟨i,o,d1,y,hl,X⟩;by_cases e:i=new
 . subst e;simp [G.home] at X;obtain ⟨rfl,rfl⟩:=X;exact .inl ⟨id,_,d,ho,rfl,hρ⟩
 rw [Hp.set_other _ _ e] at y;by_cases e2:i=id
 . subst e2;rw [Hp.set_same] at y;cases y;cases hl
 rw [Hp.set_other _ _ e2] at y;simp [G.home,e] at X;exact .inl ⟨i,o,d1,y,hl,X⟩
theorem HeapOK.drop {O g w} (h:HeapOK O g w) {id:Nat} {o:HObj} (ho:O id=some o) :
 HeapOK (Hp.set O id .gone) g w/\Upd O g w (Hp.set O id .gone) g w:=by
 refine ⟨h.change (fun i=>i=id) (.refl w g) (fun i hi=>Hp.set_other _ _ hi) (fun _ _=>rfl) (fun _ _ _ _ _ _ _ _=>rfl) (fun _ _ _ _ _ _ _ _ _ hq=>hq) ?_ ?_ h.ex,.refl w g,?_,fun b q hs => .inl hs,fun b hb _=>rfl⟩
 . rintro i rfl;obtain ⟨l,h1,_⟩:=h.rep i o ho;exact ⟨.gone,l,Hp.set_same _ _ _,h1,by cases l <;> trivial⟩
 . rintro i i' o1 o' c1 A x2 rfl y x0 K x3 X x1;rw [Hp.set_same] at y;cases y;cases K
 rintro c1 ⟨i,o1,A,y,K,X⟩;by_cases e:i=id
 . subst e;rw [Hp.set_same] at y;cases y;cases K
 rw [Hp.set_other _ _ e] at y;exact .inl ⟨i,o1,A,y,K,X⟩
theorem Trans.drew {w g}:Trans w g w.drew g:=⟨fun _ _ h=>h,fun _ _ _=>rfl,fun _ _ h=>h,fun _ A _ _ h=>⟨A,h,rfl⟩,rfl,rfl,rfl,Qs _,Qs _⟩
theorem HeapOK.drew {y g w} (h:HeapOK y g w):HeapOK y g w.drew/\Upd y g w y g w.drew:=by refine ⟨h.change (fun _=>False) .drew (fun _ _=>rfl) (fun _ _=>rfl) (fun _ _ _ _ _ _ _ _=>rfl) (fun _ _ _ _ _ _ _ _ _ e=>e) (fun _ h=>h.elim) (fun _ _ _ _ _ _ _ h=>h.elim) h.ex,.drew,fun c q => .inl q,fun _ _ O => .inl O,fun _ _ _=>rfl⟩
theorem za (b o i:Nat):(⟨b,o,none⟩:Addr).add i=⟨b,o+i,none⟩:=by unfold Addr.add;split <;> simp_all
def Row (w:World) (g:G) (b o:Nat) (c:List AV):Prop:=∀ i (h:i<c.length),∃ x,w.cell? ⟨b,o+i,none⟩=some x/\Rep w g false c[i] x
theorem WV {w g p c O v} (h:Rep w g p (.ptr c O) v):∃ b o,v = .pointer (some ⟨b,o+O,none⟩)/\Row w g b o c:=by
 cases h with
 | ptr _ _ _ b o V j r=>exact ⟨b,o,rfl,fun i u=>⟨V i,(j i u).2,(r i u).of⟩⟩
theorem WW {w g y p id O v C} (h:Rep w g p (.ref id O) v) (k:HeapOK y g w) (u:y id=some (.cells C)) :
 ∃ b o,v = .pointer (some ⟨b,o+O,none⟩)/\Row w g b o C/\g.ρ id=some (.blk b o):=by
 cases h with
 | ref _ _ c d z =>obtain ⟨l,j,m⟩:=k.rep id _ u;rw [z] at j;cases j;obtain ⟨a,T,e,q,n,L,M,s⟩:=m;refine ⟨c,d,rfl,fun i f=>?_,z⟩;obtain ⟨x,t,r⟩:=s i f;exact ⟨x,by simp [World.cell?,q,t],r⟩
def qW (P:Program) (t:TypeId):Option (Bool×Nat) :=
 match P.underlying t,P.info? t with
 | some d,some i=>some ((match d with | .struct _ | .array _ _=>true | _=>false),i.size)
 | _,_=>none
theorem JX {P:Program} {t a s} (h:qW P t=some (a,s)) (w:World):(isAgg t).run P w = .ok a w:=by
 unfold qW at h;cases hd:P.underlying t with
 | none=>simp [hd] at h
 | some d =>
   cases hi:P.info? t with
   | none=>simp [hd,hi] at h
   | some i =>simp [hd,hi] at h;obtain ⟨rfl,rfl⟩:=h;simp only [isAgg,qng,CC hd,qmR];cases d <;> rfl
theorem ql {P:Program} {t a s} (h:qW P t=some (a,s)) (w:World):(sizeOf t).run P w = .ok s w:=by
 unfold qW at h;cases hd:P.underlying t with
 | none=>simp [hd] at h
 | some d =>
   cases hi:P.info? t with
   | none=>simp [hd,hi] at h
   | some i =>simp [hd,hi] at h;obtain ⟨rfl,rfl⟩:=h;simp [sizeOf,typeInfo,hi]
theorem Row.agg {w g b o cs} (h:Row w g b o cs) {off sz:Nat} (O:off+sz<=cs.length) {P:Program} :
 ∃ vs:List Value,(loadCells ⟨b,o+off,none⟩ sz).run P w = .ok vs.toArray w/\Rep w g false (.agg (qJ cs off sz)) (.agg vs.toArray):=by
 refine ⟨(List.range sz).map fun j=>(w.cell? ⟨b,o+(off+j),none⟩).getD undef,qm8 w _ _ (fun j=>(w.cell? ⟨b,o+(off+j),none⟩).getD undef) (fun j K=>?_),.agg _ _ _ ?_ (fun i e=>?_)⟩
 . obtain ⟨x,q,_⟩:=h (off+j) (by omega);rw [za,qmJ];simp [q]
 . simp [qJ];omega
 have y:i<sz:=by simp [qJ] at e;omega
 obtain ⟨x,q,X⟩:=h (off+i) (by omega);simp only [qJ,qos,qor];simpa [y,q] using X
theorem Jl {P:Program} {t a s} (j:qW P t=some (a,s)) {w g b o c O r} (h:Row w g b o c)
 (z:match a with | true=>O+s<=c.length/\r = .agg (qJ c O s) | false=>∃ y,c[O]?=some y/\r=y) :
 ∃ v,(loadVar t ⟨b,o+O,none⟩).run P w = .ok v w/\Rep w g false r v:=by
 cases a with
 | true =>obtain ⟨l,rfl⟩:=z;obtain ⟨V,q,m⟩:=h.agg l (P:=P);exact ⟨_,by simp [loadVar,JX j,ql j,q],m⟩
 | false =>obtain ⟨y,p,rfl⟩:=z;obtain ⟨u,rfl⟩:=qml.1 p;obtain ⟨x,d,f⟩:=h O u;exact ⟨x,by simp [loadVar,JX j,d],f⟩
theorem Hv {w g p x v} (h:Rep w g p x v) (c:x.isCell=true):v.oneCell'=true:=by
 cases h with
 | v=>cases v <;> simp_all [AV.isCell,Value.oneCell']
 | any=>cases c
 | agg=>cases c
 | tup=>cases c
 | _=>rfl
theorem Ks {w g p x v} (h:Rep w g p x v) (c:(x.cells.all AV.isCell)=true) :
 v.cells.size=x.cells.length/\(∀ u∈v.cells.toList,u.oneCell'=true)/\∀ i (q:i<x.cells.length),∃ u,v.cells[i]?=some u/\Rep w g p x.cells[i] u:=by
 have one:∀ {y:AV} {u:Value},y.cells=[y]->u.cells=#[u]->Rep w g p y u->(y.cells.all AV.isCell)=true ->
  u.cells.size=y.cells.length/\(∀ z∈u.cells.toList,z.oneCell'=true)/\∀ i (q:i<y.cells.length),∃ z,u.cells[i]?=some z/\Rep w g p y.cells[i] z:=fun {y u} j o r c=>by
  rw [j] at c;simp at c;refine ⟨by simp [j,o],by simp [o];exact Hv r c,fun i q=>?_⟩;simp [j] at q;subst q;exact ⟨u,by simp [o],by simp [j];exact r⟩
 cases h with
 | agg _ C vs l r =>change (C.all AV.isCell)=true at c;show vs.toArray.size=C.length/\(∀ u∈vs.toArray.toList,u.oneCell'=true)/\∀ i (q:i<C.length),∃ u,vs.toArray[i]?=some u/\Rep w g p C[i] u;refine ⟨by simp [l],fun u m=>?_,fun i q=>⟨vs.getD i undef,by simp [List.getD,Wd (show i<vs.length by omega)],r i q⟩⟩;simp at m;obtain ⟨i,q,rfl⟩:=qn6.1 m;have:=r i (by omega);rw [qmp,Wd q] at this;exact Hv this (LL.1 c _ (qmr _))
 | v =>
   cases v with
   | agg C=>simp [AV.cells,AV.isCell] at c
   | tuple C=>simp [AV.cells,AV.isCell] at c
   | _=>exact one rfl rfl (.v _ _) c
 | any=>simp [AV.cells,AV.isCell] at c
 | tup=>simp [AV.cells,AV.isCell] at c
 | sl _ _ _ _ _ _ vs j o s b=>exact one rfl rfl (.sl _ _ _ _ _ _ vs j o s b) c
 | ptr _ _ _ _ _ vs j o=>exact one rfl rfl (.ptr _ _ _ _ _ vs j o) c
 | ref _ _ _ _ j=>exact one rfl rfl (.ref _ _ _ _ j) c
 | ms _ _ _ _ _ _ _ _ _ _ j o s b=>exact one rfl rfl (.ms _ _ _ _ _ _ _ _ _ _ j o s b) c
 | msz _ _ _ _ _ j=>exact one rfl rfl (.msz _ _ _ _ _ j) c
 | fn _ _ _ _ _ _ j o s b=>exact one rfl rfl (.fn _ _ _ _ _ _ j o s b) c
 | mp _ _ _ j=>exact one rfl rfl (.mp _ _ _ j) c
 | mc _ _ _ _ _ _ _ _ _ _ j o s b=>exact one rfl rfl (.mc _ _ _ _ _ _ _ _ _ _ j o s b) c
 | mcz _ _ _ _ _ j=>exact one rfl rfl (.mcz _ _ _ _ _ j) c
 | yl _ _ j=>exact one rfl rfl (.yl _ _ j) c
def QE (a:Array Value) (k:Nat) (vs:List Value):Array Value:=(a.toList.take k++vs++a.toList.drop (k+vs.length)).toArray
theorem jv (a:Array Value) (k:Nat) (vs:List Value) (h:k+vs.length<=a.size):(QE a k vs).size=a.size:=by simp [QE];omega
theorem zD (a:Array Value) (k:Nat) (vs:List Value) (h:k+vs.length<=a.size) (i:Nat) :
 (QE a k vs)[i]?=if i<k then a[i]? else if i<k+vs.length then vs[i - k]? else a[i]?:=by
 simp only [QE,qo5];have j:(List.take k a.toList).length=k:=by simp;omega
 by_cases u:i<k
 . rw [if_pos u,qmo,qmw (by omega),qnQ u];simp
 rw [if_neg u,qmo,qmy (by omega),j];by_cases v:i<k+vs.length
 . rw [if_pos v,qmw (by omega)]
 rw [if_neg v,qmy (by omega),qol];rw [show k+vs.length+(i - k - vs.length)=i by omega];simp
theorem EI (w:World) (c:Nat) (A a t f):World.setArr (World.setArr w c A t f) c a t f=World.setArr w c a t f:=by simp [World.setArr]
theorem NP (w:World) {c:Nat} {a t f} (b:w.heap[c]?=some (.cells a t f)) (i:Nat) (v:Value):w.setCell ⟨c,i,none⟩ v=World.setArr w c (a.setIfInBounds i v) t f:=by
 have h:c<w.heap.size:=(qms.1 b).1;simp only [World.setCell,World.setArr];congr 1;apply qnW;intro j;rw [qo2];by_cases e:c=j
 . subst e;rw [if_pos rfl,b];simp [h]
 rw [if_neg e,qmK e]
theorem Zt {P:Program} {c:Nat} {ty fz} (o:Nat):∀ (vs:List Value) (i:Nat) (a:Array Value) (w:World),w.heap[c]?=some (.cells a ty fz)->o+i+vs.length<=a.size ->
 (∀ q,o+i<=q->q<o+i+vs.length->w.frozen? ⟨c,q,none⟩=false)->(∀ v∈vs,v.oneCell'=true) ->
 (storeCells ⟨c,o,none⟩ vs i).run P w = .ok () (World.setArr w c (QE a (o+i) vs) ty fz)
 | [],i,a,w,h,_,_,_=>by
   have t:c<w.heap.size:=(qms.1 h).1
   have:World.setArr w c (QE a (o+i) []) ty fz=w:=by
    simp only [World.setArr,QE,qm3,List.length_nil,qnS,qnD]
    have:w.heap.setIfInBounds c (.cells a.toList.toArray ty fz)=w.heap:=by
     apply qnW;intro j;by_cases e:j=c
     . subst e;rw [h];simp [t]
     rw [qmK (qmG e)]
    rw [this]
   simp only [storeCells];rw [this];rfl
 | v::r,i,a,w,h,k,m,z=>by
   simp at k;have d:o+i<a.size:=by omega
   have l:w.cell? ⟨c,o+i,none⟩=some a[o+i]:=by simp [World.cell?,h,d]
   have s:(store ((⟨c,o,none⟩:Addr).add i) v).run P w = .ok () (World.setArr w c (a.setIfInBounds (o+i) v) ty fz):=by rw [za,run_store P w _ v _ (z v (by simp)),l];simp only [m (o+i) (Qs _) (by simp),qmM,qnc];rw [NP w h]
   have t:c<w.heap.size:=(qms.1 h).1;have b:=QP w (a.setIfInBounds (o+i) v) ty fz t;have f:∀ q,(World.setArr w c (a.setIfInBounds (o+i) v) ty fz).frozen? ⟨c,q,none⟩=w.frozen? ⟨c,q,none⟩:=fun q=>by simp [World.frozen?,b,h]
   have L:=Zt (P:=P) o r (i+1) _ _ b (by simp;omega) (fun q M n=>by rw [f];exact m q (by omega) (by simp;omega)) (fun u x=>z u (by simp [x]));simp only [storeCells,qng,s,qmR,L,EI];congr 2;apply qnW;intro j;rw [zD _ _ _ (by simp;omega),zD _ _ _ (by simp;omega)];by_cases y:j<o+i
   . rw [if_pos (by omega),if_pos y,qmK (by omega)]
   rw [if_neg y];by_cases p:j=o+i
   . subst p;rw [if_pos (by omega),if_pos (by simp)];simp [d]
   rw [if_neg (by omega)];by_cases g:j<o+i+(r.length+1)
   . rw [if_pos (by omega),if_pos (by simpa using g)];rw [show j - (o+i)=(j - (o+(i+1)))+1 by omega];simp
   rw [if_neg (by omega),if_neg (by simpa using g),qmK (by omega)]
theorem HeapOK.store {e g w} (h:HeapOK e g w) {id:Nat} {cs:List AV} {c:Nat} (ho:e id=some (.cells cs)) (hρ:g.ρ id=some (.blk c d)) (off:Nat) (vs:List Value) (X:List AV)
 (x1:vs.length=X.length) (x2:off+X.length<=cs.length) (h1:∀ v∈vs,v.oneCell'=true) (hr:∀ i (hi:i<X.length),∃ u,vs[i]?=some u/\Rep w g false X[i] u) {P:Program} :
 ∃ w',(storeCells ⟨c,d+off,none⟩ vs).run P w = .ok () w'/\HeapOK (Hp.set e id (.cells (splice cs off X))) g w'/\Upd e g w (Hp.set e id (.cells (splice cs off X))) g w':=by
 obtain ⟨l,e1,e2⟩:=h.rep id _ ho;rw [hρ] at e1;cases e1;obtain ⟨A,ty,fz,g1,g2,g3,g4,g5⟩:=e2;refine ⟨World.setArr w c (QE A (d+off) vs) ty fz,Zt (d+off) vs 0 A w g1 (by omega) (fun q hq x3=>g4 q (by omega) (by omega)) h1,?_⟩;have K:=jv A (d+off) vs (by omega);have O:(splice cs off X).length=cs.length:=by simp [splice];omega
 refine h.rewrite ho hρ g1 K (fun q hq=>by rw [zD _ _ _ (by omega),if_pos (by omega)]) ⟨by omega,fun i hi=>?_⟩;rw [zD _ _ _ (by omega)];have hk:(cs.take off).length=off:=by simp;omega
 by_cases a1:i<off
 . rw [if_pos (by omega)];obtain ⟨x,hx,y⟩:=g5 i (by omega);refine ⟨x,hx,?_⟩;have:(splice cs off X)[i]=cs[i]'(by omega):=by simp only [splice,qmo];rw [qmz (by omega)];simp
   rw [this];exact y
 rw [if_neg (by omega)];by_cases a2:i<off+X.length
 . rw [if_pos (by omega)];obtain ⟨u,hu,x0⟩:=hr (i - off) (by omega);refine ⟨u,by rw [show d+i - (d+off)=i - off by omega];exact hu,?_⟩;have:(splice cs off X)[i]=X[i - off]'(by omega):=by simp only [splice,qmo];rw [qmx (by omega),qmz (by omega)];simp only [hk]
   rw [this];exact x0
 rw [if_neg (by omega)];obtain ⟨x,hx,y⟩:=g5 i (by omega);refine ⟨x,hx,?_⟩;have:(splice cs off X)[i]=cs[i]'(by omega):=by simp only [splice,qmo];rw [qmx (by omega),qmx (by omega),qor];congr 1;simp only [hk];omega
 rw [this];exact y
def opd:Operand->Option Opd
 | .tmp t=>some (.t t)
 | .const v=>some (.k (AV.ofValue v))
 | .func f=>some (.k (.fn (.func f) [] []))
 | .global _=>none
def FrOK (w:World) (g:G) (F:Nat->AV) (a:Act):Prop:=∀ t,Rep w g false (F t) (a.tmps.getD t undef)
theorem jU (w g p) (c:Value):Rep w g p (AV.ofCell c) c:=by
 unfold AV.ofCell;split
 . exact .sl _ _ _ _ _ _ (fun _=>undef) (Qs _) (fun _=>rfl) (fun i h=>by simp at h) (fun i h=>by simp at h)
 exact .v _ _
theorem Qp (w g p) (v:Value):Rep w g p (AV.ofValue v) v:=by
 unfold AV.ofValue;split
 . rename_i c;have:=Rep.agg (w:=w) (g:=g) p (c.toList.map AV.ofCell) c.toList (by simp) (fun i h=>by simp at h;simp [List.getD,h];exact jU w g p _);simpa using this
 exact jU w g p _
theorem qr {w g F} {a:Act} (u:FrOK w g F a) {y:Opd} (h:opd x=some y):Rep w g false (evF F y) (a.eval x):=by
 cases x with
 | tmp t=>simp [opd] at h;subst h;exact u t
 | const v=>simp [opd] at h;subst h;exact Qp w g false v
 | func f =>simp [opd] at h;subst h;have:=Rep.fn (w:=w) (g:=g) false (.func f) [] [] [] [] rfl rfl (fun i h=>by simp at h) (fun i h=>by simp at h);exact this
 | global n=>simp [opd] at h
def Post (h:Hp) (g:G) (w:World) (r:AV) (s:List (Nat×HObj)) (v:Value) (w':World):Prop :=
 ∃ u,Rep w' u false r v/\HeapOK (Hp.write h s) u w'/\Upd h g w (Hp.write h s) u w'
theorem Post.nil {q g w r v} (y:HeapOK q g w) (h:Rep w g false r v):Post q g w r [] v w:=⟨g,h,y,.refl _ _ _⟩
def VRun (P:Program) (o:Oper) (a:Act) (w:World) (p:Value->World->Prop):Prop:=∃ v w',(execOp a.eval o).run P w = .ok (.value v) w'/\p v w'
theorem PN {o a b z} (h:jI o a b=some z) (t:TypeId) (p q:Operand) (w:World):(eqGuard o t p q a b).run P w = .ok () w:=by
 cases a <;> cases b <;> first
  | (exfalso;revert h;cases o <;> simp [jI];done)
  | (unfold eqGuard;cases o <;> rfl)
theorem Ce {o a b z} (h:jI o a b=some z) (t:TypeId) (w:World):(binOp o t a b).run P w = .ok z w:=by
 cases a with
 | int k x =>
   cases b with
   | int K y =>
     cases o <;> simp only [jI] at h <;> (try split at h) <;> simp only [xl,reduceCtorEq] at h <;> (try subst h) <;> (try (rename_i u;try (obtain ⟨u,v⟩:=u);try subst u)) <;>
      simp_all [binOp,Op.intArith,Op.intDiv,Op.intBits,Op.intCmp,Op.shift] <;> (intro l;omega)
   | _=>cases o <;> simp [jI] at h
 | string x =>
   cases b with
   | string y =>
     cases o <;> simp only [jI] at h <;> (try split at h) <;> simp only [xl,reduceCtorEq] at h <;> (try subst h) <;> simp [binOp,Op.stringOp]
     rename_i s;omega
   | _=>cases o <;> simp [jI] at h
 | _=>cases o <;> simp [jI] at h
theorem Cf {o a z} (h:unV o a=some z) (w:World):(Op.unary o a).run P w = .ok z w:=by cases o <;> cases a <;> simp [unV] at h <;> subst h <;> simp [Op.unary,Op.intArith]
theorem zZ {w g p x v} (h:Rep w g p (.v x) v):v=x:=by cases h;rfl
theorem Tj:∀ {c:List AV} {l:List Value},lO c=some l->l.length=c.length/\∀ i (h:i<c.length) (v:i<l.length),c[i] = .v l[i]
 | [],l,h=>by simp [lO] at h;subst h;simp
 | .v x::r,l,h=>by
   simp only [lO,RL] at h;obtain ⟨y,v,rfl⟩:=h;obtain ⟨L,z⟩:=Tj v;refine ⟨by simp [L],fun i j u=>?_⟩;cases i with
   | zero=>rfl
   | succ i=>exact z i (by simpa using j) (by simpa using u)
 | .sl .. :: _,l,h=>by cases h
 | .agg .. :: _,l,h=>by cases h
 | .tup .. :: _,l,h=>by cases h
 | .ptr .. :: _,l,h=>by cases h
 | .ref .. :: _,l,h=>by cases h
 | .ms .. :: _,l,h=>by cases h
 | .fn .. :: _,l,h=>by cases h
 | .mp .. :: _,l,h=>by cases h
 | .mc .. :: _,l,h=>by cases h
 | .yl .. :: _,l,h=>by cases h
 | .any::_,l,h=>by cases h
theorem PL {w g p x v a} (u:x.val=some a) (h:Rep w g p x v):v=a:=by
 cases h with
 | v=>cases u;rfl
 | agg _ c V o r =>simp only [AV.val,RL] at u;obtain ⟨l,z,rfl⟩:=u;obtain ⟨q,L⟩:=Tj z;congr 1;congr 1;refine qm4 (by omega) fun i y j=>?_;have:=r i (by omega);rw [L i (by omega) j] at this;have:=zZ this;simpa [y] using this
 | any=>cases u
 | sl=>cases u
 | tup=>cases u
 | ptr=>cases u
 | ref=>cases u
 | ms=>cases u
 | msz=>cases u
 | fn=>cases u
 | mp=>cases u
 | mc=>cases u
 | mcz=>cases u
 | yl=>cases u
theorem GY {w g p id o n c sz v} (h:Rep w g p (.mc id o n c sz) v):Rep w g false (.ms id o n sz) v:=by
 cases h with
 | mc _ _ _ _ _ b d a t f u j z y=>exact .ms _ _ _ _ _ _ _ _ _ _ u j z y
 | mcz _ _ _ _ _ u=>exact .msz _ _ _ _ _ u
section
variable {P:Program} {o:Oper} {a:Act} {w:World} {g:G} {hp:Hp} {F:Nat->AV} {new:Nat} {r:AV} {ws:List (Nat×HObj)}
theorem na {y:Opd} {d} (h:o.op = .move x\/o.op = .assign x) (v:opd x=some y) (u:FrOK w g F a) (k:HeapOK hp g w) (s:(AOp.mv d y).sem P (evF F) hp new r ws) :
 VRun P o a w (Post hp g w r ws):=by
 obtain ⟨rfl,rfl⟩:=s;refine ⟨a.eval x,w,?_,.nil k (qr u v)⟩;rcases h with h | h <;> simp [execOp,h]
theorem xO {v X:Operand} {y Y j:Opd} {d} (b:o.op = .pick v x X) (z:opd v=some y) (q:opd x=some Y) (s:opd X=some j) (u:FrOK w g F a) (k:HeapOK hp g w)
 (h:(AOp.pick d y Y j).sem P (evF F) hp new r ws):VRun P o a w (Post hp g w r ws):=by
 have E:=qr u z;simp only [AOp.sem] at h;split at h
 . rename_i t m;obtain ⟨rfl,rfl⟩:=h;rw [m] at E;have e:=zZ E;refine ⟨if t then a.eval x else a.eval X,w,by simp [execOp,b,e,asBool],.nil k ?_⟩
   cases t
   . exact qr u s
   exact qr u q
 exact h.elim
theorem CD {O T x y t} {Y m:Opd} {d} (p:o.op = .binOp O T x y t) (f:opd x=some Y) (l:opd y=some m) (s:FrOK w g F a) (k:HeapOK hp g w)
 (h:(AOp.bin d O Y m).sem P (evF F) hp new r ws):VRun P o a w (Post hp g w r ws):=by
 have j:=qr s f;have q:=qr s l;simp only [AOp.sem] at h;split at h
 . rename_i u v c n;obtain ⟨z,b,rfl,rfl⟩:=h;rw [c] at j;rw [n] at q;have e:=zZ j;have E:=zZ q;exact ⟨z,w,by simp [execOp,p,e,E,PN b,Ce b],.nil k (.v _ _)⟩
 exact h.elim
theorem xJ {O T x y t} {Y q:Opd} {d} (p:o.op = .binOp O T x y t) (m:opd x=some Y) (f:opd y=some q) (j:FrOK w g F a) (h:HeapOK hp g w)
 (c:(AOp.bing d O T Y q).sem P (evF F) hp new r ws):VRun P o a w (Post hp g w r ws):=by
 have s:=qr j m;have b:=qr j f;obtain ⟨u,v,z,k,n,i,l,rfl,rfl⟩:=c;have e:=PL k s;have E:=PL n b;exact ⟨z,w,by simp [execOp,p,e,E,i,l],.nil h (.v _ _)⟩
theorem qah {O t x} {y:Opd} {d} (q:o.op = .unOp O t x) (v:opd x=some y) (j:FrOK w g F a) (k:HeapOK hp g w)
 (h:(AOp.un d O y).sem P (evF F) hp new r ws):VRun P o a w (Post hp g w r ws):=by
 have E:=qr j v;simp only [AOp.sem] at h;split at h
 . rename_i u s;obtain ⟨z,b,rfl,rfl⟩:=h;rw [s] at E;have e:=zZ E;exact ⟨z,w,by simp [execOp,q,e,Cf b],.nil k (.v _ _)⟩
 exact h.elim
theorem tj {x} {i:Nat} {Y:Opd} {d} (q:o.op = .extract x i) (j:opd x=some Y) (z:FrOK w g F a) (k:HeapOK hp g w)
 (h:(AOp.ext d Y i).sem P (evF F) hp new r ws):VRun P o a w (Post hp g w r ws):=by
 have e:=qr z j;simp only [AOp.sem] at h;split at h
 . rename_i V b;obtain ⟨y,f,rfl,rfl⟩:=h;rw [b] at e;generalize m:a.eval x=v at e;cases e with
   | tup _ c u t s =>
     obtain ⟨l,rfl⟩:=qml.1 f;refine ⟨u.getD i undef,w,?_,.nil k (s i l)⟩;have:i<u.length:=by omega
     simp [execOp,q,m,Instr.extract,this]
 exact h.elim
theorem qaf {x} {t A l} {Y:Opd} {d} (m:o.op = .load t x) (f:qW P t=some (A,l)) (p:opd x=some Y) (n:FrOK w g F a) (k:HeapOK hp g w)
 (s:(AOp.ld d A l Y).sem P (evF F) hp new r ws):VRun P o a w (Post hp g w r ws):=by
 have e:=qr n p;simp only [AOp.sem,ZM] at s;split at s
 . rename_i c off z;obtain ⟨rfl,s⟩:=s;rw [z] at e;obtain ⟨b,q,y,h⟩:=WV e;obtain ⟨v,u,j⟩:=Jl f h s;exact ⟨v,w,by simp [execOp,m,y,Instr.loadAt,Instr.sureAddr,u],.nil k j⟩
 . rename_i id off z;split at s
   . rename_i c i;obtain ⟨rfl,s⟩:=s;rw [z] at e;obtain ⟨b,q,y,h,_⟩:=WW e k i;obtain ⟨v,u,j⟩:=Jl f h s;exact ⟨v,w,by simp [execOp,m,y,Instr.loadAt,Instr.sureAddr,u],.nil k j⟩
   exact s.elim
 exact s.elim
theorem qag {x y} {t A s} {f Y:Opd} (N:o.op = .store t x y) (R:qW P t=some (A,s)) (l:opd x=some f) (p:opd y=some Y) (z:FrOK w g F a) (k:HeapOK hp g w)
 (h:(AOp.st s f Y).sem P (evF F) hp new r ws):∃ v,(execOp a.eval o).run P w = .ok .skip v/\Post hp g w r ws undef v:=by
 have e:=qr z l;have E:=qr z p;simp only [AOp.sem,Ux] at h;split at h
 . rename_i id off j;split at h
   . rename_i D d;obtain ⟨Q,n,M,rfl,rfl⟩:=h;rw [j] at e;obtain ⟨b,q,T,m,V⟩:=WW e k d;obtain ⟨c,c2,c3⟩:=Ks E n;obtain ⟨v,X,Z,C⟩:=k.store (P:=P) d V off (a.eval y).cells.toList (evF F Y).cells (by simpa using c) (by omega) c2 (fun i L=>by obtain ⟨u,j,O⟩:=c3 i L;exact ⟨u,by simpa using j,O⟩);refine ⟨v,?_,g,.any _ _,Z,C⟩;have:(a.eval y).cells.size=s:=by omega
     simp [execOp,N,T,Instr.storeAt,Instr.sureAddr,storeVar,ql R,this,X]
   exact h.elim
 exact h.elim
theorem fX {x} {t A s} {y:Opd} {d} (j:o.op = .box t x) (f:qW P t=some (A,s)) (u:opd x=some y) (v:FrOK w g F a) (h:HeapOK hp g w) (n:hp new=none)
 (z:(AOp.box d s y).sem P (evF F) hp new r ws):VRun P o a w (Post hp g w r ws):=by
 have e:=qr v u;obtain ⟨q,c,rfl,rfl⟩:=z;obtain ⟨C,c2,c3⟩:=Ks e c;obtain ⟨b,m⟩:=h.alloc_priv n (a.eval x).cells t (evF F y).cells (by omega) c3;refine ⟨.pointer (some ⟨w.heap.size,0,none⟩),w.alloc (.cells (a.eval x).cells t),by simp [execOp,j,Instr.box,newVar,newRow],_,?_,b,m⟩;have:=Rep.ref (w:=w.alloc (.cells (a.eval x).cells t)) (g:=g.home new (.blk w.heap.size 0)) new 0 w.heap.size 0 (by simp [G.home]);simpa using this
theorem xN {x} {Y:Opd} {d} (y:o.op = .nilCheck x) (p:opd x=some Y) (k:FrOK w g F a) (h:HeapOK hp g w)
 (s:(AOp.nilc d Y).sem P (evF F) hp new r ws):VRun P o a w (Post hp g w r ws):=by
 have e:=qr k p;simp only [AOp.sem] at s;split at s
 . rename_i C off u;obtain ⟨rfl,rfl⟩:=s;rw [u] at e;obtain ⟨b,q,j,t⟩:=WV e;exact ⟨a.eval x,w,by simp [execOp,y,j],.nil h e⟩
 . rename_i id off u;obtain ⟨rfl,rfl⟩:=s;rw [u] at e;generalize j:a.eval x=v at e;cases e with
   | ref _ _ c D l=>exact ⟨_,w,by simp [execOp,y,j],.nil h (.ref _ _ c D l)⟩
 . rename_i f as L u;obtain ⟨rfl,rfl⟩:=s;rw [u] at e;generalize j:a.eval x=v at e;cases e with
   | fn _ _ _ _ X i l z n m=>exact ⟨_,w,by simp [execOp,y,j],.nil h (.fn _ _ _ _ X i l z n m)⟩
 exact s.elim
theorem qad {x} {s i} {fields:Array Field} {f:Field} {A z} {Y:Opd} {d} (L:o.op = .fieldAddr s x i) (O:P.underlying s=some (.struct fields)) (p:fields[i]?=some f)
 (N:qW P f.type=some (A,z)) (Q:z≠0) (m:opd x=some Y) (l:FrOK w g F a) (h:HeapOK hp g w)
 (u:(AOp.fa d Y f.offset).sem P (evF F) hp new r ws):VRun P o a w (Post hp g w r ws):=by
 have e:=qr l m;have k:∀ b q,a.eval x = .pointer (some ⟨b,q,none⟩)->(execOp a.eval o).run P w = .ok (.value (.pointer (some ⟨b,q+f.offset,none⟩))) w:=fun b q j=>by simp [execOp,L,j,Instr.fieldAt,CC O,p,Instr.sureAddr,fieldPlace,ql N,Q,za]
 simp only [AOp.sem] at u;split at u
 . rename_i C off y;obtain ⟨rfl,rfl⟩:=u;rw [y] at e;generalize j:a.eval x=v at e;cases e with
   | ptr _ _ _ b q V t M =>refine ⟨_,w,k _ _ j,.nil h ?_⟩;rw [qmJ];exact .ptr _ _ _ b q V t M
 . rename_i id off y;obtain ⟨rfl,rfl⟩:=u;rw [y] at e;generalize j:a.eval x=v at e;cases e with
   | ref _ _ c D n =>refine ⟨_,w,k _ _ j,.nil h ?_⟩;rw [qmJ];exact .ref _ _ c D n
 exact u.elim
theorem qae {t x i e} {R Q} {y1 y2:Opd} {d} (ho:o.op = .indexAddr t x i) (hu:P.underlying t=some (.slice e)) (ht:qW P e=some (R,Q)) (hz:Q≠0)
 (h1:opd x=some y1) (h2:opd i=some y2) (Y:FrOK w g F a) (s:HeapOK hp g w)
 (h:(AOp.ia d Q y1 y2).sem P (evF F) hp new r ws):VRun P o a w (Post hp g w r ws):=by
 have u:=qr Y h1;have p:=qr Y h2
 have K:∀ b q n C k j,a.eval x = .slice (some ⟨b,q,none⟩) n C->a.eval i = .int k j->0<=j/\j<n ->
  (execOp a.eval o).run P w = .ok (.value (.pointer (some ⟨b,q+j.toNat*Q,none⟩))) w:=fun b q n C k j l z y=>by
  simp [execOp,ho,l,z,Instr.indexAt,asIntOf,CC hu,y,ql ht,za]
 simp only [AOp.sem] at h;split at h
 . rename_i f n cs k j O z;obtain ⟨y,rfl,rfl,L⟩:=h;rw [O] at u;rw [z] at p;have E:=zZ p;generalize l:a.eval x=v at u;cases u with
   | sl _ _ _ _ ad C vs J hf Z hr =>
     have M:0<cs.length:=by
      have:0<n:=by omega
      rw [L];exact Nat.mul_pos this (by omega)
     obtain ⟨A,rfl,N,_⟩:=Z 0 M;obtain ⟨b,q,sp⟩:=A;simp at N;subst N;refine ⟨_,w,K _ _ _ _ _ _ l E y,.nil s ?_⟩;exact .ptr _ _ _ b q vs (fun m hm=>by obtain ⟨_,h3,_,h4,h5⟩:=Z m hm;cases h3;exact ⟨h4,h5⟩) hr
 . rename_i id off n X k j O z;obtain ⟨y,rfl,rfl,rfl⟩:=h;rw [O] at u;rw [z] at p;have E:=zZ p;generalize l:a.eval x=v at u;cases u with
   | ms _ _ _ _ c D C T ty fz V J hb h =>refine ⟨_,w,K _ _ _ _ _ _ l E y,.nil s ?_⟩;rw [qmJ];exact .ref _ _ c D V
   | msz=>omega
 . rename_i id off n c' X k j O z;obtain ⟨y,rfl,rfl,rfl⟩:=h;rw [O] at u;rw [z] at p;have E:=zZ p;generalize l:a.eval x=v at u;cases GY u with
   | ms _ _ _ _ c D C T ty fz V J hb h =>refine ⟨_,w,K _ _ _ _ _ _ l E y,.nil s ?_⟩;rw [qmJ];exact .ref _ _ c D V
   | msz=>omega
 exact h.elim
theorem tu {t x i e L} {A p} {Y M:Opd} {d} (T:o.op = .indexAddr t x i) (Z:P.underlying t=some (.array L e)) (X:qW P e=some (A,p))
 (N:opd x=some Y) (O:opd i=some M) (n:FrOK w g F a) (y:HeapOK hp g w)
 (s:(AOp.iaa d L p Y M).sem P (evF F) hp new r ws):VRun P o a w (Post hp g w r ws):=by
 have u:=qr n N;have f:=qr n O
 have K:∀ b q k j,a.eval x = .pointer (some ⟨b,q,none⟩)->a.eval i = .int k j->0<=j/\j<L ->
  (execOp a.eval o).run P w = .ok (.value (.pointer (some ⟨b,q+j.toNat*p,none⟩))) w:=fun b q k j m h z=>by
  simp [execOp,T,m,h,Instr.indexAt,asIntOf,CC Z,z,ql X,za,Instr.sureAddr]
 simp only [AOp.sem] at s;split at s
 . rename_i J off k j l h;obtain ⟨z,rfl,rfl⟩:=s;rw [l] at u;rw [h] at f;have E:=zZ f;generalize m:a.eval x=v at u;cases u with
   | ptr _ _ _ b q C Q V =>refine ⟨_,w,K _ _ _ _ m E z,.nil y ?_⟩;rw [qmJ];exact .ptr _ _ _ b q C Q V
 . rename_i id off k j l h;obtain ⟨z,rfl,rfl⟩:=s;rw [l] at u;rw [h] at f;have E:=zZ f;generalize m:a.eval x=v at u;cases u with
   | ref _ _ c D R =>refine ⟨_,w,K _ _ _ _ m E z,.nil y ?_⟩;rw [qmJ];exact .ref _ _ c D R
 exact s.elim
theorem No {w g p c v} (h:Rep w g p (.agg c) v):∃ u:List Value,v = .agg u.toArray/\u.length=c.length/\∀ i (z:i<c.length),Rep w g p c[i] (u.getD i undef):=by
 cases h with
 | agg _ _ V l j=>exact ⟨V,rfl,l,j⟩
theorem SO {P:Program} {t A s} (j:qW P t=some (A,s)) {c:List AV} {u:List Value} {w g O r} (f:u.length=c.length) (q:∀ i (z:i<c.length),Rep w g false c[i] (u.getD i undef))
 (b:match A with | true=>O+s<=c.length/\r = .agg (qJ c O s) | false=>∃ y,c[O]?=some y/\r=y) :
 ∃ v,(part t u.toArray O).run P w = .ok v w/\Rep w g false r v:=by
 cases A with
 | true =>
   obtain ⟨e,rfl⟩:=b;refine ⟨.agg (u.toArray.extract O (O+s)),by simp [part,JX j,ql j],?_⟩
   have:=Rep.agg (w:=w) (g:=g) false (qJ c O s) ((u.drop O).take s) (by simp [qJ];omega) (fun i z=>by
    have h:i<s:=by simp [qJ] at z;omega
    have:=q (O+i) (by omega);simp only [qJ,qos,qor];simpa [List.getD,qnQ h,qol] using this)
   rw [show u.toArray.extract O (O+s)=((u.drop O).take s).toArray by simp [List.extract_eq_take_drop,List.take_drop]];exact this
 | false =>
   obtain ⟨y,m,rfl⟩:=b;obtain ⟨l,rfl⟩:=qml.1 m;have:O<u.length:=by omega
   refine ⟨u.getD O undef,by simp [part,JX j,this],q O l⟩
theorem tt {t x i} {fields:Array Field} {f:Field} {A s} {y:Opd} {d} (m:o.op = .field t x i) (n:P.underlying t=some (.struct fields)) (b:fields[i]?=some f)
 (c:qW P f.type=some (A,s)) (u:opd x=some y) (q:FrOK w g F a) (k:HeapOK hp g w)
 (h:(AOp.fld d A s f.offset y).sem P (evF F) hp new r ws):VRun P o a w (Post hp g w r ws):=by
 have e:=qr q u;simp only [AOp.sem] at h;split at h
 . rename_i C M;obtain ⟨h,rfl⟩:=h;rw [M] at e;obtain ⟨N,L,l,p⟩:=No e;obtain ⟨v,j,z⟩:=SO c l p h;exact ⟨v,w,by simp [execOp,m,L,Instr.field,CC n,b,asAgg,j],.nil k z⟩
 exact h.elim
theorem tz {t x i e l} {A b} {Y m:Opd} {d} (O:o.op = .index t x i) (R:P.underlying t=some (.array l e)) (s:qW P e=some (A,b))
 (f:opd x=some Y) (p:opd i=some m) (q:FrOK w g F a) (u:HeapOK hp g w)
 (h:(AOp.idx d l A b Y m).sem P (evF F) hp new r ws):VRun P o a w (Post hp g w r ws):=by
 have z:=qr q f;have y:=qr q p;simp only [AOp.sem] at h;split at h
 . rename_i C k j V L;obtain ⟨M,h,rfl⟩:=h;rw [V] at z;rw [L] at y;have E:=zZ y;obtain ⟨X,T,N,Q⟩:=No z;obtain ⟨v,c,n⟩:=SO s N Q h;exact ⟨v,w,by simp [execOp,O,T,E,Instr.index,asIntOf,CC R,M,ql s,c],.nil u n⟩
 exact h.elim
theorem tw {t x i} {Y q:Opd} {d} (n:o.op = .index t x i) (L:P.underlying t=some .string)
 (m:opd x=some Y) (f:opd i=some q) (y:FrOK w g F a) (u:HeapOK hp g w)
 (h:(AOp.ids d Y q).sem P (evF F) hp new r ws):VRun P o a w (Post hp g w r ws):=by
 have v:=qr y m;have z:=qr y f;simp only [AOp.sem] at h;split at h
 . rename_i s k j M p;obtain ⟨c,⟨b,l,rfl⟩,rfl⟩:=h;rw [M] at v;rw [p] at z;have e:=zZ v;have E:=zZ z;exact ⟨_,w,by simp [execOp,n,e,E,Instr.index,asIntOf,CC L,c,l],.nil u (.v _ _)⟩
 exact h.elim
theorem tb {t T x k} {y:Opd} {d K} (q:o.op = .convert t T x) (s:P.underlying t=some (.int K)) (v:P.underlying T=some (.int k))
 (j:opd x=some y) (z:FrOK w g F a) (u:HeapOK hp g w)
 (h:(AOp.cnv d k y).sem P (evF F) hp new r ws):VRun P o a w (Post hp g w r ws):=by
 have E:=qr z j;simp only [AOp.sem] at h;split at h
 . rename_i m n b;obtain ⟨rfl,rfl⟩:=h;rw [b] at E;have e:=zZ E;exact ⟨_,w,by simp [execOp,q,e,convert,CC s,CC v,Conv.intToInt],.nil u (.v _ _)⟩
 exact h.elim
end
def Qn (h:Hp) (g:G) (i:List Nat) (b q:Nat):Prop:=∃ id c d,id∈i/\h id=some (.cells c)/\g.ρ id=some (.blk b d)/\d<=q/\q<d+c.length
theorem zE (p:Hp):∀ (ids:List Nat) (i:Nat),Hp.write p (gones ids) i=if i∈ids then some .gone else p i
 | [],i=>by simp [gones,Hp.write]
 | x::ids,i=>by
   simp only [gones,wI,Hp.write];have:=zE (Hp.set p x .gone) ids i;simp only [gones] at this;rw [this];by_cases h:i∈ids
   . simp [h]
   by_cases e:i=x
   . subst e;simp [h,Hp.set_same]
   simp [h,e,Hp.set_other _ _ e]
theorem HeapOK.giveAll {X g w} (h:HeapOK X g w) (ids:List Nat) (x0:∀ i∈ids,∃ cs,X i=some (.cells cs)) :
 HeapOK (Hp.write X (gones ids)) (g.pub (Qn X g ids)) w/\Upd X g w (Hp.write X (gones ids)) (g.pub (Qn X g ids)) w:=by
 have tr:Trans w g w (g.pub (Qn X g ids)):=⟨fun _ _ x => .inl x,fun _ _ _=>rfl,fun _ _ x=>x,fun b A ty fz hb=>⟨A,hb,rfl⟩,rfl,rfl,rfl,Qs _,Qs _⟩;refine ⟨h.change (fun i=>i∈ids) tr (fun i O=>by rw [zE,if_neg O]) (fun _ _=>rfl) (fun _ _ _ _ _ _ _ _=>rfl) (fun i o c' d' O x3 K x4 q hq=>?_) ?_ ?_ ?_,tr,?_,?_,fun b hb _=>rfl⟩
 . rcases hq with hq | ⟨id,cs,d,h1,h2,h3,_⟩
   . exact hq
   exact absurd (h.inj i id o _ c' d' d x3 h2 K rfl x4 h3) (fun e=>O (e ▸ h1))
 . intro i O;obtain ⟨cs,x2⟩:=x0 i O;obtain ⟨l,h1,_⟩:=h.rep i _ x2;exact ⟨.gone,l,by rw [zE,if_pos O],h1,by cases l <;> trivial⟩
 . intro i i' o1 o' c1 d1 x7 O y x5 K x8 x1 x6;rw [zE,if_pos O] at y;cases y;cases K
 . rintro b q (hs | ⟨id,cs,d,h1,h2,h3,hq,x9⟩)
   . exact h.ex b q hs
   obtain ⟨l,e1,e2⟩:=h.rep id _ h2;rw [h3] at e1;cases e1;obtain ⟨A,ty,fz,g1,g2,_⟩:=e2;refine ⟨A[q]'(by omega),?_⟩;simp only [World.cell?,g1];simp [show q<A.size by omega]
 . rintro c1 ⟨i,o1,d1,y,K,x1⟩;rw [zE] at y;by_cases e:i∈ids
   . rw [if_pos e] at y;cases y;cases K
   rw [if_neg e] at y;exact .inl ⟨i,o1,d1,y,K,x1⟩
 rintro b q (hs | ⟨id,cs,d,h1,h2,h3,_⟩)
 . exact .inl hs
 exact .inr (.inl ⟨id,_,d,h2,rfl,h3⟩)
theorem Zf {α} {p:α->Bool} {l:List α} (h:(l.all p)=true) (i:Nat) (u:i<l.length):p l[i]=true:=LL.1 h _ (qmr _)
theorem Uj {w g x v} (o:x.isPure0=true) (h:Rep w g false x v):Rep w g true x v:=by
 cases h with
 | v=>exact .v _ _
 | sl _ _ _ _ _ _ V u j z y=>exact .sl _ _ _ _ _ _ V u j z y
 | ptr _ _ _ _ _ V u j=>exact .ptr _ _ _ _ _ V u j
 | _=>simp [AV.isPure0] at o
theorem Qy {w g x v} (y:x.isPure=true) (h:Rep w g false x v):Rep w g true x v:=by
 cases h with
 | v=>exact .v _ _
 | sl _ _ _ _ _ _ V u j o q=>exact .sl _ _ _ _ _ _ V u j o q
 | ptr _ _ _ _ _ V u j=>exact .ptr _ _ _ _ _ V u j
 | fn _ f as b X Y u j o q =>simp only [AV.isPure,qd] at y;exact .fn _ f as b X Y u j (fun i z=>Uj (Zf y.1 i z) (o i z)) (fun i z=>Uj (Zf y.2 i z) (q i z))
 | _=>simp [AV.isPure] at y
theorem ZN {cs:List AV} {off m i:Nat} (h:i<(qJ cs off m).length):(qJ cs off m)[i]=cs[off+i]'(by simp [qJ] at h;omega):=by simp [qJ]
theorem qV {cs:List AV} {off m:Nat} (h:off+m<=cs.length):(qJ cs off m).length=m:=by simp [qJ];omega
theorem Uh {p:Hp} {f:AV->Option (AV×List Nat)} (v:∀ {x y s},f x=some (y,s)->∀ i∈s,∃ c,p i=some (.cells c)):∀ {X Y:List AV} {s:List Nat},YH f X=some (Y,s)->∀ i∈s,∃ c,p i=some (.cells c)
 | [],Y,s,h=>by simp [YH] at h;obtain ⟨rfl,rfl⟩:=h;simp
 | x::X,Y,s,h=>by
   simp only [YH] at h;split at h
   . rename_i y a o b j z;simp only [xl,qmm] at h;obtain ⟨rfl,rfl⟩:=h;intro i u;rcases xm.1 u with u | u
     . exact v j i u
     exact Uh v z i u
   cases h
theorem Yw {p:Hp} {f:AV->Option (AV×List Nat)} {id:Nat} {y:List AV} {i:List Nat} (h:jo f p id=some (y,i)):∃ c j,p id=some (.cells c)/\YH f c=some (y,j)/\i=id::j:=by
 unfold jo at h;split at h
 . rename_i c s;split at h
   . rename_i Y j l;simp only [xl,qmm] at h;obtain ⟨rfl,rfl⟩:=h;exact ⟨c,j,s,l,rfl⟩
   cases h
 cases h
theorem WO {p:Hp} {f:AV->Option (AV×List Nat)} (z:∀ {x y s},f x=some (y,s)->∀ i∈s,∃ c,p i=some (.cells c)) {id:Nat} {Y:List AV} (h:jo f p id=some (Y,s)):∀ i∈s,∃ c,p i=some (.cells c):=by
 obtain ⟨c,J,v,j,rfl⟩:=Yw h;intro i u;rcases sg.1 u with rfl | u
 . exact ⟨c,v⟩
 exact Uh z j i u
theorem vT {p:Hp}:∀ {k:Nat} {x y:AV} {s:List Nat},Xr p k x=some (y,s)->∀ i∈s,∃ c,p i=some (.cells c):=by
 intro k
 induction k with
 | zero =>
   intro x y s h;cases x <;> simp only [Xr] at h <;> first | (cases h;done) | (simp only [xl,qmm] at h;obtain ⟨-,rfl⟩:=h;simp;done) | skip
   rename_i f as b;cases e:(AV.fn f as b).isPure <;> rw [e] at h <;> simp at h;obtain ⟨-,rfl⟩:=h;simp
 | succ k u =>
   intro x y s h;cases x <;> simp only [Xr] at h <;> first | (cases h;done) | (simp only [xl,qmm] at h;obtain ⟨-,rfl⟩:=h;simp;done) | skip
   . rename_i id off;split at h
     . rename_i Y j r;simp only [xl,qmm] at h;obtain ⟨-,rfl⟩:=h;exact WO u r
     cases h
   . split at h
     . rename_i Y j r;split at h
       . simp only [xl,qmm] at h;obtain ⟨-,rfl⟩:=h;exact WO u r
       cases h
     cases h
   . rename_i f as b;cases e:(AV.fn f as b).isPure <;> rw [e] at h <;> simp at h;obtain ⟨-,rfl⟩:=h;simp
   split at h
   . rename_i Y j r;split at h
     . simp only [xl,qmm] at h;obtain ⟨-,rfl⟩:=h;exact WO u r
     cases h
   cases h
theorem BT {p:Hp} {k:Nat} {x:AV} (h:x.isPure=true):Xr p k x=some (x,[]):=by
 cases x <;> first | (simp [AV.isPure] at h;done) | (cases k <;> rfl) | skip
 cases k <;> (simp only [Xr];rw [h];rfl)
theorem Yv {p:Hp} {k:Nat}:∀ {c:List AV},(c.all AV.isPure)=true->YH (Xr p k) c=some (c,[])
 | [],_=>rfl
 | x::c,h=>by rw [qmC,qd] at h;simp only [YH,BT h.1,Yv h.2,qmF]
theorem JT {p:Hp} {id off n sz:Nat} {c:List AV} (h:p id=some (.cells c)) (u:off+n*sz<=c.length/\(c.all AV.isPure)=true):zA p (.ms id off n sz)=some (.sl false n (qJ c off (n*sz)),[id]):=by simp only [zA,Xr,jo,h,Yv u.2,if_pos u.1]
theorem SF {p:Hp} {id:Nat} {c:List AV} (h:p id=some (.cells c)) (u:(c.all AV.isPure)=true):zA p (.ref id o)=some (.ptr c o,[id]):=by simp only [zA,Xr,jo,h,Yv u]
theorem Vq {p:Hp} {x y:AV} (h:zA p x=some (y,s)):∀ i∈s,∃ c,p i=some (.cells c):=by cases x <;> simp only [zA] at h <;> first | (cases h;done) | (simp only [xl,qmm] at h;obtain ⟨-,rfl⟩:=h;simp;done) | exact vT h
theorem Ni {f:AV->Option (AV×List Nat)}:∀ {X Y:List AV} {i:List Nat},YH f X=some (Y,i)->Y.length=X.length
 | [],Y,i,h=>by simp [YH] at h;obtain ⟨rfl,rfl⟩:=h;rfl
 | x::X,Y,i,h=>by
   simp only [YH] at h;split at h
   . rename_i y a s b v u;simp only [xl,qmm] at h;obtain ⟨rfl,rfl⟩:=h;simp [Ni u]
   cases h
theorem Nh {f:AV->Option (AV×List Nat)}:∀ {X Y:List AV} {s:List Nat},YH f X=some (Y,s)->∀ i (h:i<X.length) (m:i<Y.length),∃ J,f X[i]=some (Y[i],J)/\∀ j∈J,j∈s
 | [],Y,s,h=>by intro i u;simp at u
 | x::X,Y,s,h=>by
   simp only [YH] at h;split at h
   . rename_i y a g b o q;simp only [xl,qmm] at h;obtain ⟨rfl,rfl⟩:=h;intro i u v;cases i with
     | zero=>exact ⟨a,o,fun j z=>by simp [z]⟩
     | succ i =>obtain ⟨J,e,E⟩:=Nh q i (by simpa using u) (by simpa using v);exact ⟨J,e,fun j z=>by simp [E j z]⟩
   cases h
def nZ (h:Hp) (g:G) (w:World) (d:List Nat) (f:AV->Option (AV×List Nat)):Prop :=
 ∀ {x y:AV} {s:List Nat} {v:Value},f x=some (y,s)->(∀ i∈s,i∈d)->Rep w g false x v->Rep w (g.pub (Qn h g d)) true y v
theorem Ui {p g w} (k:HeapOK p g w) {j:List Nat} {f:AV->Option (AV×List Nat)} (V:nZ p g w j f) {Y:List AV} {id t:Nat} {N:List Nat} (r:jo f p id=some (Y,N)) (q:o+n*t<=Y.length) (s:∀ i∈N,i∈j)
 (h:Rep w g false (.ms id o n t) v):Rep w (g.pub (Qn p g j)) true (.sl false n (qJ Y o (n*t))) v:=by
 obtain ⟨C,js,z,y,rfl⟩:=Yw r;have M:=Ni y;have e:=Nh y;cases h with
 | ms _ _ _ _ c d O L J Q m X hb hs =>
   obtain ⟨l,E,P⟩:=k.rep id _ z;rw [m] at E;cases E;obtain ⟨A,ty,fz,R,g2,g3,g4,T⟩:=P;refine .sl _ _ _ _ _ _ (fun i=>A.getD (d+o+i) undef) X (fun h=>by cases h) (fun i u=>?_) (fun i u=>?_)
   . rw [qV q] at u;refine ⟨_,rfl,rfl,.inr ⟨id,C,d,s id (by simp),z,m,by show d<=d+o+i;omega,by show d+o+i<d+C.length;omega⟩,?_⟩;simp [World.cell?,R,show d+o+i<A.size by omega]
   have b:=u;rw [qV q] at b;obtain ⟨x,D,Z⟩:=T (o+i) (by omega);obtain ⟨us,K,u2⟩:=e (o+i) (by omega) (by omega);have:A.getD (d+o+i) undef=x:=by rw [qmJ];simp [D]
   rw [this,ZN u];exact V K (fun i u=>s i (by simp [u2 i u])) Z
 | msz _ _ _ a l m =>exact .sl _ _ _ _ _ _ (fun i=>undef) (Qs _) (fun h=>by cases h) (fun i u=>by simp [qJ] at u) (fun i u=>by simp [qJ] at u)
theorem LB {p g w} (k:HeapOK p g w) {u:List Nat} {f:AV->Option (AV×List Nat)} (M:nZ p g w u f) {Y:List AV} {id:Nat} {m:List Nat} (q:jo f p id=some (Y,m)) (s:∀ i∈m,i∈u)
 (h:Rep w g false (.ref id o) v):Rep w (g.pub (Qn p g u)) true (.ptr Y o) v:=by
 obtain ⟨C,J,j,z,rfl⟩:=Yw q;have n:=Ni z;have e:=Nh z;cases h with
 | ref id o c d b =>
   obtain ⟨l,E,r⟩:=k.rep id _ j;rw [b] at E;cases E;obtain ⟨a,Z,R,t,T,V,X,L⟩:=r;refine .ptr _ _ _ c d (fun i=>a.getD (d+i) undef) (fun i y=>⟨.inr ⟨id,C,d,s id (by simp),j,b,by omega,by omega⟩,?_⟩) (fun i y=>?_)
   . simp [World.cell?,t,show d+i<a.size by omega]
   obtain ⟨x,O,N⟩:=L i (by omega);obtain ⟨D,P,Q⟩:=e i (by omega) (by omega);have:a.getD (d+i) undef=x:=by simp [O]
   rw [this];exact M P (fun i y=>s i (by simp [Q i y])) N
theorem SG {j g w} (o:HeapOK j g w) {i:List Nat}:∀ k,nZ j g w i (Xr j k):=by
 have t:Trans w g w (g.pub (Qn j g i)):=⟨fun _ _ x => .inl x,fun _ _ _=>rfl,fun _ _ x=>x,fun b A Z X m=>⟨A,m,rfl⟩,rfl,rfl,rfl,Qs _,Qs _⟩;intro k
 induction k with
 | zero =>
   intro x y R v h s r;cases x <;> simp only [Xr] at h <;> first | (cases h;done) | skip
   . simp only [xl,qmm] at h;obtain ⟨rfl,rfl⟩:=h;exact (Qy rfl r).mono t
   . simp only [xl,qmm] at h;obtain ⟨rfl,rfl⟩:=h;exact (Qy rfl r).mono t
   . simp only [xl,qmm] at h;obtain ⟨rfl,rfl⟩:=h;exact (Qy rfl r).mono t
   rename_i f as z;cases e:(AV.fn f as z).isPure <;> rw [e] at h <;> simp at h;obtain ⟨rfl,rfl⟩:=h;exact (Qy e r).mono t
 | succ k M =>
   intro x y R v h s r;cases x <;> simp only [Xr] at h <;> first | (cases h;done) | skip
   . simp only [xl,qmm] at h;obtain ⟨rfl,rfl⟩:=h;exact (Qy rfl r).mono t
   . simp only [xl,qmm] at h;obtain ⟨rfl,rfl⟩:=h;exact (Qy rfl r).mono t
   . simp only [xl,qmm] at h;obtain ⟨rfl,rfl⟩:=h;exact (Qy rfl r).mono t
   . split at h
     . rename_i Y J q;simp only [xl,qmm] at h;obtain ⟨rfl,rfl⟩:=h;exact LB o M q s r
     cases h
   . split at h
     . rename_i Y J q;split at h
       . rename_i u;simp only [xl,qmm] at h;obtain ⟨rfl,rfl⟩:=h;exact Ui o M q u s r
       cases h
     cases h
   . rename_i f as z;cases e:(AV.fn f as z).isPure <;> rw [e] at h <;> simp at h;obtain ⟨rfl,rfl⟩:=h;exact (Qy e r).mono t
   split at h
   . rename_i Y J q;split at h
     . rename_i u;simp only [xl,qmm] at h;obtain ⟨rfl,rfl⟩:=h;refine Ui o M q u s ?_;cases r with
       | mc id off n C T c d N V O L P m Q=>exact GY (p:=false) (.mc _ _ _ _ _ _ _ _ _ _ L P m Q)
       | mcz id off T a l L=>exact GY (p:=false) (.mcz _ _ _ _ _ L)
     cases h
   cases h
theorem Nk {u g w} (o:HeapOK u g w) {d:List Nat} {x y:AV} {j:List Nat} (p:zA u x=some (y,j)) (s:∀ i∈j,i∈d) (h:Rep w g false x v) :
 Rep w (g.pub (Qn u g d)) true y v/\∀ i∈j,∃ c,u i=some (.cells c) :=
 ⟨by cases x <;> simp only [zA] at p <;> first | (cases p;done) | exact SG o 5 p s h | exact SG o 5 (by simpa only [Xr] using p) s h,Vq p⟩
theorem jp {p:Hp}:∀ {X Y:List AV} {s:List Nat},zY p X=some (Y,s)->∀ i∈s,∃ c,p i=some (.cells c)
 | [],Y,s,h=>by simp [zY] at h;obtain ⟨rfl,rfl⟩:=h;simp
 | x::X,Y,s,h=>by
   simp only [zY] at h;split at h
   . rename_i y a z b v j;simp only [xl,qmm] at h;obtain ⟨rfl,rfl⟩:=h;intro i u;rcases xm.1 u with u | u
     . exact Vq v i u
     exact jp j i u
   cases h
theorem jq {p g w} (o:HeapOK p g w) {d:List Nat}:∀ {X Y:List AV} {z:List Nat},zY p X=some (Y,z)->(∀ i∈z,i∈d)->Y.length=X.length /\
 ∀ j (m:j<X.length) (u:j<Y.length) v,Rep w g false X[j] v->Rep w (g.pub (Qn p g d)) true Y[j] v
 | [],Y,z,h,s=>by simp [zY] at h;obtain ⟨rfl,rfl⟩:=h;simp
 | x::X,Y,z,h,s=>by
   simp only [zY] at h;split at h
   . rename_i y a c b f l;simp only [xl,qmm] at h;obtain ⟨rfl,rfl⟩:=h;obtain ⟨L,t⟩:=jq o l (fun i q=>s i (by simp [q]));refine ⟨by simp [L],fun j m u v r=>?_⟩;cases j with
     | zero=>exact (Nk o f (fun i q=>s i (by simp [q])) r).1
     | succ j=>exact t j (by simpa using m) (by simpa using u) v r
   cases h
theorem Vr {p:Hp} {x y:AV} (h:qR p x=some (y,s)):∀ i∈s,∃ c,p i=some (.cells c):=by
 cases x with
 | agg c =>simp only [qR,RL] at h;obtain ⟨⟨Y,a⟩,j,v⟩:=h;simp only [qmm] at v;obtain ⟨-,rfl⟩:=v;exact jp j
 | fn f as z =>
   simp only [qR] at h;split at h
   . rename_i X a Y b j v;simp only [xl,qmm] at h;obtain ⟨-,rfl⟩:=h;intro i u;rcases xm.1 u with u | u
     . exact jp j i u
     exact jp v i u
   cases h
 | _=>simp only [qR] at h;exact Vq h
theorem zB {z g w} (o:HeapOK z g w) {d:List Nat} {x y:AV} {l:List Nat} (p:qR z x=some (y,l)) (s:∀ i∈l,i∈d) (h:Rep w g false x v) :
 Rep w (g.pub (Qn z g d)) true y v/\∀ i∈l,∃ c,z i=some (.cells c):=by
 refine ⟨?_,Vr p⟩;cases x with
 | agg c =>
   simp only [qR,RL] at p;obtain ⟨⟨Y,a⟩,q,j⟩:=p;simp only [qmm] at j;obtain ⟨rfl,rfl⟩:=j;cases h with
   | agg _ c V e r =>obtain ⟨n,L⟩:=jq o q s;exact .agg _ _ _ (by omega) (fun i u=>L i (by omega) u _ (r i (by omega)))
 | fn f as t =>
   simp only [qR] at p;split at p
   . rename_i X a Y b q j;simp only [xl,qmm] at p;obtain ⟨rfl,rfl⟩:=p;cases h with
     | fn _ f as t O V e k r m =>obtain ⟨n,L⟩:=jq o q (fun i u=>s i (by simp [u]));obtain ⟨N,M⟩:=jq o j (fun i u=>s i (by simp [u]));exact .fn _ _ _ _ _ _ (by omega) (by omega) (fun i u=>L i (by omega) u _ (r i (by omega))) (fun i u=>M i (by omega) u _ (m i (by omega)))
   cases p
 | _=>simp only [qR] at p;exact (Nk o p s h).1
theorem Jh {p:Hp}:∀ {X Y:List AV} {s:List Nat},zC p X=some (Y,s)->∀ i∈s,∃ c,p i=some (.cells c)
 | [],Y,s,h=>by simp [zC] at h;obtain ⟨rfl,rfl⟩:=h;simp
 | x::X,Y,s,h=>by
   simp only [zC] at h;split at h
   . rename_i y a z b v j;simp only [xl,qmm] at h;obtain ⟨rfl,rfl⟩:=h;intro i u;rcases xm.1 u with u | u
     . exact Vr v i u
     exact Jh j i u
   cases h
theorem jT {p:Hp} {x y:AV} (h:qH p x=some (y,s)):∀ i∈s,∃ c,p i=some (.cells c):=by
 cases x <;> simp only [qH,RL] at h <;> first
  | exact Vr h
  | (obtain ⟨⟨Y,a⟩,v,u⟩:=h
     simp only [qmm] at u;obtain ⟨-,rfl⟩:=u;exact Jh v)
theorem qS {p:Hp}:∀ {X Y:List AV} {s:List Nat},qj p X=some (Y,s)->∀ i∈s,∃ c,p i=some (.cells c)
 | [],Y,s,h=>by simp [qj] at h;obtain ⟨rfl,rfl⟩:=h;simp
 | x::X,Y,s,h=>by
   simp only [qj] at h;split at h
   . rename_i y a z b v j;simp only [xl,qmm] at h;obtain ⟨rfl,rfl⟩:=h;intro i u;rcases xm.1 u with u | u
     . exact jT v i u
     exact qS j i u
   cases h
theorem Jj {p g w} (o:HeapOK p g w) {d:List Nat}:∀ {X Y:List AV} {z:List Nat},zC p X=some (Y,z)->(∀ i∈z,i∈d)->Y.length=X.length /\
 ∀ j (m:j<X.length) (u:j<Y.length) v,Rep w g false X[j] v->Rep w (g.pub (Qn p g d)) true Y[j] v
 | [],Y,z,h,s=>by simp [zC] at h;obtain ⟨rfl,rfl⟩:=h;simp
 | x::X,Y,z,h,s=>by
   simp only [zC] at h;split at h
   . rename_i y a c b f l;simp only [xl,qmm] at h;obtain ⟨rfl,rfl⟩:=h;obtain ⟨L,t⟩:=Jj o l (fun i q=>s i (by simp [q]));refine ⟨by simp [L],fun j m u v r=>?_⟩;cases j with
     | zero=>exact (zB o f (fun i q=>s i (by simp [q])) r).1
     | succ j=>exact t j (by simpa using m) (by simpa using u) v r
   cases h
theorem Yy {p g w} (o:HeapOK p g w) {ids:List Nat} {x y:AV} {m:List Nat} (h:qH p x=some (y,m)) (s:∀ i∈m,i∈ids) (r:Rep w g false x v) :
 Rep w (g.pub (Qn p g ids)) true y v:=by
 cases r with
 | agg _ c V f r =>simp only [qH,RL] at h;obtain ⟨⟨Y,a⟩,u,j⟩:=h;simp only [qmm] at j;obtain ⟨rfl,rfl⟩:=j;obtain ⟨L,l⟩:=Jj o u s;exact .agg _ _ _ (by omega) (fun i b=>l i (by omega) b _ (r i (by omega)))
 | tup _ c V f r =>simp only [qH,RL] at h;obtain ⟨⟨Y,a⟩,u,j⟩:=h;simp only [qmm] at j;obtain ⟨rfl,rfl⟩:=j;obtain ⟨L,l⟩:=Jj o u s;exact .tup _ _ _ (by omega) (fun i b=>l i (by omega) b _ (r i (by omega)))
 | v=>exact (zB (x:=_) o (by simpa only [qH] using h) s (.v _ _)).1
 | any=>simp [qH,qR,zA,Xr] at h
 | sl _ _ _ _ _ _ V u j z q=>exact (zB (x:=_) o (by simpa only [qH] using h) s (.sl _ _ _ _ _ _ V u j z q)).1
 | ptr _ _ _ _ _ V u j=>exact (zB (x:=_) o (by simpa only [qH] using h) s (.ptr _ _ _ _ _ V u j)).1
 | ref _ _ _ _ u=>exact (zB (x:=_) o (by simpa only [qH] using h) s (.ref _ _ _ _ u)).1
 | ms _ _ _ _ _ _ _ _ _ _ u j z q=>exact (zB (x:=_) o (by simpa only [qH] using h) s (.ms _ _ _ _ _ _ _ _ _ _ u j z q)).1
 | msz _ _ _ _ _ u=>exact (zB (x:=_) o (by simpa only [qH] using h) s (.msz _ _ _ _ _ u)).1
 | fn _ _ _ _ _ _ u j z q=>exact (zB (x:=_) o (by simpa only [qH] using h) s (.fn _ _ _ _ _ _ u j z q)).1
 | mp=>simp [qH,qR,zA,Xr] at h
 | yl=>simp [qH,qR,zA,Xr] at h
 | mc _ _ _ _ _ _ _ _ _ _ u j z q=>exact (zB (x:=_) o (by simpa only [qH] using h) s (.mc _ _ _ _ _ _ _ _ _ _ u j z q)).1
 | mcz _ _ _ _ _ u=>exact (zB (x:=_) o (by simpa only [qH] using h) s (.mcz _ _ _ _ _ u)).1
theorem Qz {p g w} (o:HeapOK p g w) {d:List Nat}:∀ {X Y:List AV} {z:List Nat},qj p X=some (Y,z)->(∀ i∈z,i∈d)->Y.length=X.length /\
 ∀ j (m:j<X.length) (u:j<Y.length) v,Rep w g false X[j] v->Rep w (g.pub (Qn p g d)) true Y[j] v
 | [],Y,z,h,s=>by simp [qj] at h;obtain ⟨rfl,rfl⟩:=h;simp
 | x::X,Y,z,h,s=>by
   simp only [qj] at h;split at h
   . rename_i y a c b f l;simp only [xl,qmm] at h;obtain ⟨rfl,rfl⟩:=h;obtain ⟨L,t⟩:=Qz o l (fun i q=>s i (by simp [q]));refine ⟨by simp [L],fun j m u v r=>?_⟩;cases j with
     | zero=>exact Yy o f (fun i q=>s i (by simp [q])) r
     | succ j=>exact t j (by simpa using m) (by simpa using u) v r
   cases h
def RowA (w:World) (g:G) (p:Bool) (a:Array Value) (c:List AV):Prop:=a.size=c.length/\∀ i (h:i<c.length),∃ x,a[i]?=some x/\Rep w g p c[i] x
theorem QA (z:List AV):∀ n,(zh n z).length=n*z.length
 | 0=>by simp [zh]
 | n+1=>by simp [zh,QA z n,qm0];omega
theorem Tn (z:List AV):∀ n i (h:i<(zh n z).length),∃ y:i % z.length<z.length,(zh n z)[i]=z[i % z.length]
 | 0,i,h=>by simp [zh] at h
 | n+1,i,h=>by
   have j:0<z.length:=by
    rcases Nat.eq_zero_or_pos z.length with e | e
    . rw [QA,e] at h;simp at h
    exact e
   refine ⟨qpw _ j,?_⟩;simp only [zh];by_cases u:i<z.length
   . rw [qmz u];simp [qoC u]
   rw [qmx (by omega)];have l:i - z.length<(zh n z).length:=by rw [QA] at h ⊢;rw [qm0] at h;omega
   obtain ⟨o,v⟩:=Tn z n (i - z.length) l;rw [v];congr 1;have e:=Nat.add_mod_right (i - z.length) z.length;rw [Nat.sub_add_cancel (by omega)] at e;exact e.symm
def Qk (P:Program) (t:TypeId):Option (List AV):=((P.info? t).bind (·.zero)).map fun v=>v.cells.toList.map AV.ofCell
theorem ZP {P:Program} {t z} (h:Qk P t=some z) (w:World):∃ v:Value,(zeroValue t).run P w = .ok v w/\z=v.cells.toList.map AV.ofCell:=by simp only [Qk,RL,qoh] at h;obtain ⟨v,⟨i,u,j⟩,rfl⟩:=h;exact ⟨v,by simp [zeroValue,typeInfo,u,j],rfl⟩
theorem JW {w g p} (v:Value):RowA w g p v.cells (v.cells.toList.map AV.ofCell):=by refine ⟨by simp,fun i h=>?_⟩;simp at h;exact ⟨v.cells[i],by simp [h],by simp;exact jU _ _ _ _⟩
theorem WU {w g p} (v:Value) (n:Nat):RowA w g p ((Array.range (n*v.cells.size)).map fun i=>v.cells[i % v.cells.size]!) (zh n (v.cells.toList.map AV.ofCell)):=by
 refine ⟨by simp [QA],fun i j=>?_⟩;obtain ⟨z,y⟩:=Tn _ n i j;have u:i<n*v.cells.size:=by simpa [QA] using j
 have h:i % v.cells.size<v.cells.size:=by simpa using z
 refine ⟨v.cells[i % v.cells.size],by simp [u,h],?_⟩;rw [y];simp;exact jU _ _ _ _
theorem ND (o:Nat):∀ (l:List Value) (k:Nat) (a:Array Value),o+k+l.length<=a.size->∀ i,
 ((l.zipIdx k).foldl (fun C (x:Value×Nat)=>C.setIfInBounds (o+x.2) x.1) a)[i]?=if i<o+k then a[i]? else if i<o+k+l.length then l[i - (o+k)]? else a[i]?
 | [],k,a,_,i=>by simp;omega
 | c::l,k,a,h,i=>by
   simp only [List.zipIdx_cons,qnZ];simp at h;rw [ND o l (k+1) _ (by simp;omega) i];by_cases u:i<o+k
   . rw [if_pos (by omega),if_pos u,qmK (by omega)]
   rw [if_neg u];by_cases j:i=o+k
   . subst j;rw [if_pos (by omega),if_pos (by simp)];simp [show o+k<a.size by omega]
   rw [if_neg (by omega)];by_cases v:i<o+k+(l.length+1)
   . rw [if_pos (by omega),if_pos (by simpa using v),show i - (o+k)=(i - (o+(k+1)))+1 by omega];simp
   rw [if_neg (by omega),if_neg (by simpa using v),qmK (by omega)]
theorem LV (off:Nat) (vs:Array Value) (a:Array Value) (h:off+vs.size<=a.size) :
 vs.zipIdx.foldl (fun c (x:Value×Nat)=>c.setIfInBounds (off+x.2) x.1) a=QE a off vs.toList:=by
 apply qnW;intro i;rw [zD _ _ _ (by simpa using h),<-qpl,Array.toList_zipIdx];rw [ND off vs.toList 0 a (by simpa using h) i];simp
theorem RowA.splice {w g p A cs} (h:RowA w g p A cs) {off:Nat} {vs:List Value} {xs:List AV} (x0:vs.length=xs.length) (x1:off+xs.length<=cs.length)
 (hr:∀ i (hi:i<xs.length),∃ u,vs[i]?=some u/\Rep w g p xs[i] u):RowA w g p (QE A off vs) (splice cs off xs):=by
 obtain ⟨h1,X⟩:=h;have x2:=jv A off vs (by omega);have hl:(AM.splice cs off xs).length=cs.length:=by simp [AM.splice];omega
 refine ⟨by omega,fun i hi=>?_⟩;rw [zD _ _ _ (by omega)];have K:(cs.take off).length=off:=by simp;omega
 by_cases O:i<off
 . rw [if_pos O];obtain ⟨x,e,y⟩:=X i (by omega);refine ⟨x,e,?_⟩;have:(AM.splice cs off xs)[i]=cs[i]'(by omega):=by simp only [AM.splice,qmo];rw [qmz (by omega)];simp
   rw [this];exact y
 rw [if_neg O];by_cases a2:i<off+xs.length
 . rw [if_pos (by omega)];obtain ⟨u,hu,q⟩:=hr (i - off) (by omega);refine ⟨u,hu,?_⟩;have:(AM.splice cs off xs)[i]=xs[i - off]'(by omega):=by simp only [AM.splice,qmo];rw [qmx (by omega),qmz (by omega)];simp only [K]
   rw [this];exact q
 rw [if_neg (by omega)];obtain ⟨x,e,y⟩:=X i (by omega);refine ⟨x,e,?_⟩;have:(AM.splice cs off xs)[i]=cs[i]'(by omega):=by simp only [AM.splice,qmo];rw [qmx (by omega),qmx (by omega),qor];congr 1;simp only [K];omega
 rw [this];exact y
def HG (c:List AV):List (Nat×AV)->List AV
 | []=>c
 | (off,x)::r=>HG (splice c off x.cells) r
theorem XJ {w g p} (Q:Nat->Option (Nat×Nat)):∀ (l:List (Nat×Value)) (m:List (Nat×AV)) (a:Array Value) (c:List AV),l.length=m.length->RowA w g p a c ->
 (∀ i (h:i<l.length) (D:i<m.length),∃ s,Q l[i].1=some (m[i].1,s)/\m[i].2.cells.length=s/\m[i].1+s<=c.length/\(m[i].2.cells.all AV.isCell)=true/\Rep w g p m[i].2 l[i].2) ->
 ∃ A,Instr.fill Q a l=some A/\RowA w g p A (HG c m)
 | [],m,a,c,z,y,_=>by
   cases m with
   | nil=>exact ⟨a,rfl,y⟩
   | cons=>simp at z
 | (i,v)::l,m,a,c,z,y,h=>by
   cases m with
   | nil=>simp at z
   | cons Z m =>
     obtain ⟨off,x⟩:=Z;obtain ⟨s,M,V,X,N,O⟩:=h 0 (by simp) (by simp);simp only [qnL] at M V X N O;obtain ⟨C,c2,c3⟩:=Ks O N;have f:v.cells.size=s:=by omega
     have e:off+v.cells.size<=a.size:=by have:=y.1;omega
     have r:=y.splice (off:=off) (vs:=v.cells.toList) (xs:=x.cells) (by simpa using C) (by omega) (fun j q=>by obtain ⟨u,Y,t⟩:=c3 j q;exact ⟨u,by simpa using Y,t⟩)
     obtain ⟨A,R,T⟩:=XJ Q l m _ _ (by simpa using z) r (fun j q b=>by
      obtain ⟨s,d,k,P,n,L⟩:=h (j+1) (by simpa using q) (by simpa using b);simp only [qna] at d k P n L
      exact ⟨s,d,k,by have:(AM.splice c off x.cells).length=c.length:=by { simp [AM.splice];omega }
                      omega,n,L⟩)
     refine ⟨A,?_,T⟩;unfold Instr.fill;simp only [M];have o:(v.cells.size≠s || off+v.cells.size>a.size)=false:=by simp [f];omega
     rw [o,LV off v.cells a e];simpa using R
theorem SD (s:Nat):∀ (l:List (Nat×AV)) (c:List AV),QO c s l=HG c (l.map fun p=>(p.1*s,p.2))
 | [],c=>rfl
 | (i,x)::l,c=>by simp [QO,HG,SD s l]
theorem Ng:∀ (l:List (Nat×Nat×AV)) (c:List AV),Jv c l=HG c (l.map fun p=>(p.1,p.2.2))
 | [],c=>rfl
 | (i,n,x)::l,c=>by simp [Jv,HG,Ng l]
theorem VRun.of {P:Program} {o:Oper} {a:Act} {w w':World} {y:Value->World->Prop} {v:Value} (h:(execOp a.eval o).run P w = .ok (.value v) w') (q:y v w'):VRun P o a w y:=⟨v,w',h,q⟩
section
variable {P:Program} {o:Oper} {a:Act} {w:World} {g:G} {hp:Hp} {F:Nat->AV} {new:Nat} {r:AV} {ws:List (Nat×HObj)}
theorem Post.row (e:HeapOK hp g w) (X:hp new=none) {A:Array Value} (O:TypeId) {y:List AV} (h:RowA w g false A y) :
 ∃ q,q.ρ new=some (.blk w.heap.size 0)/\HeapOK (Hp.write hp [(new,.cells y)]) q (w.alloc (.cells A O))/\Upd hp g w (Hp.write hp [(new,.cells y)]) q (w.alloc (.cells A O)):=by
 obtain ⟨K,s3⟩:=e.alloc_priv X A O y (by have:=h.1;omega) h.2;exact ⟨_,by simp [G.home],K,s3⟩
theorem qac {t z} {d} (b:o.op = .alloc t) (f:Qk P t=some z) (h:HeapOK hp g w) (n:hp new=none)
 (m:(AOp.al d z).sem P (evF F) hp new r ws):VRun P o a w (Post hp g w r ws):=by
 obtain ⟨rfl,rfl⟩:=m;obtain ⟨v,j,rfl⟩:=ZP f w;obtain ⟨u,y,q,s⟩:=Post.row h n t (JW (w:=w) (g:=g) (p:=false) v);refine .of (v := .pointer (some ⟨w.heap.size,0,none⟩)) (by simp [execOp,b,Instr.alloc,j,newVar,newRow]) ⟨u,?_,q,s⟩;have:=Rep.ref (w:=w.alloc (.cells v.cells t)) (g:=u) new 0 w.heap.size 0 y;simpa using this
theorem DR {α β:Type} (as:List α) (b:List β) (i:Nat) (h:i<(as.zip b).length):(as.zip b)[i]=(as[i]'(by simp at h;omega),b[i]'(by simp at h;omega)):=by simp
theorem PX {c:List AV} {x:List AV} (h:O+x.length<=c.length):(splice c O x).length=c.length:=by unfold splice;simp only [qmI,qmS,qnV];omega
theorem HH {s:Nat}:∀ {l:List (Nat×AV)} {c:List AV},(∀ p∈l,p.1*s+p.2.cells.length<=c.length)->(QO c s l).length=c.length
 | [],c,_=>rfl
 | (i,x)::l,c,h=>by have u:=PX (h (i,x) (by simp));rw [QO,HH (fun p hp=>by rw [u];exact h p (by simp [hp])),u]
theorem fY {t e n} {s:Array (Nat×Operand)} {q:List (Nat×Opd)} {x0 u z} {d} (ho:o.op = .buildSlice t n s) (hu:P.underlying t=some (.slice e)) (ht:qW P e=some (x0,u))
 (hz:Qk P e=some z) (L:z.length=u) (D:n*u<=2 ^ 24) (x3:q.length=s.size) (hq:∀ i (h:i<s.size) (h':i<q.length),s[i].1=q[i].1/\opd s[i].2=some q[i].2/\q[i].1<n)
 (hF:FrOK w g F a) (J:HeapOK hp g w) (hn:hp new=none)
 (hs:(AOp.bsl d n u z q).sem P (evF F) hp new r ws):VRun P o a w (Post hp g w r ws):=by
 obtain ⟨ys,is,h1,h2,hs⟩:=hs;obtain ⟨N,Q⟩:=J.giveAll is (qS h1);obtain ⟨l1,l2⟩:=Qz J h1 (fun i h=>h);simp at l1;obtain ⟨zv,X,rfl⟩:=ZP hz w;simp at L
 have V:∃ y:Array Value,(do
  let zero <-if n*u=0 then pure #[] else do pure (<-zeroValue e).cells
  pure ((Array.range (n*u)).map (zero[· % zero.size]!)):Sem (Array Value)).run P w = .ok y w/\RowA w (g.pub (Qn hp g is)) true y (zh n (zv.cells.toList.map AV.ofCell)):=by
  by_cases M:n*u=0
  . refine ⟨#[],by simp [M],?_⟩;have:(zh n (zv.cells.toList.map AV.ofCell))=[]:=qmk (by rw [QA];simpa [L] using M);rw [this];exact ⟨rfl,fun i k=>by simp at k⟩
  refine ⟨_,by simp [M,X];rfl,?_⟩;rw [<-L];exact WU zv n
 obtain ⟨y,c,R⟩:=V;have l:(zh n (zv.cells.toList.map AV.ofCell)).length=n*u:=by rw [QA];simp [L]
 obtain ⟨A,f,j⟩:=XJ (fun i=>some (i*u,u)) (s.toList.map fun x=>(x.1,a.eval x.2)) (((q.map (·.1)).zip ys).map fun p=>(p.1*u,p.2)) y _
  (by simp [x3,l1]) R (fun i k x4=>by
   have x1:i<s.size:=by simpa using k
   have C:i<q.length:=by omega
   obtain ⟨q1,q2,q3⟩:=hq i x1 C;have Y:=Zf h2 i (by omega);simp only [qd,qon] at Y;refine ⟨u,by simp [q1],by simpa using Y.2,?_,by simpa using Y.1.1,?_⟩
   . rw [l];simp
     calc q[i].1*u+u=(q[i].1+1)*u:=by rw [qm0];omega
      _<=n*u:=qmt _ q3
   have:=l2 i (by simpa using C) (by omega) (a.eval s[i].2) (by simpa using qr hF q2);simpa using this)
 rw [<-SD] at j
 have O:(execOp a.eval o).run P w = .ok (.value (.slice (some ⟨w.heap.size,0,none⟩) n n)) (w.alloc (.cells A e)):=by
  have m:¬ (n*u>16777216):=by have:n*u<=16777216:=D;omega
  simp only [qng] at c;by_cases M:n*u=0
  . simp [M] at c;subst c;simp [execOp,ho,Instr.buildSlice,CC hu,ql ht,m,M,f,newRow]
  simp [M,X] at c;subst c;simp [execOp,ho,Instr.buildSlice,CC hu,ql ht,m,M,X,f,newRow]
 rcases hs with ⟨rfl,rfl⟩ | ⟨rfl,rfl⟩
 . obtain ⟨K,b⟩:=N.alloc_pub A e;refine .of (v := .slice (some ⟨w.heap.size,0,none⟩) n n) (w':=w.alloc (.cells A e)) O ⟨_,?_,K,Q.trans b⟩;refine .sl _ _ _ _ _ _ (fun i=>A.getD i undef) (Qs _) (fun _=>rfl) (fun i k=>?_) (fun i k=>?_)
   . refine ⟨_,rfl,rfl,.inr ⟨rfl,by have:=j.1;show 0+i<_;omega⟩,?_⟩;have:i<A.size:=by have:=j.1;omega
     simp [this]
   obtain ⟨x,hx,hr⟩:=j.2 i k;have:A.getD i undef=x:=by simp [hx]
   rw [this];exact hr.mono b.tr
 have E:new∉is:=fun h=>by obtain ⟨cs,Z⟩:=qS h1 new h;rw [hn] at Z;cases Z
 have x2:Hp.write hp (gones is) new=none:=by rw [zE,if_neg E];exact hn
 have T:RowA w (g.pub (Qn hp g is)) false A (QO (zh n (zv.cells.toList.map AV.ofCell)) u ((q.map (·.1)).zip ys)):=⟨j.1,fun i k=>by obtain ⟨x,hx,hr⟩:=j.2 i k;exact ⟨x,hx,hr.of⟩⟩;obtain ⟨g',q1,q2,q3⟩:=Post.row N x2 e T
 have we:∀ (ws:List (Nat×HObj)) (h:Hp) (p:Nat×HObj),Hp.write h (ws++[p])=Hp.write (Hp.write h ws) [p]:=fun ws=>by
  induction ws with
  | nil=>intro h p;rfl
  | cons a ws ih=>intro h p;exact ih _ p
 refine .of (v := .slice (some ⟨w.heap.size,0,none⟩) n n) (w':=w.alloc (.cells A e)) O ⟨g',?_,by rw [we];exact q2,by rw [we];exact Q.trans q3⟩
 have:=Rep.mc (w:=w.alloc (.cells A e)) (g:=g') new 0 n n u w.heap.size 0 A e (0,0) q1 (Qs _) (zk _ _) (by
  have h3:=j.1;rw [HH (fun p hp=>?_),l] at h3
  . omega
  obtain ⟨i,k,rfl⟩:=qn6.1 hp;rw [DR];simp only [List.length_zip,qmq] at k;have Y:=Zf h2 i (by omega);simp only [qd,qon] at Y;have q3:=(hq i (by omega) (by omega)).2.2;rw [l,Y.2];simp only [qmv]
  calc q[i].1*u+u=(q[i].1+1)*u:=by rw [qm0];omega
   _<=n*u:=qmt _ q3)
 simpa using this
theorem fW {t} {fields:Array Field} {s:Array (Nat×Operand)} {q:List (Nat×Nat×Opd)} {z} {places:Array (Nat×Nat)} {d} (D:o.op = .build t s)
 (Q:(P.underlying t=some (.struct fields)/\places.size=fields.size/\∀ i (h:i<fields.size) (y:i<places.size),places[i].1=fields[i].offset/\∃ agg,qW P fields[i].type=some (agg,places[i].2)))
 (hz:Qk P t=some z) (O:q.length=s.size) (J:∀ i (h:i<s.size) (y:i<q.length),places[s[i].1]?=some (q[i].1,q[i].2.1)/\opd s[i].2=some q[i].2.2/\q[i].1+q[i].2.1<=z.length)
 (Y:FrOK w g F a) (L:HeapOK hp g w)
 (hs:(AOp.bld d z q).sem P (evF F) hp new r ws):VRun P o a w (Post hp g w r ws):=by
 obtain ⟨X,rfl,rfl⟩:=hs;obtain ⟨Z,R,rfl⟩:=ZP hz w;obtain ⟨Q,N,M⟩:=Q
 have c:(fields.mapM (fun f=>Prod.mk f.offset <$> sizeOf f.type):Sem (Array (Nat×Nat))).run P w = .ok places w:=by
  rw [Array.mapM_eq_mapM_toList]
  have:∀ (l:List Field) (m:List (Nat×Nat)),l.length=m.length->(∀ i (h:i<l.length) (y:i<m.length),m[i].1=l[i].offset/\∃ agg,qW P l[i].type=some (agg,m[i].2)) ->
   (l.mapM (fun f=>Prod.mk f.offset <$> sizeOf f.type):Sem (List (Nat×Nat))).run P w = .ok m w:=by
   intro l
   induction l with
   | nil=>intro m hm _;cases m <;> simp_all
   | cons f l ih =>
     intro m hm V;cases m with
     | nil=>simp at hm
     | cons p m =>obtain ⟨E,agg,T⟩:=V 0 (by simp) (by simp);have:=ih m (by simpa using hm) (fun i h y=>by have:=V (i+1) (by simpa using h) (by simpa using y);simp only [qna] at this;exact this);simp at E T;simp only [qpK,qng,Sem.run_map,ql T,qmR,qow,this];rw [<-E]
  have:=this fields.toList places.toList (by simp [N]) (fun i h y=>by simpa using M i (by simpa using h) (by simpa using y));simp [this]
 obtain ⟨A,j,u⟩:=XJ (w:=w) (g:=g) (p:=false) (places[·]?) (s.toList.map fun x=>(x.1,a.eval x.2)) (q.map fun p=>(p.1,evF F p.2.2)) Z.cells _
  (by simp [O]) (JW Z) (fun i k C=>by
   have n:i<s.size:=by simpa using k
   have b:i<q.length:=by omega
   obtain ⟨q1,q2,q3⟩:=J i n b;have e:=Zf X i b;simp only [qd,qon] at e;refine ⟨q[i].2.1,by simpa using q1,by simpa using e.2,by simpa using q3,by simpa using e.1,?_⟩;have:=qr Y q2;simpa using this)
 refine .of (v := .agg A) (w':=w) ?_ (.nil L ?_)
 . simp [execOp,D,Instr.build,R,CC Q,c,j]
 rw [Ng];simp only [qmU]
 have:=Rep.agg (w:=w) (g:=g) false _ A.toList (by simpa using u.1) (fun i k=>by
  obtain ⟨x,hx,K⟩:=u.2 i k;have:A.toList.getD i undef=x:=by simp [List.getD,hx]
  rw [this];exact K)
 simpa [qps] using this
theorem xK {t} {E:Nat} {b:Bool} {s:Array (Nat×Operand)} {q:List (Nat×Nat×Opd)} {z} {d} (Q:o.op = .build t s) (Y:P.underlying t=some (.array E e)) (X:qW P e=some (b,y))
 (D:Qk P t=some z) (n:q.length=s.size) (R:∀ i (h:i<s.size) (h':i<q.length),q[i].1=s[i].1*y/\q[i].2.1=y/\opd s[i].2=some q[i].2.2/\q[i].1+q[i].2.1<=z.length)
 (N:FrOK w g F a) (k:HeapOK hp g w)
 (V:(AOp.bld d z q).sem P (evF F) hp new r ws):VRun P o a w (Post hp g w r ws):=by
 obtain ⟨M,rfl,rfl⟩:=V;obtain ⟨Z,L,rfl⟩:=ZP D w
 obtain ⟨A,f,u⟩:=XJ (w:=w) (g:=g) (p:=false) (fun i=>some (i*y,y)) (s.toList.map fun x=>(x.1,a.eval x.2)) (q.map fun p=>(p.1,evF F p.2.2)) Z.cells _
  (by simp [n]) (JW Z) (fun i m O=>by
   have l:i<s.size:=by simpa using m
   have j:i<q.length:=by omega
   obtain ⟨J,K,q2,q3⟩:=R i l j;have c:=Zf M i j;simp only [qd,qon] at c;refine ⟨q[i].2.1,by simp [J,K],by simpa using c.2,by simpa using q3,by simpa using c.1,?_⟩;have:=qr N q2;simpa using this)
 refine .of (v := .agg A) (w':=w) ?_ (.nil k ?_)
 . simp [execOp,Q,Instr.build,L,CC Y,ql X,f]
 rw [Ng];simp only [qmU]
 have:=Rep.agg (w:=w) (g:=g) false _ A.toList (by simpa using u.1) (fun i m=>by
  obtain ⟨x,C,T⟩:=u.2 i m;have:A.toList.getD i undef=x:=by simp [List.getD,C]
  rw [this];exact T)
 simpa [qps] using this
theorem tA {A:TypeId} {x} {Y:Opd} {d} {e} (j:o.op = .call c) (m:c={ callee := .builtin .len,args:=#[x],argTypes:=#[A] }) (z:P.underlying A=some (.slice e))
 (q:opd x=some Y) (b:FrOK w g F a) (h:HeapOK hp g w) (s:(AOp.len d Y).sem P (evF F) hp new r ws):VRun P o a w (Post hp g w r ws):=by
 have E:=qr b q;subst m;simp only [AOp.sem] at s;split at s
 . rename_i f n k y;obtain ⟨rfl,rfl⟩:=s;rw [y] at E;generalize u:a.eval x=v at E;cases E with
   | sl _ _ _ _ t C V=>exact .of (by simp [execOp,j,resolve,invoke,builtin,u,Builtin.len_,CC z];rfl) (.nil h (.v _ _))
 . rename_i id off n l y;obtain ⟨rfl,rfl⟩:=s;rw [y] at E;generalize u:a.eval x=v at E;cases E with
   | ms=>exact .of (by simp [execOp,j,resolve,invoke,builtin,u,Builtin.len_,CC z];rfl) (.nil h (.v _ _))
   | msz=>exact .of (by simp [execOp,j,resolve,invoke,builtin,u,Builtin.len_,CC z];rfl) (.nil h (.v _ _))
 . rename_i id off n p l y;obtain ⟨rfl,rfl⟩:=s;rw [y] at E;generalize u:a.eval x=v at E;cases GY E with
   | ms=>exact .of (by simp [execOp,j,resolve,invoke,builtin,u,Builtin.len_,CC z];rfl) (.nil h (.v _ _))
   | msz=>exact .of (by simp [execOp,j,resolve,invoke,builtin,u,Builtin.len_,CC z];rfl) (.nil h (.v _ _))
 exact s.elim
theorem tD {A:TypeId} {x} {y:Opd} {d} (z:o.op = .call c) (j:c={ callee := .builtin .len,args:=#[x],argTypes:=#[A] }) (q:P.underlying A=some .string)
 (u:opd x=some y) (v:FrOK w g F a) (k:HeapOK hp g w) (h:(AOp.lns d y).sem P (evF F) hp new r ws):VRun P o a w (Post hp g w r ws):=by
 have E:=qr v u;subst j;simp only [AOp.sem] at h;split at h
 . rename_i s b;obtain ⟨rfl,rfl⟩:=h;rw [b] at E;have e:=zZ E;exact .of (by simp [execOp,z,resolve,invoke,builtin,e,Builtin.len_,CC q];rfl) (.nil k (.v _ _))
 exact h.elim
theorem tC {A:TypeId} {x} {y:Opd} {d} {k e} (i:o.op = .call c) (t:c={ callee := .builtin .len,args:=#[x],argTypes:=#[A] }) (L:P.underlying A=some (.map k e))
 (m:opd x=some y) (f:FrOK w g F a) (u:HeapOK hp g w) (h:(AOp.lnm d y).sem P (evF F) hp new r ws):VRun P o a w (Post hp g w r ws):=by
 have E:=qr f m;subst t;simp only [AOp.sem] at h;split at h
 . rename_i id N;split at h
   . rename_i z C s;obtain ⟨rfl,rfl⟩:=h;rw [N] at E;generalize M:a.eval x=v at E;cases E with
     | mp _ c D p =>obtain ⟨l,E,j⟩:=u.rep id _ s;rw [p] at E;cases E;obtain ⟨n,q,b,_⟩:=j;refine .of (v := .int .i64 z.length) (w':=w) ?_ (.nil u (.v _ _));simp [execOp,i,resolve,invoke,builtin,M,Builtin.len_,CC L,getObj,Sem.run,q,b,goInt]
   exact h.elim
 exact h.elim
end
theorem IR (h:m<=y) (c:BoundsCode) (w:World):(Instr.sliceBound (.int .i64 (m:Int)) y c).run P w = .ok m w:=by simp [Instr.sliceBound,asIntOf,show (m:Int)<=y by omega]
def NJ:Option Operand->Option Opd->Prop
 | none,none=>True
 | some x,some y=>opd x=some y
 | _,_=>False
section
variable {P:Program} {o:Oper} {a:Act} {w:World} {g:G} {hp:Hp} {F:Nat->AV} {new:Nat} {r:AV} {ws:List (Nat×HObj)}
theorem zm {v:Option Operand} {L:Option Opd} (u:NJ v L) (j:FrOK w g F a) {l dflt:Nat}
 (h:match L.map (evF F) with | none=>l=dflt | some y=>y=I l):(v.map a.eval=none/\l=dflt/\L=none)\/(v.map a.eval=some (.int .i64 l)/\L.isSome=true):=by
 cases v with
 | none=>cases L with
   | none=>exact .inl ⟨rfl,h,rfl⟩
   | some y=>exact u.elim
 | some x=>cases L with
   | none=>exact u.elim
   | some y =>simp at h;have:=qr j u;rw [h] at this;exact .inr ⟨by simp [zZ this],rfl⟩
theorem Zl {u i M:Option Value} {s:Bool} {L c l h:Nat} (j:(u=none/\l=0)\/u=some (.int .i64 l)) (v:(i=none/\h=L/\M=none)\/i=some (.int .i64 h))
 (z:(M=none/\m=c)\/M=some (.int .i64 m)) (y:l<=h) (q:h<=m) (b:m<=c) :
 (Instr.sliceBounds s L c u i M).run P w = .ok (l,h,m) w:=by
 rcases z with ⟨rfl,rfl⟩ | rfl <;> rcases j with ⟨rfl,rfl⟩ | rfl <;> rcases v with ⟨rfl,rfl,x⟩ | rfl <;> (try (cases x)) <;> simp_all [Instr.sliceBounds,IR]
theorem tL {t x e lo N T} {y2 Y V:Option Opd} {y4 E} {y1:Opd} {d} (ho:o.op = .slice t x lo N T) (hu:P.underlying t=some (.slice e)) (ht:qW P e=some (y4,E))
 (h1:opd x=some y1) (x6:NJ lo y2) (x5:NJ N Y)
 (j:NJ T V) (hF:FrOK w g F a) (Q:HeapOK hp g w)
 (hs:(AOp.slc d E y1 y2 Y V).sem P (evF F) hp new r ws):VRun P o a w (Post hp g w r ws):=by
 have e1:=qr hF h1
 have K:∀ b n C l h m,a.eval x = .slice b n C->(Instr.sliceBounds true n C (lo.map a.eval) (N.map a.eval) (T.map a.eval)).run P w = .ok (l,h,m) w ->
  (execOp a.eval o).run P w = .ok (.value (.slice (if m=l then b else b.map (·.add (l*E))) (h - l) (m - l))) w:=fun b n C l h m hv hb=>by
  simp [execOp,ho,hv,Instr.sliceAt,Instr.slice,CC hu,ql ht,hb]
 simp only [AOp.sem,Xx] at hs;split at hs
 . rename_i z4 n cs hy;obtain ⟨l,h,hl,hh,O,y7,x8,hr,rfl⟩:=hs;rw [hy] at e1;have L:=zm x6 hF hl;have H:=zm x5 hF hh;generalize hv:a.eval x=v at e1;cases e1 with
   | sl _ _ _ _ ad C vs hn hf hc z3 =>
     have part:∀ (m:Nat) (f':Bool),h<=m->m<=C->(f'=true->m=h) ->
      Rep w g false (.sl f' (h - l) (qJ cs (l*E) ((h - l)*E))) (.slice (if m=l then ad else ad.map (·.add (l*E))) (h - l) (m - l)):=fun m f' x9 y8 y5=>by
      have x2:l*E+(h - l)*E<=cs.length:=by rw [x8,<-qm0];exact qmt _ (by omega)
      refine .sl _ _ _ _ _ _ (fun i=>vs (l*E+i)) (by omega) (fun e=>by have:=y5 e;omega) (fun i N=>?_) (fun i N=>?_)
      . rw [qV x2] at N;obtain ⟨y3,rfl,y0,hS,x4⟩:=hc (l*E+i) (by omega);obtain ⟨b,q,sp⟩:=y3;simp at y0;subst y0
        have z0:¬ m=l:=fun e=>by
         have:h - l=0:=by omega
         rw [this] at N;simp at N
        rw [if_neg z0];exact ⟨⟨b,q+l*E,none⟩,by simp [za],rfl,by simpa [qmJ] using hS,by simpa [qmJ] using x4⟩
      have Y:=N;rw [qV x2] at Y;rw [ZN N];exact z3 _ (by omega)
     cases hmx':V with
     | none =>
       rw [hmx'] at hr j;cases hmx'':T with
       | some z=>rw [hmx''] at j;exact j.elim
       | none =>
         simp at hr;subst hr;refine .of (K _ _ _ l h C hv ?_) (.nil Q (part C _ (by omega) (Qs _) (fun e=>?_)))
         . refine Zl ?_ ?_ (.inl ⟨by simp [hmx''],rfl⟩) O (by omega) (Qs _)
           . rcases L with ⟨A,f,_⟩ | ⟨A,_⟩
             . exact .inl ⟨A,f⟩
             exact .inr A
           rcases H with ⟨A,f,_⟩ | ⟨A,_⟩
           . exact .inl ⟨A,f,by simp [hmx'']⟩
           exact .inr A
         simp at e;obtain ⟨e2,this⟩:=e;have:=hf e2;omega
     | some y =>
       rw [hmx'] at hr;obtain ⟨R,s,rfl⟩:=hr;have M:=zm (l:=h) (dflt:=0) j hF (by rw [hmx'];simpa using R);refine .of (K _ _ _ l h h hv ?_) (.nil Q (part h true (Qs _) (by omega) (fun _=>rfl)));refine Zl ?_ ?_ ?_ O (Qs _) (by omega)
       . rcases L with ⟨A,f,_⟩ | ⟨A,_⟩
         . exact .inl ⟨A,f⟩
         exact .inr A
       . rcases H with ⟨A,f,k⟩ | ⟨A,_⟩
         . rw [k] at s;simp at s
         exact .inr A
       rcases M with ⟨A,f,k⟩ | ⟨A,_⟩
       . rw [hmx'] at k;cases k
       exact .inr A
 . rename_i id off n x1 hy;obtain ⟨l,h,hl,hh,O,y7,Z,x3,hr,rfl⟩:=hs;subst Z;rw [hy] at e1;have L:=zm x6 hF hl;have H:=zm x5 hF hh
   have M:∃ X:Nat->Nat,∀ C,n<=C->((T.map a.eval=none/\X C=C)\/T.map a.eval=some (.int .i64 (X C:Nat)))/\h<=X C/\X C<=C/\(N.map a.eval=none->T.map a.eval=none)/\∀ m:Nat,V.map (evF F)=some (I m)->X C=m:=by
    cases hmx':V with
    | none =>
      rw [hmx'] at j;cases hmx'':T with
      | some z=>rw [hmx''] at j;exact j.elim
      | none=>exact ⟨fun C=>C,fun C hc=>⟨.inl ⟨by simp,rfl⟩,by show h<=C;omega,Qs _,fun _=>by simp,fun m h=>by cases h⟩⟩
    | some y =>
      rw [hmx'] at x3;obtain ⟨m,R,x9,y8,s⟩:=x3;have M:=zm (l:=m) (dflt:=0) j hF (by rw [hmx'];simpa using R);refine ⟨fun _=>m,fun C hc=>⟨?_,x9,by show m<=C;omega,fun e=>?_,fun D h2=>?_⟩⟩
      . rcases M with ⟨A,f,k⟩ | ⟨A,_⟩
        . rw [hmx'] at k;cases k
        exact .inr A
      . rcases H with ⟨A,f,k⟩ | ⟨A,_⟩
        . rw [k] at s;simp at s
        rw [e] at A;cases A
      simp only [qm6,xl] at h2;have h3:(I m:AV)=I D:=R.symm.trans h2;simp only [I,AV.v.injEq,Value.int.injEq,true_and] at h3;show m=D;omega
   obtain ⟨X,M⟩:=M
   have p:∀ C,n<=C->(Instr.sliceBounds true n C (lo.map a.eval) (N.map a.eval) (T.map a.eval)).run P w = .ok (l,h,X C) w:=fun C hc=>by
    obtain ⟨m1,D,m3,m4,m5⟩:=M C hc;refine Zl ?_ ?_ m1 O D m3
    . rcases L with ⟨A,f,_⟩ | ⟨A,_⟩
      . exact .inl ⟨A,f⟩
      exact .inr A
    rcases H with ⟨A,f,k⟩ | ⟨A,_⟩
    . exact .inl ⟨A,f,m4 A⟩
    exact .inr A
   generalize hv:a.eval x=v at e1;cases e1 with
   | ms _ _ _ _ c dd C x0 ty fz u hn hb hs =>
     obtain ⟨m1,D,m3,m4,m5⟩:=M C hn;refine .of (K _ _ _ _ _ _ hv (p C hn)) (.nil Q ?_);rcases hr with rfl | ⟨mm,x7,rfl⟩
     rotate_left
     . have e0:=m5 mm x7;rw [e0] at D m3 ⊢;by_cases e:mm=l
       . have J:h - l=0:=by omega
         have z2:mm - l=0:=by omega
         rw [if_pos e,J,z2];exact .mcz _ _ _ _ _ u
       rw [if_neg e];simp only [qm6,za,qmJ];refine .mc _ _ _ _ _ c dd x0 ty fz u (by omega) hb ?_;have:(l+(mm - l))*_<=C*_:=qmt x1 (by omega);rw [qm0] at this;omega
     by_cases e:X C=l
     . have J:h - l=0:=by omega
       have z2:X C - l=0:=by omega
       rw [if_pos e,J,z2];exact .msz _ _ _ _ _ u
     rw [if_neg e];simp only [qm6,za,qmJ];refine .ms _ _ _ _ c dd _ x0 ty fz u (by omega) hb ?_;have:(l+(X C - l))*_<=C*_:=qmt x1 (by omega);rw [qm0] at this;omega
   | msz _ _ _ ad l' u =>
     obtain ⟨m1,D,m3,m4,m5⟩:=M 0 (Qs _);refine .of (K _ _ _ _ _ _ hv (p 0 (Qs _))) (.nil Q ?_);rcases hr with rfl | ⟨mm,x7,rfl⟩
     rotate_left
     . have e0:=m5 mm x7;rw [e0] at D m3 ⊢;have e:mm=l:=by omega
       have J:h - l=0:=by omega
       have z2:mm - l=0:=by omega
       rw [if_pos e,J,z2];exact .mcz _ _ _ _ _ u
     have e:X 0=l:=by omega
     have J:h - l=0:=by omega
     have z2:X 0 - l=0:=by omega
     rw [if_pos e,J,z2];exact .msz _ _ _ _ _ u
 . rename_i id off n c x1 hy;obtain ⟨l,h,m,hl,hh,hm,O,y6,y9,Z,rfl,rfl⟩:=hs;subst Z;rw [hy] at e1;have L:=zm x6 hF hl;have H:=zm x5 hF hh
   have p:(Instr.sliceBounds true n c (lo.map a.eval) (N.map a.eval) (T.map a.eval)).run P w = .ok (l,h,m) w:=by
    have M:(T.map a.eval=none/\m=c)\/(T.map a.eval=some (.int .i64 m)/\Y.isSome=true):=by
     cases hmx':V with
     | none =>
       rw [hmx'] at hm j;cases hmx'':T with
       | some z=>rw [hmx''] at j;exact j.elim
       | none=>exact .inl ⟨by simp,hm⟩
     | some y =>
       rw [hmx'] at hm;obtain ⟨R,s⟩:=hm;have M:=zm (l:=m) (dflt:=0) j hF (by rw [hmx'];simpa using R);rcases M with ⟨A,f,k⟩ | ⟨A,_⟩
       . rw [hmx'] at k;cases k
       exact .inr ⟨A,by simpa using s⟩
    refine Zl ?_ ?_ (M.imp (fun h=>h) And.left) O y6 y9
    . rcases L with ⟨A,f,_⟩ | ⟨A,_⟩
      . exact .inl ⟨A,f⟩
      exact .inr A
    rcases H with ⟨A,f,k⟩ | ⟨A,_⟩
    . rcases M with ⟨m1,_⟩ | ⟨_,D⟩
      . exact .inl ⟨A,f,m1⟩
      rw [k] at D;simp at D
    exact .inr A
   generalize hv:a.eval x=v at e1;cases e1 with
   | mc _ _ _ _ _ b dd x0 ty fz u hn hb hs =>
     refine .of (K _ _ _ _ _ _ hv p) (.nil Q ?_);by_cases e:m=l
     . have J:h - l=0:=by omega
       have z2:m - l=0:=by omega
       rw [if_pos e,J,z2];exact .mcz _ _ _ _ _ u
     rw [if_neg e];simp only [qm6,za,qmJ];refine .mc _ _ _ _ _ b dd x0 ty fz u (by omega) hb ?_;have:(l+(m - l))*_<=c*_:=qmt x1 (by omega);rw [qm0] at this;omega
   | mcz _ _ _ ad l' u =>
     refine .of (K _ _ _ _ _ _ hv p) (.nil Q ?_);have e:m=l:=by omega
     have J:h - l=0:=by omega
     have z2:m - l=0:=by omega
     rw [if_pos e,J,z2];exact .mcz _ _ _ _ _ u
 exact hs.elim
theorem tM {t x f q} {u i:Option Opd} {Y:Opd} {d} (O:o.op = .slice t x f q none) (Q:P.underlying t=some .string)
 (p:opd x=some Y) (m:NJ f u) (y:NJ q i)
 (z:FrOK w g F a) (k:HeapOK hp g w)
 (v:(AOp.sls d Y u i).sem P (evF F) hp new r ws):VRun P o a w (Post hp g w r ws):=by
 have E:=qr z p;simp only [AOp.sem] at v;split at v
 . rename_i s R;obtain ⟨l,h,N,M,b,n,rfl,rfl⟩:=v;rw [R] at E;have e:=zZ E;have L:=zm m z N;have H:=zm y z M
   have c:(Instr.sliceBounds false s.size s.size (f.map a.eval) (q.map a.eval) none).run P w = .ok (l,h,s.size) w:=by
    refine Zl ?_ ?_ (.inl ⟨rfl,rfl⟩) b n (Qs _)
    . rcases L with ⟨A,j,_⟩ | ⟨A,_⟩
      . exact .inl ⟨A,j⟩
      exact .inr A
    rcases H with ⟨A,j,T⟩ | ⟨A,_⟩
    . exact .inl ⟨A,j,rfl⟩
    exact .inr A
   exact .of (by simp [execOp,O,e,Instr.sliceAt,Instr.slice,CC Q,c]) (.nil k (.v _ _))
 exact v.elim
theorem tE {f} {u C:Array Operand} {s c:List Opd} {d} (m:o.op = .makeFunc f u C) (l:s.length=u.size) (j:c.length=C.size)
 (q:∀ i (h:i<u.size) (y:i<s.length),opd u[i]=some s[i]) (b:∀ i (h:i<C.size) (y:i<c.length),opd C[i]=some c[i]) (z:FrOK w g F a) (k:HeapOK hp g w)
 (t:(AOp.mkf d f s c).sem P (evF F) hp new r ws):VRun P o a w (Post hp g w r ws):=by
 obtain ⟨rfl,rfl⟩:=t;have Q:(u.toList.map a.eval).toArray=u.map a.eval:=by rw [<-qpy]
 have p:(C.toList.map a.eval).toArray=C.map a.eval:=by rw [<-qpy]
 refine .of (by simp [execOp,m,Instr.makeFunc];rfl) (.nil k ?_);rw [<-Q,<-p]
 have:=Rep.fn (w:=w) (g:=g) false f (s.map (evF F)) (c.map (evF F)) (u.toList.map a.eval) (C.toList.map a.eval) (by simp [l]) (by simp [j])
  (fun i v=>by simp at v;have:=qr z (q i (by omega) v);simpa [List.getD,show i<u.size by omega] using this)
  (fun i v=>by simp at v;have:=qr z (b i (by omega) v);simpa [List.getD,show i<C.size by omega] using this)
 exact this
theorem nc {mxm:Bool} {x y} {Y b:Opd} {d} (q:o.op = .call c) (t:c={ callee := .builtin (if mxm then .max else .min),args:=#[x,y],argTypes:=A })
 (f:opd x=some Y) (l:opd y=some b) (z:FrOK w g F a) (h:HeapOK hp g w)
 (s:(AOp.mx d mxm Y b).sem P (evF F) hp new r ws):VRun P o a w (Post hp g w r ws):=by
 have v:=qr z f;have j:=qr z l;subst t;simp only [AOp.sem] at s;split at s
 . rename_i k m K n p u;obtain ⟨rfl,rfl⟩:=s;rw [p] at v;rw [u] at j;have e:=zZ v;have E:=zZ j;cases mxm with
   | true=>exact .of (by simp [execOp,q,resolve,invoke,builtin,e,E,Builtin.max_,Builtin.max2]) (.nil h (.v _ _))
   | false=>exact .of (by simp [execOp,q,resolve,invoke,builtin,e,E,Builtin.min_,Builtin.min2]) (.nil h (.v _ _))
 exact s.elim
theorem tG {t e J C} {K y2:Opd} {p l b z i} {d} (X:o.op = .makeSlice t J C) (Z:P.underlying t=some (.slice e)) (Y:qW P e=some (p,l)) (f:P.info? e=some i) (x:i.bytes=b)
 (hz:Qk P e=some z) (h1:opd J=some K) (h2:opd C=some y2) (V:FrOK w g F a) (N:HeapOK hp g w) (hn:hp new=none)
 (hs:(AOp.mks d l b z K y2).sem P (evF F) hp new r ws):VRun P o a w (Post hp g w r ws):=by
 have Q:=qr V h1;have R:=qr V h2;obtain ⟨k,L,M,x0,x1,h,rfl,rfl⟩:=hs;rw [L] at Q;rw [M] at R;have E:=zZ Q;have j:=zZ R;obtain ⟨v,O,rfl⟩:=ZP hz w;simp at h
 have D:IntKind.i64.wrap (k:Int)=k:=by
  simp only [IntKind.wrap,IntKind.bits,IntKind.signed];have:(k:Int) % 2 ^ 64=k:=qpt (by omega) (by omega);simp only [this];have:¬ ((k:Int)≥2 ^ 63):=by omega
  simp;omega
 have y:¬ ((k:Int)<0):=by omega
 have q:(0:Int)<=k:=by omega
 have m:∃ A:Array Value,RowA w g false A (zh k (v.cells.toList.map AV.ofCell))/\(execOp a.eval o).run P w = .ok (.value (.slice (some ⟨w.heap.size,0,none⟩) k k)) (w.alloc (.cells A e)):=by
  have u:¬ ((i.bytes:Int)*k>281474976710656):=by
   have:((i.bytes*k:Nat):Int)=(i.bytes:Int)*k:=by simp
   rw [<-this,x,qpc];omega
  by_cases c:k*l=0
  . refine ⟨#[],?_,?_⟩
    . have:(zh k (v.cells.toList.map AV.ofCell))=[]:=qmk (by rw [QA];simpa [h] using c);rw [this];exact ⟨rfl,fun i f=>by simp at f⟩
    simp [execOp,X,E,j,Instr.makeSlice,CC Z,asInt,asIntOf,typeInfo,f,D,y,q,u,ql Y,c,newRow];congr 2;apply Array.ext';simp
  refine ⟨(Array.range (k*v.cells.size)).map fun i=>v.cells[i % v.cells.size]!,WU v k,?_⟩;simp [execOp,X,E,j,Instr.makeSlice,CC Z,asInt,asIntOf,typeInfo,f,D,y,q,u,ql Y,c,O,newRow,h]
 obtain ⟨A,s,n⟩:=m;obtain ⟨T,g1,g2,g3⟩:=Post.row N hn e s;refine .of n ⟨T,?_,g2,g3⟩;have:=Rep.ms (w:=w.alloc (.cells A e)) (g:=T) new 0 k l w.heap.size 0 k A e (0,0) g1 (Qs _) (zk _ _) (by have:=s.1;rw [QA] at this;simp [h] at this;simp;omega);simpa using this
end
theorem Hp.set_set (q:Hp) (id:Nat) (x y:HObj):Hp.set (Hp.set q id x) id y=Hp.set q id y:=by funext i;simp only [Hp.set];split <;> rfl
theorem Hp.set_self (y:Hp) {id:Nat} {x:HObj} (h:y id=some x):Hp.set y id x=y:=by
 funext i;simp only [Hp.set];split
 . rename_i e;subst e;exact h.symm
 rfl
theorem Hy {c:Nat} (h:c<n) (u:n*b<=140737488355328):¬ (Builtin.nextslicecap n c*b>281474976710656):=by have:Builtin.nextslicecap n c*b<=2*n*b:=qmt _ (nextslicecap_le h);rw [qpR] at this;omega
theorem WM {x:AV} (h:x.isPC=true):x.isPure=true:=by
 cases x with
 | v y=>rfl
 | sl=>rfl
 | ptr=>rfl
 | _=>simp [AV.isPC] at h
theorem wh {w g p x v} (r:Rep w g p x v) (h:x.isPC=true):v.oneCell'=true:=by
 cases r with
 | v=>cases v <;> simp_all [AV.isPC,Value.oneCell']
 | sl=>rfl
 | ptr=>rfl
 | _=>simp [AV.isPC] at h
theorem Wx {P:Program} {hp g w} (R:HeapOK hp g w) {f:Nat} {y:AV} {Y:List AV} {v:Value} (h:elems hp f y=some (m,Y)) (q:Nat) (x3:((Y.take q).all AV.isPC)=true) (hr:Rep w g false y v) :
 ∃ Z C,v = .slice Z m C/\Y.length=m*f/\∃ V:List Value,V.length=m*f/\(∀ k,k<=m->(Builtin.firstCells f k v).run P w = .ok (V.take (k*f)).toArray w) /\
   (∀ u∈V.take q,u.oneCell'=true)/\∀ i (z:i<Y.length),i<q->∃ u,V[i]?=some u/\Rep w g true Y[i] u:=by
 have pc:∀ i (z:i<Y.length),i<q->(Y[i]).isPC=true:=fun i z hq=>by have:=Zf x3 i (by simp;omega);simpa using this
 have fin:∀ (b q0:Nat) (N:Nat->Value),Y.length=m*f->(∀ i (h:i<Y.length),w.cell? ⟨b,q0+i,none⟩=some (N i)/\Rep w g false Y[i] (N i))->∀ C,
  ∃ V:List Value,V.length=m*f/\(∀ k,k<=m->(Builtin.firstCells f k (.slice (some ⟨b,q0,none⟩) m C)).run P w = .ok (V.take (k*f)).toArray w) /\
  (∀ u∈V.take q,u.oneCell'=true)/\∀ i (z:i<Y.length),i<q->∃ u,V[i]?=some u/\Rep w g true Y[i] u:=fun b q0 N L hh C=>by
  refine ⟨(List.range (m*f)).map N,by simp,fun k Q=>?_,fun u hu=>?_,fun i z hq=>⟨N i,by simp [show i<m*f by omega],Qy (WM (pc i z hq)) (hh i z).2⟩⟩
  . have x1:k*f<=m*f:=qmt _ Q;simp only [Builtin.firstCells];rw [qm8 w _ (k*f) N (fun j hj=>by rw [za];exact (hh j (by omega)).1)];rw [<-qpQ,List.take_range,qnu x1]
  obtain ⟨i,z,e⟩:=List.mem_take_iff_getElem.1 hu;simp at z;have r:i<Y.length:=by omega
  rw [<-e];simp only [qmv,qom];exact wh (hh i r).2 (pc i r (by omega))
 cases hr with
 | sl _ x6 n O Z C V hn hf hc x4 =>
   simp only [elems] at h;split at h
   . rename_i L;simp only [xl,qmm] at h;obtain ⟨rfl,rfl⟩:=h;by_cases h0:O.length=0
     . refine ⟨Z,C,rfl,L,[],by simp;omega,fun k Q=>?_,by simp,fun i z _=>by omega⟩;have x2:k*f=0:=by have:k*f<=n*f:=qmt _ Q;omega
       cases Z with
       | none=>simp [Builtin.firstCells]
       | some b =>simp only [Builtin.firstCells];rw [qm8 w _ (k*f) (fun _=>undef) (fun j hj=>by omega)];simp [x2]
     obtain ⟨D,rfl,T,_⟩:=hc 0 (by omega);obtain ⟨b,q1,sp⟩:=D;simp at T;subst T;refine ⟨_,C,rfl,L,fin b q1 V L (fun i z=>?_) C⟩;obtain ⟨_,e,_,_,h5⟩:=hc i z;cases e;exact ⟨h5,(x4 i z).of⟩
   cases h
 | ms id off n p c d C J ty fz L hn hb hs =>
   simp only [elems] at h;split at h
   . rename_i O t;split at h
     . rename_i o;obtain ⟨rfl,s⟩:=o;simp only [xl,qmm] at h;obtain ⟨rfl,rfl⟩:=h;obtain ⟨l,E,K⟩:=R.rep id _ t;rw [L] at E;cases E;obtain ⟨A,x5,x0,g1,g2,g3,g4,g5⟩:=K;refine ⟨_,C,rfl,qV s,fin c (d+off) (fun i=>A.getD (d+off+i) undef) (qV s) (fun i z=>?_) C⟩;have r:=z;rw [qV s] at r;obtain ⟨x,X,M⟩:=g5 (off+i) (by omega);rw [<-qmJ] at X;refine ⟨by simp [World.cell?,g1,show d+off+i<A.size by omega],?_⟩;have:A.getD (d+off+i) undef=x:=by simp [X]
       rw [this,ZN z];exact M
     cases h
   cases h
 | msz id off p a l L =>
   simp only [elems] at h;split at h
   . rename_i O t;split at h
     . rename_i o;obtain ⟨rfl,s⟩:=o;simp only [xl,qmm] at h;obtain ⟨rfl,rfl⟩:=h;refine ⟨_,0,rfl,by simp [qJ],[],by simp,fun k Q=>?_,by simp,fun i z _=>by simp [qJ] at z⟩;have:k=0:=by omega
       subst this;cases a with
       | none=>simp [Builtin.firstCells]
       | some b =>simp only [Builtin.firstCells];rw [qm8 w _ (0*p) (fun _=>undef) (fun j hj=>by omega)];simp
     cases h
   cases h
 | mc id off n C p c d J ty fz L hn hb hs =>
   simp only [elems] at h;split at h
   . rename_i O t;split at h
     . rename_i o;obtain ⟨rfl,s⟩:=o;simp only [xl,qmm] at h;obtain ⟨rfl,rfl⟩:=h;obtain ⟨l,E,K⟩:=R.rep id _ t;rw [L] at E;cases E;obtain ⟨A,x5,x0,g1,g2,g3,g4,g5⟩:=K;refine ⟨_,C,rfl,qV s,fin c (d+off) (fun i=>A.getD (d+off+i) undef) (qV s) (fun i z=>?_) C⟩;have r:=z;rw [qV s] at r;obtain ⟨x,X,M⟩:=g5 (off+i) (by omega);rw [<-qmJ] at X;refine ⟨by simp [World.cell?,g1,show d+off+i<A.size by omega],?_⟩;have:A.getD (d+off+i) undef=x:=by simp [X]
       rw [this,ZN z];exact M
     cases h
   cases h
 | mcz id off p a l L =>
   simp only [elems] at h;split at h
   . rename_i O t;split at h
     . rename_i o;obtain ⟨rfl,s⟩:=o;simp only [xl,qmm] at h;obtain ⟨rfl,rfl⟩:=h;refine ⟨_,0,rfl,by simp [qJ],[],by simp,fun k Q=>?_,by simp,fun i z _=>by simp [qJ] at z⟩;have:k=0:=by omega
       subst this;cases a with
       | none=>simp [Builtin.firstCells]
       | some b =>simp only [Builtin.firstCells];rw [qm8 w _ (0*p) (fun _=>undef) (fun j hj=>by omega)];simp
     cases h
   cases h
 | _=>simp [elems] at h
theorem Ky {P:Program} {z g w} (o:HeapOK z g w) {s:Nat} {y:AV} {Y:List AV} (h:elems z s y=some (m,Y)) (p:(Y.all AV.isPC)=true) (d:Rep w g false y v) :
 ∃ a c,v = .slice a m c/\Y.length=m*s/\∃ V:List Value,V.length=m*s/\(∀ k,k<=m->(Builtin.firstCells s k v).run P w = .ok (V.take (k*s)).toArray w) /\
   (∀ u∈V,u.oneCell'=true)/\∀ i (j:i<Y.length),∃ u,V[i]?=some u/\Rep w g true Y[i] u:=by
 obtain ⟨a,c,q,b,V,f,r,l,t⟩:=Wx (P:=P) o h Y.length (by rw [qmn (Qs _)];exact p) d;exact ⟨a,c,q,b,V,f,r,fun u e=>l u (by rw [qmn (by omega)];exact e),fun i j=>t i j j⟩
section
variable {P:Program} {o:Oper} {a:Act} {w:World} {g:G} {hp:Hp} {F:Nat->AV} {new:Nat} {r:AV} {ws:List (Nat×HObj)}
theorem JN {w:World} {g:G} {old vs:List Value} {cs ys:List AV} (z:old.length=cs.length) (s:vs.length=ys.length)
 (y:∀ i (h:i<cs.length),∃ u,old[i]?=some u/\Rep w g false cs[i] u) (q:∀ i (h:i<ys.length),∃ u,vs[i]?=some u/\Rep w g false ys[i] u) (R:Array Value) :
 ∀ i (h:i<(cs++ys).length),∃ x,(old.toArray++vs.toArray++R)[i]?=some x/\Rep w g false (cs++ys)[i] x:=by
 intro i h;simp at h;by_cases A:i<cs.length
 . obtain ⟨u,j,v⟩:=y i A;refine ⟨u,?_,by rw [qmz A];exact v⟩;rw [qmN (by simp;omega),qmN (by simp;omega)];simpa using j
 obtain ⟨u,j,v⟩:=q (i - cs.length) (by omega);refine ⟨u,?_,by rw [qmx (by omega)];exact v⟩;rw [qmN (by simp;omega),qnb (by simp;omega)];simpa [z] using j
theorem Zz {d ty:TypeId} {E:TypeId} {z:Nat} (q:P.underlying d=some (.slice e)) (h:P.underlying T=some (.slice E)\/P.underlying T=some .string) {A} (j:qW P e=some (A,z))
 {s:Option Addr} {cap:Nat} {y:Value} {vs:List Value} (l:(Builtin.lenOf y).run P w = .ok m w) (f:(Builtin.firstCells z m y).run P w = .ok vs.toArray w) (u:n+m<=cap) {v:World}
 (t:match s with | some b=>(storeCells (b.add (n*z)) vs).run P w = .ok () v | none=>v=w) :
 (Builtin.append_ #[d,T] ty #[.slice s n cap,y]).run P w = .ok (.slice s (n+m) cap) v:=by
 rcases h with h | h <;> cases s with
 | none =>subst t;simp [Builtin.append_,CC q,CC h,ql j,l,u,f]
 | some b =>simp only at t;simp [Builtin.append_,CC q,CC h,ql j,l,u,f,t]
theorem jr {q ty:TypeId} {E:TypeId} {s:Nat} (M:P.underlying q=some (.slice e)) (u:P.underlying T=some (.slice E)\/P.underlying T=some .string) {A} (L:qW P e=some (A,s)) (k:P.info? e=some i)  (O:∀ w,(zeroValue e).run P w = .ok Z w)
 {b:Option Addr} {cap:Nat} {y:Value} {old vs:List Value} (l:(Builtin.lenOf y).run P w = .ok m w) (c:(Builtin.firstCells s m y).run P w.drew = .ok vs.toArray w.drew) (x:(Builtin.firstCells s n (.slice b n cap)).run P w.drew = .ok old.toArray w.drew)
 (t:cap<n+m) (d:(n+m)*i.bytes<=140737488355328) (p:n+m<=140737488355328) :
 ∃ N,n+m<=N/\(Builtin.append_ #[q,T] ty #[.slice b n cap,y]).run P w =
   .ok (.slice (some ⟨w.heap.size,0,none⟩) (n+m) N) (w.drew.alloc (.cells (old.toArray++vs.toArray++Builtin.zeroCells Z.cells (N - (n+m))) e)):=by
 have j:¬ (n+m<=cap):=by omega
 have f:=Hy t d;have z:¬ ((n:Int)+m>IntKind.i64.max/\i.bytes=0):=fun ⟨h,_⟩=>by have:IntKind.i64.max=9223372036854775807:=rfl;rw [this] at h;omega
 have v:¬ (9223372036854775807<(n:Int)+m/\i.bytes=0):=z;refine ⟨(Question.appendCap (n+m) cap e).cut (w.tape w.drawn (Question.appendCap (n+m) cap e)),by simp [Question.cut],?_⟩;rcases u with u | u
 all_goals
  simp [Builtin.append_,CC M,CC u,ql L,l,j,c,x,typeInfo,k,f,Question.forced,O,newRow];rw [if_neg v,<-Array.append_assoc,show old.toArray++vs.toArray=(old++vs).toArray by simp]
theorem Xy {c:Call} {x y} {ex:TypeId} {u6 K x9 z i} {y1:Opd} (ho:o.op = .call c) (hc:c={ callee := .builtin .append,args:=#[x,y],argTypes:=#[ts,tx] })
 (Y:P.underlying ts=some (.slice e)) (C:P.underlying tx=some (.slice ex)\/P.underlying tx=some .string) (ht:qW P e=some (u6,K)) (T:P.info? e=some i) (y7:i.bytes=x9) (hz:Qk P e=some z) (u3:z.length=K)
 (h1:opd x=some y1) (hF:FrOK w g F a) (Z:HeapOK hp g w) (hn:hp new=none)
 {ys:List AV} (E:ys.length=m*K) {vs V:List Value} (v2:vs.length=m*K) (y9:V.length=m*K)
 (M:(Builtin.lenOf (a.eval y)).run P w = .ok m w)
 (t:(Builtin.firstCells K m (a.eval y)).run P w = .ok vs.toArray w) (d:(Builtin.firstCells K m (a.eval y)).run P w.drew = .ok V.toArray w.drew)
 (z1:∀ u∈vs,u.oneCell'=true) (u1:∀ i (T:i<ys.length),∃ u,vs[i]?=some u/\Rep w g true ys[i] u) (x4:∀ i (T:i<ys.length),∃ u,V[i]?=some u/\Rep w.drew g true ys[i] u)
 (hs:zG hp new r ws K x9 (evF F y1) m ys):VRun P o a w (Post hp g w r ws):=by
 have e1:=qr hF h1;subst hc;obtain ⟨x3,k⟩:=Z.drew;obtain ⟨zv,z2,rfl⟩:=ZP hz w
 have z0:∀ w,(zeroValue e).run P w = .ok zv w:=by
  simp only [Qk,RL,qoh] at hz;obtain ⟨v,⟨i',u8,hv⟩,_⟩:=hz;intro w';have h3:∀ w,(zeroValue e).run P w = .ok v w:=fun w=>by simp [zeroValue,typeInfo,u8,hv]
  have h4:=h3 w;rw [h4] at z2;cases z2;exact h3 w'
 simp at u3;have J:∀ (x8:Option Addr) (n cap:Nat) v w',a.eval x = .slice x8 n cap->(Builtin.append_ #[ts,tx] o.type #[.slice x8 n cap,a.eval y]).run P w = .ok v w'->(execOp a.eval o).run P w = .ok (.value v) w':=fun x8 n cap v w' hx O=>by simp [execOp,ho,resolve,invoke,builtin,hx,O]
 have A:∀ (old:List Value) (n N:Nat),old.length=n*K->n+m<=N->(old.toArray++V.toArray++Builtin.zeroCells zv.cells (N - (n+m))).size=N*K:=fun old n N h x0=>by simp [Builtin.zeroCells,h,y9,u3];rw [<-qm0,<-qm0];congr 1;omega
 simp only [zG] at hs;split at hs
 . rename_i v3 n cs hy;obtain ⟨rfl,u7,x5,x6,v8,rfl,rfl⟩:=hs;rw [hy] at e1;generalize hv:a.eval x=v at e1;cases e1 with
   | sl _ _ _ _ R cap us y8 hf hc v1 =>
     have z7:=hf rfl;subst z7;by_cases hm:m=0
     . -- nothing is appended to an empty slice
       subst hm;have v0:cap=0:=by omega
       subst v0;have y4:vs=[]:=qmk (by omega);subst y4;have L:cs=[]:=qmk (by omega);have y5:ys=[]:=qmk (by omega);subst L y5;obtain ⟨s1,s2⟩:=Z.virgin hn;refine .of (J R 0 0 (.slice R 0 0) w hv ?_) ⟨_,.msz new 0 K R .virg (by simp [G.home]),s1,s2⟩;exact Zz (cap:=0) Y C ht M t (Qs _) (by cases R <;> rfl)
     have x1:∃ old:List Value,old.length=cap*K/\(Builtin.firstCells K cap (.slice R cap cap)).run P w.drew = .ok old.toArray w.drew/\∀ i (T:i<cs.length),∃ u,old[i]?=some u/\Rep w.drew g false cs[i] u:=by
      by_cases h0:cs.length=0
      . refine ⟨[],by simp;omega,?_,fun i T=>by omega⟩;have u9:cap*K=0:=by omega
        cases R with
        | none=>simp [Builtin.firstCells]
        | some b =>simp only [Builtin.firstCells];rw [qm8 w.drew _ (cap*K) (fun _=>undef) (fun j hj=>by omega)];simp [u9]
      obtain ⟨u5,rfl,z8,_⟩:=hc 0 (by omega);obtain ⟨b,q,sp⟩:=u5;simp at z8;subst z8;refine ⟨(List.range (cap*K)).map us,by simp,?_,fun i T=>⟨us i,by simp [show i<cap*K by omega],((v1 i T).of).mono k.tr⟩⟩;simp only [Builtin.firstCells];rw [qm8 w.drew _ (cap*K) us (fun j hj=>by obtain ⟨_,e,_,_,h5⟩:=hc j (by omega);cases e;rw [za];exact h5)]
     obtain ⟨old,x7,z3,z4⟩:=x1;obtain ⟨N,f,O⟩:=jr (ty:=o.type) Y C ht T z0 M d z3 (by omega) (by rw [y7];exact x5) x6
     obtain ⟨s1,s2⟩:=x3.alloc_priv hn (old.toArray++V.toArray++Builtin.zeroCells zv.cells (N - (cap+m))) e (cs++ys) (by rw [A old cap N x7 f];simp [u7,E];rw [<- qm0];exact qmt _ f)
      (JN (by omega) (by omega) z4 (fun i T=>by obtain ⟨u,Y,hr⟩:=x4 i T;exact ⟨u,Y,hr.of⟩) _)
     refine .of (J R cap cap _ _ hv O) ⟨_,?_,s1,k.trans s2⟩;have:=Rep.ms (w:=w.drew.alloc (.cells (old.toArray++V.toArray++Builtin.zeroCells zv.cells (N - (cap+m))) e)) (g:=g.home new (.blk w.drew.heap.size 0)) new 0 (cap+m) K w.heap.size 0 N _ e (0,0) (by simp [G.home]) f (zk _ _) (by rw [A old cap N x7 f];omega);simpa using this
 . rename_i id off n s hy;split at hs
   . rename_i cs L;obtain ⟨rfl,x0,x5,x6,rfl,rfl⟩:=hs;have y2:id≠new:=fun e=>by subst e;rw [L] at hn;cases hn
     rw [hy] at e1;generalize hv:a.eval x=v at e1;cases e1 with
     | ms _ _ _ _ cb D cap p ty fz hl y8 hb u0 =>
       obtain ⟨l,q1,q2⟩:=Z.rep id _ L;rw [hl] at q1;cases q1;obtain ⟨arr',u4,z6,g1,g2,g3,g4,g5⟩:=q2;rw [hb] at g1;cases g1;by_cases Q:n+m<=cap
       . -- in its QO
         have y6:(n+m)*s<=cap*s:=qmt _ Q;rw [qm0] at y6;have z9:=Zt (P:=P) (c:=cb) (ty:=ty) (fz:=fz) (D+off+n*s) vs 0 p w hb (by omega) (fun q hq v9=>g4 q (by omega) (by omega)) z1;simp only [qnS] at z9;have y3:=jv p (D+off+n*s) vs (by omega)
         obtain ⟨s1,s2⟩:=Z.rewrite L hl hb (arr':=QE p (D+off+n*s) vs) y3 (cs':=cs.take (off+n*s)++ys) (fun q hq=>by rw [zD _ _ _ (by omega),if_pos (by omega)])
          ⟨by rw [y3];simp;omega,fun j hj=>by
           rw [zD _ _ _ (by omega)];simp at hj;have hk:(cs.take (off+n*s)).length=off+n*s:=by simp;omega
           by_cases a1:j<off+n*s
           . rw [if_pos (by omega)];obtain ⟨x,hx,hr⟩:=g5 j (by omega);exact ⟨x,hx,by rw [qmz (by omega)];simpa using hr⟩
           rw [if_neg (by omega),if_pos (by omega)];obtain ⟨u,Y,hr⟩:=u1 (j - (off+n*s)) (by omega);refine ⟨u,by rw [show D+j - (D+off+n*s)=j - (off+n*s) by omega];exact Y,?_⟩;rw [qmx (by omega)];simp only [hk];exact hr.of⟩
         obtain ⟨s3,s4⟩:=s1.rename (id:=id) (new:=new) (off:=off) (Hp.set_same _ _ _) hl (by rw [Hp.set_other _ _ (qmG y2)];exact hn) (by simp;omega);rw [Hp.set_set] at s3 s4;have X:List.drop off (cs.take (off+n*s)++ys)=qJ cs off (n*s)++ys:=by rw [qnF (by simp;omega),qou];simp [qJ]
         rw [X] at s3 s4;refine .of (J (some ⟨cb,D+off,none⟩) n cap (.slice (some ⟨cb,D+off,none⟩) (n+m) cap) (World.setArr w cb (QE p (D+off+n*s) vs) ty fz) hv ?_) ⟨_,?_,s3,s2.trans s4⟩
         . exact Zz Y C ht M t Q (by simp only [za];exact z9)
         have:=Rep.ms (w:=World.setArr w cb (QE p (D+off+n*s) vs) ty fz) (g:=g.home new (.blk cb (D+off))) new 0 (n+m) s cb (D+off) cap _ ty fz (by simp [G.home]) Q
          (QP w _ ty fz (qms.1 hb).1) (by rw [y3];omega)
         simpa using this
       -- it x2
       have x1:(Builtin.firstCells s n (.slice (some ⟨cb,D+off,none⟩) n cap)).run P w.drew = .ok ((List.range (n*s)).map fun j=>p.getD (D+off+j) undef).toArray w.drew:=by simp only [Builtin.firstCells];rw [qm8 w.drew _ (n*s) (fun j=>p.getD (D+off+j) undef) (fun j hj=>by rw [za];show World.cell? w _=_;simp [World.cell?,hb,show D+off+j<p.size by omega])]
       obtain ⟨N,f,O⟩:=jr (ty:=o.type) Y C ht T z0 M d x1 (by omega) (by rw [y7];exact x5) x6;obtain ⟨s1,s2⟩:=x3.drop L
       obtain ⟨s3,s4⟩:=s1.alloc_priv (id:=new) (by rw [Hp.set_other _ _ (qmG y2)];exact hn) (((List.range (n*s)).map fun j=>p.getD (D+off+j) undef).toArray++V.toArray++Builtin.zeroCells zv.cells (N - (n+m))) e (qJ cs off (n*s)++ys)
        (by rw [A _ n N (by simp) f];simp [qV x0,E];rw [<-qm0];exact qmt _ f)
        (JN (by simp [qV x0]) (by omega) (fun j hj=>by have y0:=hj;rw [qV x0] at y0;obtain ⟨x,hx,hr⟩:=g5 (off+j) (by omega);rw [<-qmJ] at hx;refine ⟨x,by simp [y0,hx],by rw [ZN hj];exact hr.mono k.tr⟩) (fun i T=>by obtain ⟨u,Y,hr⟩:=x4 i T;exact ⟨u,Y,hr.of⟩) _)
       refine .of (J _ n cap _ _ hv O) ⟨_,?_,s3,(k.trans s2).trans s4⟩;have:=Rep.ms (w:=w.drew.alloc (.cells (((List.range (n*s)).map fun j=>p.getD (D+off+j) undef).toArray++V.toArray++Builtin.zeroCells zv.cells (N - (n+m))) e)) (g:=g.home new (.blk w.drew.heap.size 0)) new 0 (n+m) s w.heap.size 0 N _ e (0,0) (by simp [G.home]) f (zk _ _) (by rw [A _ n N (by simp) f];omega);simpa using this
     | msz _ _ _ R l hl =>
       by_cases hm:m=0
       . subst hm;have y4:vs=[]:=qmk (by omega);subst y4;have y5:ys=[]:=qmk (by omega);subst y5;obtain ⟨s1,s2⟩:=Z.drop L;obtain ⟨s3,s4⟩:=s1.virgin (id:=new) (by rw [Hp.set_other _ _ (qmG y2)];exact hn);have X:qJ cs off (0*s)++[]=[]:=by simp [qJ]
         simp only [X];refine .of (J R 0 0 (.slice R 0 0) w hv ?_) ⟨_,.msz new 0 s R .virg (by simp [G.home]),s3,s2.trans s4⟩;exact Zz (cap:=0) Y C ht M t (Qs _) (by cases R <;> rfl)
       have x1:(Builtin.firstCells s 0 (.slice R 0 0)).run P w.drew = .ok ([]:List Value).toArray w.drew:=by
        cases R with
        | none=>simp [Builtin.firstCells]
        | some b =>simp only [Builtin.firstCells];rw [qm8 w.drew _ (0*s) (fun _=>undef) (fun j hj=>by omega)];simp
       obtain ⟨N,f,O⟩:=jr (ty:=o.type) Y C ht T z0 M d x1 (by omega) (by rw [y7];exact x5) x6;obtain ⟨s1,s2⟩:=x3.drop L;have X:qJ cs off (0*s)++ys=ys:=by simp [qJ]
       simp only [X]
       obtain ⟨s3,s4⟩:=s1.alloc_priv (id:=new) (by rw [Hp.set_other _ _ (qmG y2)];exact hn) ((([]:List Value)).toArray++V.toArray++Builtin.zeroCells zv.cells (N - (0+m))) e ys
        (by rw [A _ 0 N (by simp) f,E];exact qmt _ (by omega))
        (by have:=JN (w:=w.drew) (g:=g) (old:=[]) (vs:=V) (cs:=[]) (ys:=ys) rfl (by omega) (fun i T=>by simp at T) (fun i T=>by obtain ⟨u,Y,hr⟩:=x4 i T;exact ⟨u,Y,hr.of⟩) (Builtin.zeroCells zv.cells (N - (0+m)));simpa using this)
       refine .of (J _ 0 0 _ _ hv O) ⟨_,?_,s3,(k.trans s2).trans s4⟩;have:=Rep.ms (w:=w.drew.alloc (.cells (([]:List Value).toArray++V.toArray++Builtin.zeroCells zv.cells (N - (0+m))) e)) (g:=g.home new (.blk w.drew.heap.size 0)) new 0 (0+m) s w.heap.size 0 N _ e (0,0) (by simp [G.home]) f (zk _ _) (by rw [A _ 0 N (by simp) f];omega);simpa using this
   exact hs.elim
 . rename_i id off n c s hy;split at hs
   . rename_i cs L;obtain ⟨rfl,x0,x5,x6,hs⟩:=hs;have y2:id≠new:=fun e=>by subst e;rw [L] at hn;cases hn
     rw [hy] at e1;rcases hs with ⟨Q,v4,rfl,rfl⟩ | ⟨v7,rfl,rfl⟩
     . generalize hv:a.eval x=v at e1;cases e1 with
       | mc _ _ _ _ _ cb D p ty fz hl y8 hb u0 =>
         obtain ⟨l,q1,q2⟩:=Z.rep id _ L;rw [hl] at q1;cases q1;obtain ⟨arr',u4,z6,g1,g2,g3,g4,g5⟩:=q2;rw [hb] at g1;cases g1;have v6:(n+m)*s=n*s+m*s:=qm0 _ _ _;obtain ⟨w',s1,s2,s3⟩:=Z.store (P:=P) L hl (off+n*s) vs ys (by omega) (by omega) z1 (fun i T=>by obtain ⟨u,Y,hr⟩:=u1 i T;exact ⟨u,Y,hr.of⟩);refine .of (J (some ⟨cb,D+off,none⟩) n c (.slice (some ⟨cb,D+off,none⟩) (n+m) c) w' hv ?_) ⟨g,?_,s2,s3⟩
         . exact Zz Y C ht M t Q (by simp only [za,qmJ];exact s1)
         obtain ⟨z5,k1,k2⟩:=s3.tr.shp _ _ _ _ hb;exact .mc _ _ _ _ _ cb D z5 ty fz hl Q k1 (by omega)
       | mcz _ _ _ R l hl =>
         have hm:m=0:=by omega
         subst hm;have y4:vs=[]:=qmk (by omega);subst y4;have y5:ys=[]:=qmk (by omega);subst y5
         have u2:Hp.write hp [(id,.cells (splice cs (off+0*s) []))]=hp:=by
          have:splice cs (off+0*s) []=cs:=by simp [splice]
          rw [this];exact Hp.set_self hp L
         refine .of (J R 0 0 (.slice R 0 0) w hv ?_) ⟨g,.mcz _ _ _ _ _ hl,by rw [u2];exact Z,by rw [u2];exact .refl _ _ _⟩;exact Zz (cap:=0) Y C ht M t (Qs _) (by cases R <;> rfl)
     have x2:∀ (R:Option Addr) (old:List Value),a.eval x = .slice R n c->n<=c->old.length=n*s->(Builtin.firstCells s n (.slice R n c)).run P w.drew = .ok old.toArray w.drew ->
      (∀ i (T:i<(qJ cs off (n*s)).length),∃ u,old[i]?=some u/\Rep w.drew g false (qJ cs off (n*s))[i] u) ->
      VRun P o a w (Post hp g w (.ms new 0 (n+m) s) [(new,.cells (qJ cs off (n*s)++ys))]):=fun R old hv v5 x7 z3 z4=>by
      obtain ⟨N,f,O⟩:=jr (ty:=o.type) Y C ht T z0 M d z3 (by omega) (by rw [y7];exact x5) x6
      obtain ⟨s3,s4⟩:=x3.alloc_priv (id:=new) hn (old.toArray++V.toArray++Builtin.zeroCells zv.cells (N - (n+m))) e (qJ cs off (n*s)++ys)
       (by rw [A _ n N x7 f];simp [qV x0,E];rw [<-qm0];exact qmt _ f)
       (JN (by simp [qV x0,x7]) (by omega) z4 (fun i T=>by obtain ⟨u,Y,hr⟩:=x4 i T;exact ⟨u,Y,hr.of⟩) _)
      refine .of (J _ n c _ _ hv O) ⟨_,?_,s3,k.trans s4⟩;have:=Rep.ms (w:=w.drew.alloc (.cells (old.toArray++V.toArray++Builtin.zeroCells zv.cells (N - (n+m))) e)) (g:=g.home new (.blk w.drew.heap.size 0)) new 0 (n+m) s w.heap.size 0 N _ e (0,0) (by simp [G.home]) f (zk _ _) (by rw [A _ n N x7 f];omega);simpa using this
     generalize hv:a.eval x=v at e1;cases e1 with
     | mc _ _ _ _ _ cb D p ty fz hl y8 hb u0 =>
       obtain ⟨l,q1,q2⟩:=Z.rep id _ L;rw [hl] at q1;cases q1;obtain ⟨arr',u4,z6,g1,g2,g3,g4,g5⟩:=q2;rw [hb] at g1;cases g1;refine x2 (some ⟨cb,D+off,none⟩) ((List.range (n*s)).map fun j=>p.getD (D+off+j) undef) hv y8 (by simp) ?_ (fun j hj=>?_)
       . simp only [Builtin.firstCells];rw [qm8 w.drew _ (n*s) (fun j=>p.getD (D+off+j) undef) (fun j hj=>by rw [za];show World.cell? w _=_;simp [World.cell?,hb,show D+off+j<p.size by omega])]
       have y0:=hj;rw [qV x0] at y0;obtain ⟨x,hx,hr⟩:=g5 (off+j) (by omega);rw [<-qmJ] at hx;exact ⟨x,by simp [y0,hx],by rw [ZN hj];exact hr.mono k.tr⟩
     | mcz _ _ _ R l hl =>
       refine x2 R [] hv (Qs _) (by simp) ?_ (fun j hj=>by simp [qJ] at hj);cases R with
       | none=>simp [Builtin.firstCells]
       | some b =>simp only [Builtin.firstCells];rw [qm8 w.drew _ (0*s) (fun _=>undef) (fun j hj=>by omega)];simp
   exact hs.elim
 exact hs.elim
theorem fU {x y} {Z:TypeId} {ex:TypeId} {A X b z i} {D J:Opd} {d} (ho:o.op = .call c) (hc:c={ callee := .builtin .append,args:=#[x,y],argTypes:=#[Z,tx] })
 (hu:P.underlying Z=some (.slice e)) (Q:P.underlying tx=some (.slice ex)) (ht:qW P e=some (A,X)) (hi:P.info? e=some i) (N:i.bytes=b) (hz:Qk P e=some z) (V:z.length=X)
 (h1:opd x=some D) (h2:opd y=some J) (Y:FrOK w g F a) (k:HeapOK hp g w) (hn:hp new=none)
 (O:(AOp.app d X b D J).sem P (evF F) hp new r ws):VRun P o a w (Post hp g w r ws):=by
 have E:=qr Y h2;obtain ⟨m,ys,j,L,O⟩:=O;obtain ⟨K,C,R,n,vs,l,t,p,T⟩:=Ky (P:=P) k j L E;have f:=t m (Qs _);rw [qmn (by omega)] at f;obtain ⟨q,u⟩:=k.drew;obtain ⟨_,_,x0,_,x1,v,s,_,M⟩:=Ky (P:=P) q j L (E.mono u.tr);have h:=s m (Qs _);rw [qmn (by omega)] at h;exact Xy ho hc hu (.inl Q) ht hi N hz V h1 Y k hn n l v (by rw [R];simp [Builtin.lenOf]) f h p T M O
theorem Og (s:ByteArray):(s.data.map fun b=>Value.int .u8 b.toNat)=(s.data.toList.map fun b:UInt8=>Value.int .u8 b.toNat).toArray:=by rw [<-qpy]
theorem Du {P:Program} (s:ByteArray) (w:World):(Builtin.firstCells 1 s.size (.string s)).run P w = .ok (s.data.toList.map fun b:UInt8=>Value.int .u8 b.toNat).toArray w:=by
 have:s.extract 0 s.size=s:=by apply ByteArray.ext;simp
 simp [Builtin.firstCells,this];exact Og s
theorem NZ {w g} {p:Bool} (l:List UInt8) (i:Nat) (v:i<(QV l).length):∃ u,(l.map fun b:UInt8=>Value.int .u8 b.toNat)[i]?=some u/\Rep w g p (QV l)[i] u:=by
 have h:i<l.length:=by simpa [QV] using v
 refine ⟨.int .u8 l[i].toNat,by simp [h],?_⟩;simp only [QV,qmv];exact .v _ _
theorem xH {x y} {A t z i} {Y n:Opd} {d} (V:o.op = .call c) (N:c={ callee := .builtin .append,args:=#[x,y],argTypes:=#[T,tx] })
 (q:P.underlying T=some (.slice e)) (m:P.underlying tx=some .string) (X:qW P e=some (A,1)) (O:P.info? e=some i) (j:i.bytes=t) (C:Qk P e=some z) (l:z.length=1)
 (L:opd x=some Y) (M:opd y=some n) (p:FrOK w g F a) (k:HeapOK hp g w) (R:hp new=none)
 (v:(AOp.apps d t Y n).sem P (evF F) hp new r ws):VRun P o a w (Post hp g w r ws):=by
 have f:=qr p M;simp only [AOp.sem] at v;split at v
 . rename_i s Z;rw [Z] at f;have E:=zZ f;have Q:(QV s.data.toList).length=s.size*1:=by rw [QV,qmq,qnj];rfl
   have h:(s.data.toList.map fun b:UInt8=>Value.int .u8 b.toNat).length=s.size*1:=by rw [qmq,qnj];rfl
   refine Xy (ex:=0) V N q (.inr m) X O j C l L p k R Q h h (by rw [E];simp [Builtin.lenOf]) (by rw [E];exact Du s w) (by rw [E];exact Du s w.drew) (fun u q=>?_) (NZ _) (NZ _) v;obtain ⟨b,_,rfl⟩:=gm.1 q;rfl
 exact v.elim
end
abbrev W (ro:Option Nat):Fence:={ Fence.wide with round:=ro }
def OpRun (ro:Option Nat) (n:Nat) (P:Program) (o:Oper) (a:Act) (w:World) (p:Value->World->Prop):Prop :=
 ∀ (next:Act->World->Prop) (Q:Exit->Act->World->Prop),(∀ v w',p v w'->next (a.put o.dst v) w')->o.wpIn (W ro) n P a w next Q
section
variable {P:Program} {o:Oper} {a:Act} {w:World} {g:G} {hp:Hp} {F:Nat->AV} {new:Nat} {r:AV} {ws:List (Nat×HObj)} {ro:Option Nat} {n:Nat}
theorem OpRun.of_value {y:Value->World->Prop} (O:∀ c,o.op≠.defer c) (h:VRun P o a w y):OpRun ro n P o a w y:=by
 obtain ⟨v,w',q,e⟩:=h;intro next Q X
 refine ⟨fun _ _=>trivial,?_⟩;rw [qn2 _ _ _ O,q];exact X v w' e
theorem OpRun.of_skip {y:Value->World->Prop} (X:∀ c,o.op≠.defer c) (h:∃ q,(execOp a.eval o).run P w = .ok .skip q/\y undef q):OpRun ro n P o a w y:=by
 obtain ⟨q,e,O⟩:=h;intro next Q K
 refine ⟨fun _ _=>trivial,?_⟩;rw [qn2 _ _ _ X,e];exact K undef q O
theorem tc {x y} {x1 sz} {y1 y2:Opd} {d} (ho:o.op = .call c) (hc:c={ callee := .builtin .copy,args:=#[x,y],argTypes:=A }) (t:A[0]?=some ts)
 (L:P.underlying ts=some (.slice e)) (ht:qW P e=some (x1,sz))
 (h1:opd x=some y1) (h2:opd y=some y2) (hF:FrOK w g F a) (k:HeapOK hp g w)
 (D:(AOp.cpy d sz y1 y2).sem P (evF F) hp new r ws):VRun P o a w (Post hp g w r ws):=by
 have E:=qr hF h1;have e2:=qr hF h2;subst hc;simp only [AOp.sem] at D;split at D
 . rename_i id off n s hy;obtain ⟨m,K,C,M,N,q,rfl,x4,rfl,rfl⟩:=D;obtain ⟨x0,V,z,T,vs,Q,h,b,R⟩:=Wx (P:=P) k M _ N e2;have j:Nat.min m n<=m:=Nat.min_le_left _ _;have p:=h (Nat.min m n) j;rw [z] at p;have Y:Nat.min m n*s<=m*s:=qmt _ j;have Z:Nat.min m n*s<=n*s:=qmt _ (Nat.min_le_right _ _);rw [hy] at E;generalize J:a.eval x=v at E;cases E with
   | ms _ _ _ _ cb dd x3 x2 ty fz X hn hb x5 =>obtain ⟨w',s1,s2,s3⟩:=k.store (P:=P) q X off (vs.take (Nat.min m n*s)) (K.take (Nat.min m n*s)) (by simp;omega) (by simp;omega) b (fun i hi=>by rw [qmS] at hi;obtain ⟨u,L,hr⟩:=R i (by omega) (by omega);exact ⟨u,by rw [qnQ (by omega)];exact L,by simpa using hr.of⟩);refine .of (v := .int .i64 (Nat.min m n:Nat)) (w':=w') ?_ ⟨g,.v _ _,s2,s3⟩;simp [execOp,ho,resolve,invoke,builtin,J,z,Builtin.copy_,t,CC L,ql ht,Builtin.lenOf,goInt];rw [p];simp [s1]
   | msz _ _ _ ad l X =>
     have hz:Nat.min m 0=0:=by simp
     have O:splice C off (List.take (Nat.min m 0*s) K)=C:=by simp [splice]
     rw [O];have f:Hp.write hp [(id,.cells C)]=hp:=Hp.set_self hp q;refine .of (v := .int .i64 (Nat.min m 0:Nat)) (w':=w) ?_ ⟨g,.v _ _,by rw [f];exact k,by rw [f];exact .refl _ _ _⟩;simp [execOp,ho,resolve,invoke,builtin,J,z,Builtin.copy_,t,CC L,ql ht,Builtin.lenOf,goInt];rw [hz] at p;rw [p];cases ad <;> first | rfl | (simp [storeCells];done)
 . rename_i id off n c0 s hy;obtain ⟨m,K,C,M,N,q,rfl,x4,rfl,rfl⟩:=D;obtain ⟨x0,V,z,T,vs,Q,h,b,R⟩:=Wx (P:=P) k M _ N e2;have j:Nat.min m n<=m:=Nat.min_le_left _ _;have p:=h (Nat.min m n) j;rw [z] at p;have Y:Nat.min m n*s<=m*s:=qmt _ j;have Z:Nat.min m n*s<=n*s:=qmt _ (Nat.min_le_right _ _);rw [hy] at E;generalize J:a.eval x=v at E;cases GY E with
   | ms _ _ _ _ cb dd x3 x2 ty fz X hn hb x5 =>obtain ⟨w',s1,s2,s3⟩:=k.store (P:=P) q X off (vs.take (Nat.min m n*s)) (K.take (Nat.min m n*s)) (by simp;omega) (by simp;omega) b (fun i hi=>by rw [qmS] at hi;obtain ⟨u,L,hr⟩:=R i (by omega) (by omega);exact ⟨u,by rw [qnQ (by omega)];exact L,by simpa using hr.of⟩);refine .of (v := .int .i64 (Nat.min m n:Nat)) (w':=w') ?_ ⟨g,.v _ _,s2,s3⟩;simp [execOp,ho,resolve,invoke,builtin,J,z,Builtin.copy_,t,CC L,ql ht,Builtin.lenOf,goInt];rw [p];simp [s1]
   | msz _ _ _ ad l X =>
     have hz:Nat.min m 0=0:=by simp
     have O:splice C off (List.take (Nat.min m 0*s) K)=C:=by simp [splice]
     rw [O];have f:Hp.write hp [(id,.cells C)]=hp:=Hp.set_self hp q;refine .of (v := .int .i64 (Nat.min m 0:Nat)) (w':=w) ?_ ⟨g,.v _ _,by rw [f];exact k,by rw [f];exact .refl _ _ _⟩;simp [execOp,ho,resolve,invoke,builtin,J,z,Builtin.copy_,t,CC L,ql ht,Builtin.lenOf,goInt];rw [hz] at p;rw [p];cases ad <;> first | rfl | (simp [storeCells];done)
 exact D.elim
theorem PT {w s g z p q x v} (j:x.sc1=true) (h:Rep w g p x v):Rep s z q x v:=by
 unfold AV.sc1 at j;split at j
 . rw [zZ h];exact .v _ _
 . cases h with
   | sl _ _ _ _ a c V y f b m=>exact .sl _ _ _ _ a c V y f (fun i u=>absurd u (by simp)) (fun i u=>absurd u (by simp))
 cases j
theorem LN {w s g y p q x v} (j:x.scalar=true) (h:Rep w g p x v):Rep s y q x v:=by
 unfold AV.scalar at j;split at j
 . rw [zZ h];exact .v _ _
 . exact PT rfl h
 . cases h with
   | tup _ c V l z=>exact .tup _ _ _ l (fun i u=>PT (Zf j i u) (z i u))
 . cases h with
   | agg _ c V l z=>exact .agg _ _ _ l (fun i u=>PT (Zf j i u) (z i u))
 cases j
theorem Ko {X C:List AV} {t:List Nat} {vs:Array Value} (z:HeapOK hp g w) (Q:qj hp X=some (C,t)) (E:vs.size=X.length) (D:∀ i (h:i<X.length),Rep w g false X[i] (vs.getD i undef))
 (p:qx P f C r):CallsIn (W ro) n P f vs w fun e x=>∃ v,e = .returned v/\Post hp g w r (bif r.scalar then [] else gones t) v x:=by
 obtain ⟨k,A⟩:=z.giveAll t (qS Q);obtain ⟨K,J⟩:=Qz z Q (fun i h=>h);have O:HeapOK (fun _=>none) { (g.pub (Qn hp g t)) with ρ:=fun _=>none } w:=⟨fun _ _=>rfl,(fun _ _ h=>nomatch h),(fun _ _ _ _ _ _ _ h=>nomatch h),k.ex,k.tab⟩;refine (p ro n w { (g.pub (Qn hp g t)) with ρ:=fun _=>none } vs O (by omega) (fun i M=>(J i (by omega) M _ (D i (by omega))).pure rfl _)).mono ?_;rintro e x ⟨v,V,rfl,R,y,u⟩;refine ⟨v,rfl,?_⟩;have keep:∀ b,b<w.heap.size->x.heap[b]?=w.heap[b]?:=fun b L=>u.keep b L (fun ⟨_,_,_,h,_⟩=>by cases h)
 have N:∀ b q,V.S b q->(g.pub (Qn hp g t)).S b q\/w.heap.size<=b:=fun b q h=>by
  rcases u.S b q h with h | ⟨_,_,_,h,_⟩ | h
  . exact .inl h
  . cases h
  exact .inr h
 cases hsc:r.scalar with
 | true =>
   have l:∀ b q,g.S b q->x.cell? ⟨b,q,none⟩=w.cell? ⟨b,q,none⟩:=fun b q h=>u.tr.cell b q (.inl h)
   have T:Trans w g x { S:=fun b q=>V.S b q/\(g.S b q\/w.heap.size<=b),ρ:=g.ρ } :=
    ⟨fun b q h=>⟨u.tr.S b q (.inl h),.inl h⟩,l,fun _ _ h=>h,u.tr.shp,u.tr.os,u.tr.tape,u.tr.output,u.tr.size,u.tr.drawn⟩
   refine ⟨_,LN hsc R,?_,T,fun c Y => .inl Y,fun b q h=>?_,fun b L _=>keep b L⟩
   . refine z.change (fun _=>False) T (fun _ _=>rfl) (fun _ _=>rfl) (fun i o c d M m s j=>keep c (z.lt m s j)) (fun i o c d M m s j q Z=>?_) (fun _ h=>h.elim) (fun _ _ _ _ _ _ _ h=>h.elim) (fun b q h=>y.ex b q h.1);rcases Z.2 with h | h
     . exact h
     have:=z.lt m s j;omega
   rcases h.2 with h | h
   . exact .inl h
   exact .inr (.inr h)
 | false =>
   have T:Trans w (g.pub (Qn hp g t)) x { S:=V.S,ρ:=g.ρ } :=
    ⟨fun b q h=>u.tr.S b q h,fun b q h=>u.tr.cell b q h,fun _ _ h=>h,u.tr.shp,u.tr.os,u.tr.tape,u.tr.output,u.tr.size,u.tr.drawn⟩
   refine ⟨_,(R.pure rfl g.ρ).of,?_,A.trans ⟨T,fun c Y => .inl Y,fun b q h=>?_,fun b L _=>keep b L⟩⟩
   . refine k.change (fun _=>False) T (fun _ _=>rfl) (fun _ _=>rfl) (fun i o c d M m s j=>keep c (k.lt m s j)) (fun i o c d M m s j q Z=>?_) (fun _ h=>h.elim) (fun _ _ _ _ _ _ _ h=>h.elim) (fun b q h=>y.ex b q h);rcases N c q Z with h | h
     . exact h
     have:=k.lt m s j;omega
   rcases N b q h with h | h
   . exact .inl h
   exact .inr (.inr h)
theorem jV (hp:Hp):∀ (ws:List (Nat×HObj)) (id:Nat) (o:HObj),Hp.write hp (ws++[(id,o)])=Hp.set (Hp.write hp ws) id o
 | [],id,o=>rfl
 | (i,x)::ws,id,o=>jV (Hp.set hp i x) ws id o
theorem Dm {xs ys:List AV} {vs:Array Value} {sz:Nat} {C:List AV} (K:HeapOK hp g w) (hn:hp new=none) (T:qj hp xs=some (ys,s)) (x7:vs.size=xs.length)
 (hr:∀ i (h:i<xs.length),Rep w g false xs[i] (vs.getD i undef)) (Q:YK P f ys m sz C) :
 CallsIn (W ro) n P f vs w fun e w'=>∃ v,e = .returned v/\Post hp g w (.ms new 0 m sz) (gones s++[(new,.cells C)]) v w':=by
 obtain ⟨x5,hm⟩:=Q;obtain ⟨k,x1⟩:=K.giveAll s (qS T);obtain ⟨l1,l2⟩:=Qz K T (fun i h=>h);have E:new∉s:=fun h=>by obtain ⟨C,Z⟩:=qS T new h;rw [hn] at Z;cases Z
 have x4:Hp.write hp (gones s) new=none:=by rw [zE,if_neg E];exact hn
 have x0:HeapOK (fun _=>none) { (g.pub (Qn hp g s)) with ρ:=fun _=>none } w:=⟨fun _ _=>rfl,(fun _ _ h=>nomatch h),(fun _ _ _ _ _ _ _ h=>nomatch h),k.ex,k.tab⟩;refine (hm ro n w { (g.pub (Qn hp g s)) with ρ:=fun _=>none } vs x0 (by omega) (fun i M=>(l2 i (by omega) M _ (hr i (by omega))).pure rfl _)).mono ?_;rintro e w' ⟨v,g1,rfl,z,y,u⟩;refine ⟨v,rfl,?_⟩;have keep:∀ b,b<w.heap.size->w'.heap[b]?=w.heap[b]?:=fun b hb=>u.keep b hb (fun ⟨_,_,_,h,_⟩=>by cases h)
 have t:∀ b q,g1.S b q->(g.pub (Qn hp g s)).S b q\/w.heap.size<=b:=fun b q h=>by
  rcases u.S b q h with h | ⟨_,_,_,h,_⟩ | h
  . exact .inl h
  . cases h
  exact .inr h
 obtain ⟨l,hl,p⟩:=y.rep 0 (.cells C) rfl
 have N:∀ c d,l = .blk c d->w.heap.size<=c:=fun c d e=>by
  rcases u.live c ⟨0,.cells C,d,rfl,rfl,by rw [hl,e]⟩ with ⟨_,_,_,h,_⟩ | h
  . cases h
  exact h
 have tr:Trans w (g.pub (Qn hp g s)) w' (G.home { S:=g1.S,ρ:=g.ρ } new l) :=
  ⟨fun b q h=>u.tr.S b q h,fun b q h=>u.tr.cell b q h,fun id l' h=>by
   have:id≠new:=fun e=>by subst e;have:=k.dom id x4;rw [this] at h;cases h
   simp only [G.home,if_neg this];exact h,u.tr.shp,u.tr.os,u.tr.tape,u.tr.output,u.tr.size,u.tr.drawn⟩
 have x6:Rep w' (G.home { S:=g1.S,ρ:=g.ρ } new l) false (.ms new 0 m sz) v:=by
  cases z with
  | ms _ _ _ _ c d x2 A ty fz Y h2 h3 h4=>rw [hl] at Y;cases Y;exact .ms _ _ _ _ c d x2 A ty fz (by simp [G.home]) h2 h3 h4
  | msz _ _ _ a l' Y=>rw [hl] at Y;cases Y;exact .msz _ _ _ a l (by simp [G.home])
 refine ⟨G.home { S:=g1.S,ρ:=g.ρ } new l,x6,?_,?_⟩
 . rw [jV];refine k.change (fun i=>i=new) tr (fun i M=>Hp.set_other _ _ M) (fun i M=>by simp [G.home,M,G.pub]) (fun i o c d M R O V=>keep c (k.lt R O V)) (fun i o c d M R O V q hq=>?_) ?_ ?_ (fun b q h=>y.ex b q h)
   . rcases t c q hq with h | h
     . exact h
     have:=k.lt R O V;omega
   . rintro i rfl;refine ⟨_,l,Hp.set_same _ _ _,by simp [G.home],?_⟩;cases l with
     | virg=>exact p
     | base L=>exact p
     | blk c d =>obtain ⟨A,ty,fz,a1,a2,a3,a4,a5⟩:=p;refine ⟨A,ty,fz,a1,a2,a3,a4,fun j hj=>?_⟩;obtain ⟨x,b1,b2⟩:=a5 j hj;exact ⟨x,b1,((Qy (WM (Zf x5 j hj)) b2).pure rfl _).of⟩
   rintro i i' o o' c d d' rfl R J D x3 z X;simp only [G.home] at z X;simp at z;by_cases e:i'=i
   . exact e.symm
   rw [Hp.set_other _ _ e] at J;simp [e] at X;have Y:=k.lt J x3 X;have h2:=N c d z;omega
 rw [jV];refine x1.trans ⟨tr,?_,fun b q h=>?_,fun b hb _=>keep b hb⟩
 . rintro c ⟨i,o,d,R,D,z⟩;by_cases e:i=new
   . subst e;simp [G.home] at z;exact .inr (N c d z)
   rw [Hp.set_other _ _ e] at R;simp [G.home,e] at z;exact .inl ⟨i,o,d,R,D,z⟩
 rcases t b q h with h | h
 . exact .inl h
 exact .inr (.inr h)
theorem TK {xs ys:List AV} {is:List Nat} {vs:Array Value} {sz:Nat} {C:List AV} (k:HeapOK hp g w) (hn:hp new=none) (J:qj hp xs=some (ys,is)) (x6:vs.size=xs.length)
 (hr:∀ i (h:i<xs.length),Rep w g false xs[i] (vs.getD i undef)) (T:YK P f ys m sz C) (x1:C.all AV.isV=true) :
 CallsIn (W ro) n P f vs w fun e K=>∃ v,e = .returned v/\Post hp g w (.ms new 0 m sz) [(new,.cells C)] v K:=by
 obtain ⟨x5,hm⟩:=T;obtain ⟨A,x4⟩:=k.giveAll is (qS J);obtain ⟨l1,l2⟩:=Qz k J (fun i h=>h);have E:HeapOK (fun _=>none) { (g.pub (Qn hp g is)) with ρ:=fun _=>none } w:=⟨fun _ _=>rfl,(fun _ _ h=>nomatch h),(fun _ _ _ _ _ _ _ h=>nomatch h),A.ex,A.tab⟩;refine (hm ro n w { (g.pub (Qn hp g is)) with ρ:=fun _=>none } vs E (by omega) (fun i Q=>(l2 i (by omega) Q _ (hr i (by omega))).pure rfl _)).mono ?_;rintro e K ⟨v,g1,rfl,s,M,u⟩;refine ⟨v,rfl,?_⟩;have keep:∀ b,b<w.heap.size->K.heap[b]?=w.heap[b]?:=fun b hb=>u.keep b hb (fun ⟨_,_,_,h,_⟩=>by cases h);obtain ⟨l,hl,p⟩:=M.rep 0 (.cells C) rfl
 have N:∀ c d,l = .blk c d->w.heap.size<=c:=fun c d e=>by
  rcases u.live c ⟨0,.cells C,d,rfl,rfl,by rw [hl,e]⟩ with ⟨_,_,_,h,_⟩ | h
  . cases h
  exact h
 have tr:Trans w g K (G.home { S:=fun b q=>g1.S b q/\(g.S b q\/w.heap.size<=b),ρ:=g.ρ } new l) :=
  ⟨fun b q h=>⟨u.tr.S b q (.inl h),.inl h⟩,fun b q h=>u.tr.cell b q (.inl h),fun id l' h=>by
   have:id≠new:=fun e=>by subst e;have:=k.dom id hn;rw [this] at h;cases h
   simp only [G.home,if_neg this];exact h,u.tr.shp,u.tr.os,u.tr.tape,u.tr.output,u.tr.size,u.tr.drawn⟩
 have x3:Rep K (G.home { S:=fun b q=>g1.S b q/\(g.S b q\/w.heap.size<=b),ρ:=g.ρ } new l) false (.ms new 0 m sz) v:=by
  cases s with
  | ms _ _ _ _ c d x0 O ty fz Y h2 h3 h4=>rw [hl] at Y;cases Y;exact .ms _ _ _ _ c d x0 O ty fz (by simp [G.home]) h2 h3 h4
  | msz _ _ _ a l' Y=>rw [hl] at Y;cases Y;exact .msz _ _ _ a l (by simp [G.home])
 refine ⟨_,x3,?_,?_⟩
 . refine k.change (fun i=>i=new) tr (fun i Q=>Hp.set_other _ _ Q) (fun i Q=>by simp [G.home,Q]) (fun i o c d Q t R V=>keep c (k.lt t R V)) (fun i o c d Q t R V q hq=>?_) ?_ ?_ (fun b q h=>M.ex b q h.1)
   . rcases hq.2 with h | h
     . exact h
     have:=k.lt t R V;omega
   . rintro i rfl;refine ⟨_,l,Hp.set_same _ _ _,by simp [G.home],?_⟩;cases l with
     | virg=>exact p
     | base L=>exact p
     | blk c d =>
       obtain ⟨O,ty,fz,a1,a2,a3,a4,a5⟩:=p;refine ⟨O,ty,fz,a1,a2,fun o t h=>a3 o t h.1,a4,fun j hj=>?_⟩;obtain ⟨x,b1,b2⟩:=a5 j hj;have hv:=Zf x1 j hj;refine ⟨x,b1,?_⟩;generalize C[j]=y at hv b2;cases y with
       | v z=>rw [zZ b2];exact .v _ _
       | _=>cases hv
   rintro i i' o o' c d d' rfl t D Z x2 s X;simp only [G.home] at s X;simp at s;by_cases e:i'=i
   . exact e.symm
   rw [show Hp.write hp [(i,HObj.cells C)]=Hp.set hp i (.cells C) from rfl,Hp.set_other _ _ e] at D;simp [e] at X;have Y:=k.lt D x2 X;have h2:=N c d s;omega
 refine ⟨tr,?_,fun b q h=>?_,fun b hb _=>keep b hb⟩
 . rintro c ⟨i,o,d,t,Z,s⟩;by_cases e:i=new
   . subst e;simp [G.home] at s;exact .inr (N c d s)
   rw [show Hp.write hp [(new,HObj.cells C)]=Hp.set hp new (.cells C) from rfl,Hp.set_other _ _ e] at t;simp [G.home,e] at s;exact .inl ⟨i,o,d,t,Z,s⟩
 rcases h.2 with h | h
 . exact .inl h
 exact .inr (.inr h)
theorem Hf {x Y:List AV} {z:List Nat} {vs:Array Value} {c:List AV} (k:HeapOK hp g w) (u:hp new=none) (p:qj hp x=some (Y,z)) (s:vs.size=x.length)
 (j:∀ i (h:i<x.length),Rep w g false x[i] (vs.getD i undef)) (d:YK P f Y m y c) :
 CallsIn (W ro) n P f vs w fun e q=>∃ v,e = .returned v/\Post hp g w (.ms new 0 m y) (Wg c z++[(new,.cells c)]) v q:=by
 unfold Wg;cases e:c.all AV.isV with
 | true=>exact TK k u p s j d e
 | false=>exact Dm k u p s j d
theorem RE {xs ys:List AV} {vs:Array Value} {Φ:List (Value×Nat×AV)->Nat->Prop} (J:HeapOK hp g w) (hn:hp new=none) (R:qj hp xs=some (ys,s)) (x4:vs.size=xs.length)
 (hr:∀ i (h:i<xs.length),Rep w g false xs[i] (vs.getD i undef)) (O:HX P f ys Φ) :
 CallsIn (W ro) n P f vs w fun e w'=>∃ v,e = .returned v/\Post hp g w (.mp new) (gones s++[(new,.mpp Φ)]) v w':=by
 obtain ⟨x2,hm⟩:=O;obtain ⟨k,A⟩:=J.giveAll s (qS R);obtain ⟨l1,l2⟩:=Qz J R (fun i h=>h);have Z:new∉s:=fun h=>by obtain ⟨cs,X⟩:=qS R new h;rw [hn] at X;cases X
 have x1:Hp.write hp (gones s) new=none:=by rw [zE,if_neg Z];exact hn
 have K:HeapOK (fun _=>none) { (g.pub (Qn hp g s)) with ρ:=fun _=>none } w:=⟨fun _ _=>rfl,(fun _ _ h=>nomatch h),(fun _ _ _ _ _ _ _ h=>nomatch h),k.ex,k.tab⟩;refine (hm ro n w { (g.pub (Qn hp g s)) with ρ:=fun _=>none } vs K (by omega) (fun i t=>(l2 i (by omega) t _ (hr i (by omega))).pure rfl _)).mono ?_;rintro e w' ⟨v,g1,rfl,z,y,u⟩;refine ⟨v,rfl,?_⟩;have keep:∀ b,b<w.heap.size->w'.heap[b]?=w.heap[b]?:=fun b hb=>u.keep b hb (fun ⟨_,_,_,h,_⟩=>by cases h)
 have m:∀ b q,g1.S b q->(g.pub (Qn hp g s)).S b q\/w.heap.size<=b:=fun b q h=>by
  rcases u.S b q h with h | ⟨_,_,_,h,_⟩ | h
  . exact .inl h
  . cases h
  exact .inr h
 obtain ⟨l,hl,p⟩:=y.rep 0 (.mpp Φ) rfl
 have N:∀ c d,l = .blk c d->w.heap.size<=c:=fun c d e=>by
  rcases u.live c ⟨0,.mpp Φ,d,rfl,rfl,by rw [hl,e]⟩ with ⟨_,_,_,h,_⟩ | h
  . cases h
  exact h
 have tr:Trans w (g.pub (Qn hp g s)) w' (G.home { S:=g1.S,ρ:=g.ρ } new l) :=
  ⟨fun b q h=>u.tr.S b q h,fun b q h=>u.tr.cell b q h,fun id l' h=>by
   have:id≠new:=fun e=>by subst e;have:=k.dom id x1;rw [this] at h;cases h
   simp only [G.home,if_neg this];exact h,u.tr.shp,u.tr.os,u.tr.tape,u.tr.output,u.tr.size,u.tr.drawn⟩
 have x3:Rep w' (G.home { S:=g1.S,ρ:=g.ρ } new l) false (.mp new) v:=by
  cases z with
  | mp _ c d h1=>rw [hl] at h1;cases h1;exact .mp _ c d (by simp [G.home])
 refine ⟨G.home { S:=g1.S,ρ:=g.ρ } new l,x3,?_,?_⟩
 . rw [jV];refine k.change (fun i=>i=new) tr (fun i t=>Hp.set_other _ _ t) (fun i t=>by simp [G.home,t,G.pub]) (fun i o c d t Q M T=>keep c (k.lt Q M T)) (fun i o c d t Q M T q hq=>?_) ?_ ?_ (fun b q h=>y.ex b q h)
   . rcases m c q hq with h | h
     . exact h
     have:=k.lt Q M T;omega
   . rintro i rfl;refine ⟨_,l,Hp.set_same _ _ _,by simp [G.home],?_⟩;cases l with
     | virg=>exact p
     | base L=>exact p
     | blk c d =>obtain ⟨es,C,hΦ,E,a1,a2,a3,a4,a5⟩:=p;refine ⟨es,C,hΦ,E,a1,a2,a3,a4,fun j hj=>?_⟩;obtain ⟨x,b1,b2,b3,b4⟩:=a5 j hj;exact ⟨x,b1,b2,b3,((Qy (WM (by have:=LL.1 (x2 es C hΦ) es[j] (qmr hj);exact this)) b4).pure rfl _).of⟩
   rintro i i' o o' c d d' rfl Q D Y x0 z V;simp only [G.home] at z V;simp at z;by_cases e:i'=i
   . exact e.symm
   rw [Hp.set_other _ _ e] at D;simp [e] at V;have h1:=k.lt D x0 V;have h2:=N c d z;omega
 rw [jV];refine A.trans ⟨tr,?_,fun b q h=>?_,fun b hb _=>keep b hb⟩
 . rintro c ⟨i,o,d,Q,Y,z⟩;by_cases e:i=new
   . subst e;simp [G.home] at z;exact .inr (N c d z)
   rw [Hp.set_other _ _ e] at Q;simp [G.home,e] at z;exact .inl ⟨i,o,d,Q,Y,z⟩
 rcases m b q h with h | h
 . exact .inl h
 exact .inr (.inr h)
def opds:List Operand->Option (List Opd)
 | []=>some []
 | x::xs=>match opd x,opds xs with
   | some y,some Y=>some (y::Y)
   | _,_=>none
theorem ZJ:∀ {X:List Operand} {Y:List Opd},opds X=some Y->Y.length=X.length/\∀ i (h:i<X.length) (q:i<Y.length),opd X[i]=some Y[i]
 | [],Y,h=>by simp [opds] at h;subst h;simp
 | x::X,Y,h=>by
   simp only [opds] at h;split at h
   . rename_i y s v j;simp only [xl] at h;subst h;obtain ⟨l,L⟩:=ZJ j;refine ⟨by simp [l],fun i z u=>?_⟩;cases i with
     | zero=>simpa using v
     | succ i=>simpa using L i (by simpa using z) (by simpa using u)
   cases h
theorem zS (h:jB P f=true) (A:Array Value) (w:World):(callFunc f A).run P w = .ok (.enter f A) w:=by
 unfold jB at h;cases hf:P.funcs[f]? with
 | none=>simp [hf] at h
 | some u =>
   simp [hf] at h;obtain ⟨v,z⟩:=h;have y:u.body.isNone=false:=by cases hb:u.body <;> simp_all
   have j:¬ u.body=none:=by cases hb:u.body <;> simp_all
   simp [callFunc,hf,v,j]
theorem xL {args:Array Operand} {b:List Opd} {d} (M:o.op = .call c) (O:c={ callee := .value (.func f),args:=args,argTypes:=A }) (R:jB P f=true)
 (T:opds args.toList=some b) (N:FrOK w g F a) (k:HeapOK hp g w) (y:hp new=none)
 (L:(AOp.call d f b).sem P (evF F) hp new r ws):OpRun ro n P o a w (Post hp g w r ws):=by
 subst O;obtain ⟨Z,X,j,L⟩:=L;obtain ⟨l,V⟩:=ZJ T;intro next Q x
 refine ⟨fun _ _=>trivial,?_⟩;rw [qn2 _ _ _ (by rw [M];simp)];have q:(execOp a.eval o).run P w = .ok (.enter f (args.map a.eval)) w:=by simp [execOp,M,resolve,Act.eval,Deferred.ofValue,invoke,zS R]
 rw [q];refine ⟨fun h=>by simp [Fence.wide] at h,?_⟩;have s:∀ i (t:i<(b.map (evF F)).length),Rep w g false (b.map (evF F))[i] ((args.map a.eval).getD i undef):=fun i t=>by simp at t;have:=qr N (V i (by omega) t);simpa [show i<args.size by simp at l;omega] using this
 rcases L with ⟨z,rfl⟩ | ⟨m,Y,C,u,rfl,rfl⟩ | ⟨Φ,u,rfl,rfl⟩
 . refine (Ko k j (vs:=args.map a.eval) (by simp [l]) s z).mono ?_;rintro e w' ⟨v,rfl,p⟩;exact x v w' p
 . refine (Hf k y j (vs:=args.map a.eval) (by simp [l]) s u).mono ?_;rintro e w' ⟨v,rfl,p⟩;exact x v w' p
 refine (RE k y j (vs:=args.map a.eval) (by simp [l]) s u).mono ?_;rintro e w' ⟨v,rfl,p⟩;exact x v w' p
theorem CE {args:Array Operand} {y:Opd} {q:List Opd} {d} (K:o.op = .call c) (hc:c={ callee := .value x,args:=args,argTypes:=A })
 (hx:opd x=some y) (hq:opds args.toList=some q) (Z:FrOK w g F a) (k:HeapOK hp g w) (R:hp new=none)
 (z:(AOp.callv d y q).sem P (evF F) hp new r ws):OpRun ro n P o a w (Post hp g w r ws):=by
 subst hc;simp only [AOp.sem] at z;split at z
 . rename_i f first C hy
   obtain ⟨⟨hf,_⟩,zs,is,t,z⟩:=z;obtain ⟨l1,l2⟩:=ZJ hq;have E:=qr Z hx;rw [hy] at E;generalize hv:a.eval x=v at E;cases E with
   | fn _ _ _ _ X Y N O hr T =>
     intro next Q J
     refine ⟨fun _ _=>trivial,?_⟩;rw [qn2 _ _ _ (by rw [K];simp)];have L:(execOp a.eval o).run P w = .ok (.enter f (X.toArray++args.map a.eval++Y.toArray)) w:=by simp [execOp,K,resolve,hv,Deferred.ofValue,invoke,zS hf]
     rw [L];refine ⟨fun h=>by simp [Fence.wide] at h,?_⟩;have M:(X.toArray++args.map a.eval++Y.toArray).size=(first++q.map (evF F)++C).length:=by simp [l1,N,O]
     have s:∀ i (D:i<(first++q.map (evF F)++C).length),Rep w g false (first++q.map (evF F)++C)[i] ((X.toArray++args.map a.eval++Y.toArray).getD i undef):=fun i D=>by
      have s:args.size=q.length:=by simpa using l1.symm
      have x0:i<first.length+q.length+C.length:=by simpa [qmJ] using D
      by_cases V:i<first.length
      . rw [qmz (by simp;omega),qmz V];have:=hr i V;simp only [qmB,qmp] at this ⊢;rw [qmN (by simp;omega),qmN (by simp;omega)];simpa using this
      by_cases c2:i<first.length+q.length
      . rw [qmz (by simp;omega),qmx (by omega)];have:=qr Z (l2 (i - first.length) (by omega) (by omega))
        simp only [qmB];rw [qmN (by simp;omega),qnb (by simp;omega)];have l:i - X.length<args.size:=by omega
        simp only [List.size_toArray,Array.getElem?_map];simp only [N];rw [N] at l;simpa [l] using this
      rw [qmx (by simp;omega)];have b:i - (first++q.map (evF F)).length<C.length:=by simp;omega
      have:=T _ b;simp only [qmB,qmp] at this ⊢;rw [qnb (by simp;omega)];have e:i - (X.toArray++args.map a.eval).size=i - (first++q.map (evF F)).length:=by simp [N,s]
      rw [e];simpa using this
     rcases z with ⟨j,rfl⟩ | ⟨m,sz,cs,u,rfl,rfl⟩
     . refine (Ko k t M s j).mono ?_;rintro e w' ⟨v,rfl,p⟩;exact J v w' p
     refine (Hf k R t M s u).mono ?_;rintro e w' ⟨v,rfl,p⟩;exact J v w' p
 exact z.elim
end
section
variable {P:Program} {o:Oper} {a:Act} {w:World} {g:G} {hp:Hp} {F:Nat->AV} {new:Nat} {r:AV} {ws:List (Nat×HObj)} {ro:Option Nat} {n:Nat}
theorem fZ {x} {t:TypeId} {Y:Opd} {d} (j:o.op = .call c) (m:c={ callee := .builtin .cap,args:=#[x],argTypes:=#[t] }) (z:P.underlying t=some (.slice e))
 (q:opd x=some Y) (b:FrOK w g F a) (h:HeapOK hp g w) (s:(AOp.cap d Y).sem P (evF F) hp new r ws):VRun P o a w (Post hp g w r ws):=by
 have E:=qr b q;subst m;simp only [AOp.sem] at s;split at s
 . rename_i f n p y;obtain ⟨rfl,rfl,rfl⟩:=s;rw [y] at E;generalize u:a.eval x=v at E;cases E with
   | sl _ _ _ _ A C V k l =>have:=l rfl;subst this;exact .of (by simp [execOp,j,resolve,invoke,builtin,u,Builtin.cap_,CC z];rfl) (.nil h (.v _ _))
 . rename_i id off n c i y;obtain ⟨rfl,rfl⟩:=s;rw [y] at E;generalize u:a.eval x=v at E;cases E with
   | mc=>exact .of (by simp [execOp,j,resolve,invoke,builtin,u,Builtin.cap_,CC z];rfl) (.nil h (.v _ _))
   | mcz=>exact .of (by simp [execOp,j,resolve,invoke,builtin,u,Builtin.cap_,CC z];rfl) (.nil h (.v _ _))
 exact s.elim
theorem Qi (z:Value) (n:Nat):(Builtin.zeroCells z.cells n).toList.length=n*z.cells.size:=by simp [Builtin.zeroCells]
theorem NC {P:Program} {e:TypeId} {z:Value} {sz:Nat} (v:(z.cells.toList.map AV.ofCell).all AV.isPC=true) (n:Nat):∀ u∈(Builtin.zeroCells z.cells n).toList,u.oneCell'=true:=by
 intro u y;simp [Builtin.zeroCells] at y;obtain ⟨i,j,rfl⟩:=y
 have l:i % z.cells.size<z.cells.size:=qpw _ (by
  rcases Nat.eq_zero_or_pos z.cells.size with h | h
  . rw [h] at j;simp at j
  exact h)
 rw [getElem!_pos z.cells _ l];have:=LL.1 v (AV.ofCell z.cells[i % z.cells.size]) (by simp;exact ⟨_,by simp,rfl⟩);exact wh (jU (World.settled P default) ⟨fun _ _=>False,fun _=>none⟩ true _) this
theorem We {w g p} (z:Value) (n:Nat):∀ i (h:i<(zh n (z.cells.toList.map AV.ofCell)).length),∃ u,(Builtin.zeroCells z.cells n).toList[i]?=some u/\Rep w g p (zh n (z.cells.toList.map AV.ofCell))[i] u:=by intro i h;obtain ⟨x,v,j⟩:=(WU (w:=w) (g:=g) (p:=p) z n).2 i h;exact ⟨x,by rw [qo3];exact v,j⟩
theorem HV {e:TypeId} {z:List AV} (h:Qk P e=some z):∃ Z:Value,(∀ w,(zeroValue e).run P w = .ok Z w)/\z=Z.cells.toList.map AV.ofCell:=by simp only [Qk,RL,qoh] at h;obtain ⟨v,⟨i,u,j⟩,rfl⟩:=h;exact ⟨v,fun w=>by simp [zeroValue,typeInfo,u,j],rfl⟩
theorem ta {x} {e:TypeId} {A sz} {z:List AV} {Y:Opd} (b:o.op = .call c) (J:c={ callee := .builtin .clear,args:=#[x],argTypes:=#[T] }) (t:P.underlying T=some (.slice e))
 (ht:qW P e=some (A,sz)) (hz:Qk P e=some z) (u:z.length=sz) (p:(z.all AV.isPC)=true) (X:opd x=some Y) (D:FrOK w g F a) (k:HeapOK hp g w)
 (h:(AOp.clr sz z Y).sem P (evF F) hp new r ws):VRun P o a w (Post hp g w r ws):=by
 have E:=qr D X;subst J;obtain ⟨Z,M,rfl⟩:=HV hz;simp at u
 have m:∀ {id off n s},Rep w g false (.ms id off n s) (a.eval x)->(∃ C,hp id=some (.cells C)/\s=sz/\off+n*sz<=C.length/\r = .any/\ws=[(id,.cells (splice C off (zh n (Z.cells.toList.map AV.ofCell))))]) ->
  VRun P o a w (Post hp g w r ws):=fun {id off n s} E h=>by
  obtain ⟨C,j,rfl,K,rfl,rfl⟩:=h;have L:(zh n (Z.cells.toList.map AV.ofCell)).length=n*s:=by rw [QA];simp [u]
  generalize d:a.eval x=v at E;cases E with
  | ms _ _ _ _ cb dd V R ty fz O hn hb x0 =>
    obtain ⟨w',q,s2,s3⟩:=k.store (P:=P) j O off (Builtin.zeroCells Z.cells n).toList (zh n (Z.cells.toList.map AV.ofCell)) (by rw [Qi,L,u]) (by omega) (NC (P:=P) (e:=e) (sz:=s) p n) (We Z n);refine .of (v := .tuple #[]) (w':=w') ?_ ⟨g,.any _ _,s2,s3⟩;by_cases N:n=0
    . subst N;have:(Builtin.zeroCells Z.cells 0).toList=[]:=by simp [Builtin.zeroCells]
      rw [this] at q;simp [storeCells] at q;subst q;simp [execOp,b,resolve,invoke,builtin,d,Builtin.clear_,CC t]
    cases n with
    | zero=>exact absurd rfl N
    | succ n=>simp [execOp,b,resolve,invoke,builtin,d,Builtin.clear_,CC t,M,q]
  | msz _ _ _ Q l O =>
    have f:splice C off (zh 0 (Z.cells.toList.map AV.ofCell))=C:=by simp [splice,zh]
    rw [f];have y:Hp.write hp [(id,.cells C)]=hp:=Hp.set_self hp j;refine .of (v := .tuple #[]) (w':=w) ?_ ⟨g,.any _ _,by rw [y];exact k,by rw [y];exact .refl _ _ _⟩;cases Q <;> simp [execOp,b,resolve,invoke,builtin,d,Builtin.clear_,CC t]
 simp only [AOp.sem] at h;split at h
 . rename_i id off n s i;rw [i] at E;exact m E h
 . rename_i id off n c0 s i;rw [i] at E;exact m (GY E) h
 exact h.elim
theorem Za {L e ty:TypeId} {sz:Nat} (d:P.underlying L=some (.slice e)) (j:P.underlying T=some (.int k)) {A} (f:qW P e=some (A,sz)) (q:P.info? e=some i)  (x:∀ w,(zeroValue e).run P w = .ok Z w) (c:Z.cells.size=sz)
 {s:Option Addr} {n m cap:Nat} {z:World} (l:n+m<=cap) (N:m*i.bytes<=140737488355328) (M:m<=140737488355328)
 (t:match s with | none=>z=w | some b=>(storeCells (b.add (n*sz)) (Builtin.zeroCells Z.cells m).toList).run P w = .ok () z) :
 (Builtin.append_ #[L,T] ty #[.slice s n cap,.int .i64 (m:Int)]).run P w = .ok (.slice s (n+m) cap) z:=by
 have p:IntKind.i64.wrap (m:Int)=m:=by
  simp only [IntKind.wrap,IntKind.bits,IntKind.signed];have:(m:Int) % 2 ^ 64=m:=qpt (by omega) (by omega);simp only [this];have:¬ ((m:Int)≥2 ^ 63):=by omega
  simp;omega
 have v:¬ ((m:Int)<0):=by omega
 have u:¬ ((m:Int)*i.bytes>281474976710656):=by
  have:((m*i.bytes:Nat):Int)=(m:Int)*i.bytes:=by simp
  rw [<-this];omega
 have K:∀ b z,(storeCells (Addr.add b (n*sz)) (Builtin.zeroCells Z.cells m).toList).run P w = .ok () z->m*sz=0->z=w:=fun b z h y=>by
  have:(Builtin.zeroCells Z.cells m).toList=[]:=by apply qmk;rw [Qi,c,y]
  rw [this] at h;simp [storeCells] at h;exact h.symm
 by_cases y:m*sz=0
 . cases s with
   | none =>subst t;simp [Builtin.append_,CC d,CC j,ql f,asInt,asIntOf,p,v,typeInfo,q,u,l,y]
   | some b =>have:=K b z t y;subst this;simp [Builtin.append_,CC d,CC j,ql f,asInt,asIntOf,p,v,typeInfo,q,u,l,y,storeCells]
 cases s with
 | none =>subst t;simp [Builtin.append_,CC d,CC j,ql f,asInt,asIntOf,p,v,typeInfo,q,u,l,y,x]
 | some b =>simp only at t;simp [Builtin.append_,CC d,CC j,ql f,asInt,asIntOf,p,v,typeInfo,q,u,l,y,x,t]
theorem EA {Q e ty:TypeId} {sz:Nat} (x:P.underlying Q=some (.slice e)) (z:P.underlying T=some (.int k)) {A} (c:qW P e=some (A,sz)) (d:P.info? e=some i)  (M:∀ w,(zeroValue e).run P w = .ok Z w) (s:Z.cells.size=sz)
 {b:Option Addr} {n m cap:Nat} {O:List Value} (p:(Builtin.firstCells sz n (.slice b n cap)).run P w.drew = .ok O.toArray w.drew)
 (t:cap<n+m) (V:(n+m)*i.bytes<=140737488355328) (X:n+m<=140737488355328) :
 ∃ N,n+m<=N/\(Builtin.append_ #[Q,T] ty #[.slice b n cap,.int .i64 (m:Int)]).run P w =
   .ok (.slice (some ⟨w.heap.size,0,none⟩) (n+m) N) (w.drew.alloc (.cells (O.toArray++Builtin.zeroCells Z.cells m++Builtin.zeroCells Z.cells (N - (n+m))) e)):=by
 have L:IntKind.i64.wrap (m:Int)=m:=by
  simp only [IntKind.wrap,IntKind.bits,IntKind.signed];have:(m:Int) % 2 ^ 64=m:=qpt (by omega) (by omega);simp only [this];have:¬ ((m:Int)≥2 ^ 63):=by omega
  simp;omega
 have j:¬ ((m:Int)<0):=by omega
 have Y:m*i.bytes<=(n+m)*i.bytes:=qmt _ (by omega)
 have v:¬ ((m:Int)*i.bytes>281474976710656):=by
  have:((m*i.bytes:Nat):Int)=(m:Int)*i.bytes:=by simp
  rw [<-this];omega
 have l:¬ (n+m<=cap):=by omega
 have f:=Hy t V;have R:¬ ((n:Int)+m>IntKind.i64.max):=by have:IntKind.i64.max=9223372036854775807:=rfl;rw [this];omega
 have u:¬ (9223372036854775807<(n:Int)+m):=by omega
 refine ⟨(Question.appendCap (n+m) cap e).cut (w.tape w.drawn (Question.appendCap (n+m) cap e)),by simp [Question.cut],?_⟩;by_cases y:m*sz=0
 . have q:Builtin.zeroCells Z.cells m=#[]:=by simp [Builtin.zeroCells,s,y]
   simp [Builtin.append_,CC x,CC z,ql c,asInt,asIntOf,L,j,typeInfo,d,v,l,y,p,f,u,Question.forced,M,newRow,q]
   try (intro h;omega)
 simp [Builtin.append_,CC x,CC z,ql c,asInt,asIntOf,L,j,typeInfo,d,v,l,y,p,f,u,Question.forced,M,newRow]
 try (intro h;omega)
theorem xI {c:Call} {x y} {t2 e:TypeId} {u6 sz K i} {z:List AV} {y1 y2:Opd} {d} (ho:o.op = .call c) (hc:c={ callee := .builtin .append,args:=#[x,y],argTypes:=#[ts,t2] })
 (hu:P.underlying ts=some (.slice e)) (x1:P.underlying t2=some (.int k)) (ht:qW P e=some (u6,sz)) (hi:P.info? e=some i) (z1:i.bytes=K) (hz:Qk P e=some z) (f:z.length=sz) (z8:(z.all AV.isPC)=true)
 (h1:opd x=some y1) (h2:opd y=some y2) (hF:FrOK w g F a) (V:HeapOK hp g w) (hn:hp new=none)
 (hs:(AOp.appz d sz K z y1 y2).sem P (evF F) hp new r ws):VRun P o a w (Post hp g w r ws):=by
 have e1:=qr hF h1;have e2:=qr hF h2;subst hc;obtain ⟨Z,x3,rfl⟩:=HV hz;simp at f;obtain ⟨m,hm,hs⟩:=hs;rw [hm] at e2;have u7:=zZ e2;obtain ⟨J,X⟩:=V.drew;have x2:(zh m (Z.cells.toList.map AV.ofCell)).length=m*sz:=by rw [QA];simp [f]
 have z2:(Builtin.zeroCells Z.cells m)=(Builtin.zeroCells Z.cells m).toList.toArray:=by simp
 have x4:∀ (x6:Option Addr) (n cap:Nat) v w',a.eval x = .slice x6 n cap->(Builtin.append_ #[ts,t2] o.type #[.slice x6 n cap,.int .i64 (m:Int)]).run P w = .ok v w'->(execOp a.eval o).run P w = .ok (.value v) w':=fun x6 n cap v w' hx y4=>by simp [execOp,ho,resolve,invoke,builtin,hx,u7,y4]
 have x5:∀ (O:List Value) (n N:Nat),O.length=n*sz->n+m<=N->(O.toArray++Builtin.zeroCells Z.cells m++Builtin.zeroCells Z.cells (N - (n+m))).size=N*sz:=fun O n N h E=>by simp [Builtin.zeroCells,h,f];rw [<-qm0,<-qm0];congr 1;omega
 have Q:∀ {hp1:Hp} {wn:List (Nat×HObj)} (M:Option Addr) (n cap:Nat) (O:List Value) (C:List AV),a.eval x = .slice M n cap->n<=cap->cap<n+m->(n+m)*K<=140737488355328->n+m<=140737488355328 ->
  HeapOK hp1 g w.drew->Upd hp g w.drew hp1 g w.drew->hp1 new=none->Hp.write hp wn=Hp.set hp1 new (.cells (C++zh m (Z.cells.toList.map AV.ofCell)))->C.length=n*sz->O.length=n*sz ->
  (Builtin.firstCells sz n (.slice M n cap)).run P w.drew = .ok O.toArray w.drew->(∀ i (hi:i<C.length),∃ u,O[i]?=some u/\Rep w.drew g false C[i] u) ->
  VRun P o a w (Post hp g w (.ms new 0 (n+m) sz) wn):=fun {hp1 wn} M n cap O C hv v6 y7 R T s1 s2 v1 u3 z0 y9 z3 z4=>by
  obtain ⟨N,y8,y4⟩:=EA (ty:=o.type) hu x1 ht hi x3 f z3 y7 (by rw [z1];exact R) T
  obtain ⟨s3,s4⟩:=s1.alloc_priv (id:=new) v1 (O.toArray++Builtin.zeroCells Z.cells m++Builtin.zeroCells Z.cells (N - (n+m))) e (C++zh m (Z.cells.toList.map AV.ofCell))
   (by rw [x5 _ n N y9 y8];simp [z0,x2];rw [<-qm0];exact qmt _ y8)
   (by rw [z2];exact JN (by omega) (by rw [Qi,x2,f]) z4 (fun i hi=>by obtain ⟨u,h1,h2⟩:=We (w:=w.drew) (g:=g) (p:=false) Z m i hi;exact ⟨u,h1,h2⟩) _)
  refine .of (x4 _ n cap _ _ hv y4) ⟨_,?_,by rw [u3];exact s3,by rw [u3];exact (X.trans s2).trans s4⟩;have:=Rep.ms (w:=w.drew.alloc (.cells (O.toArray++Builtin.zeroCells Z.cells m++Builtin.zeroCells Z.cells (N - (n+m))) e)) (g:=g.home new (.blk w.drew.heap.size 0)) new 0 (n+m) sz w.heap.size 0 N _ e (0,0) (by simp [G.home]) y8 (zk _ _) (by rw [x5 _ n N y9 y8];omega);simpa using this
 simp only [zG] at hs;split at hs
 . rename_i v4 n C hy;obtain ⟨rfl,z0,R,T,v8,rfl,rfl⟩:=hs;rw [hy] at e1;generalize hv:a.eval x=v at e1;cases e1 with
   | sl _ _ _ _ M cap us x9 hf hc v3 =>
     have z7:=hf rfl;subst z7;by_cases x8:m=0
     . subst x8;have v0:cap=0:=by omega
       subst v0;have t:C=[]:=qmk (by omega);subst t;obtain ⟨s1,s2⟩:=V.virgin hn;refine .of (x4 M 0 0 (.slice M 0 0) w hv ?_) ⟨_,.msz new 0 sz M .virg (by simp [G.home]),s1,s2⟩;refine Za (n:=0) (m:=0) (cap:=0) hu x1 ht hi x3 f (Qs _) (by omega) (by omega) ?_;cases M with
       | none=>rfl
       | some b=>simp [Builtin.zeroCells,storeCells]
     have y3:∃ O:List Value,O.length=cap*sz/\(Builtin.firstCells sz cap (.slice M cap cap)).run P w.drew = .ok O.toArray w.drew/\∀ i (hi:i<C.length),∃ u,O[i]?=some u/\Rep w.drew g false C[i] u:=by
      by_cases h0:C.length=0
      . refine ⟨[],by simp;omega,?_,fun i hi=>by omega⟩;have u8:cap*sz=0:=by omega
        cases M with
        | none=>simp [Builtin.firstCells]
        | some b =>simp only [Builtin.firstCells];rw [qm8 w.drew _ (cap*sz) (fun _=>undef) (fun j Y=>by omega)];simp [u8]
      obtain ⟨u5,rfl,z9,_⟩:=hc 0 (by omega);obtain ⟨b,q,sp⟩:=u5;simp at z9;subst z9;refine ⟨(List.range (cap*sz)).map us,by simp,?_,fun i hi=>⟨us i,by simp [show i<cap*sz by omega],((v3 i hi).of).mono X.tr⟩⟩;simp only [Builtin.firstCells];rw [qm8 w.drew _ (cap*sz) us (fun j Y=>by obtain ⟨_,e,_,_,h5⟩:=hc j (by omega);cases e;rw [za];exact h5)]
     obtain ⟨O,y9,z3,z4⟩:=y3;exact Q (hp1:=hp) M cap cap O C hv (Qs _) (by omega) R T J (.refl _ _ _) hn rfl z0 y9 z3 z4
 . rename_i id off n s hy;split at hs
   . rename_i C t;obtain ⟨rfl,E,R,T,rfl,rfl⟩:=hs;have y0:id≠new:=fun e=>by subst e;rw [t] at hn;cases hn
     rw [hy] at e1;generalize hv:a.eval x=v at e1;cases e1 with
     | ms _ _ _ _ cb D cap A ty fz hl x9 hb u1 =>
       obtain ⟨l,q1,q2⟩:=V.rep id _ t;rw [hl] at q1;cases q1;obtain ⟨arr',u4,z6,g1,g2,g3,g4,g5⟩:=q2;rw [hb] at g1;cases g1;by_cases L:n+m<=cap
       . have y6:(n+m)*s<=cap*s:=qmt _ L;rw [qm0] at y6;have u9:m*i.bytes<=(n+m)*i.bytes:=qmt _ (by omega);have u0:=Zt (P:=P) (c:=cb) (ty:=ty) (fz:=fz) (D+off+n*s) (Builtin.zeroCells Z.cells m).toList 0 A w hb (by rw [Qi,f];omega) (fun q hq v2=>g4 q (by omega) (by rw [Qi,f] at v2;omega)) (NC (P:=P) (e:=e) (sz:=s) z8 m);simp only [qnS] at u0;have y5:=jv A (D+off+n*s) (Builtin.zeroCells Z.cells m).toList (by rw [Qi,f];omega)
         obtain ⟨s1,s2⟩:=V.rewrite t hl hb (arr':=QE A (D+off+n*s) (Builtin.zeroCells Z.cells m).toList) y5 (cs':=C.take (off+n*s)++zh m (Z.cells.toList.map AV.ofCell)) (fun q hq=>by rw [zD _ _ _ (by rw [Qi,f];omega),if_pos (by omega)])
          ⟨by rw [y5];simp [x2];omega,fun j Y=>by
           rw [zD _ _ _ (by rw [Qi,f];omega)];simp [x2] at Y;have hk:(C.take (off+n*s)).length=off+n*s:=by simp;omega
           by_cases a1:j<off+n*s
           . rw [if_pos (by omega)];obtain ⟨x,hx,hr⟩:=g5 j (by omega);exact ⟨x,hx,by rw [qmz (by omega)];simpa using hr⟩
           rw [if_neg (by omega),if_pos (by rw [Qi,f];omega)];obtain ⟨u,hu,hr⟩:=We (w:=w) (g:=g) (p:=false) Z m (j - (off+n*s)) (by omega);refine ⟨u,by rw [show D+j - (D+off+n*s)=j - (off+n*s) by omega];exact hu,?_⟩;rw [qmx (by omega)];simp only [hk];exact hr⟩
         obtain ⟨s3,s4⟩:=s1.rename (id:=id) (new:=new) (off:=off) (Hp.set_same _ _ _) hl (by rw [Hp.set_other _ _ (qmG y0)];exact hn) (by simp [x2];omega);rw [Hp.set_set] at s3 s4;have x0:List.drop off (C.take (off+n*s)++zh m (Z.cells.toList.map AV.ofCell))=qJ C off (n*s)++zh m (Z.cells.toList.map AV.ofCell):=by rw [qnF (by simp;omega),qou];simp [qJ]
         rw [x0] at s3 s4;refine .of (x4 (some ⟨cb,D+off,none⟩) n cap (.slice (some ⟨cb,D+off,none⟩) (n+m) cap) (World.setArr w cb (QE A (D+off+n*s) (Builtin.zeroCells Z.cells m).toList) ty fz) hv ?_) ⟨_,?_,s3,s2.trans s4⟩
         . exact Za hu x1 ht hi x3 f L (by rw [<-z1] at R;omega) (by omega) (by simp only [za];exact u0)
         have:=Rep.ms (w:=World.setArr w cb (QE A (D+off+n*s) (Builtin.zeroCells Z.cells m).toList) ty fz) (g:=g.home new (.blk cb (D+off))) new 0 (n+m) s cb (D+off) cap _ ty fz (by simp [G.home]) L
          (QP w _ ty fz (qms.1 hb).1) (by rw [y5];omega)
         simpa using this
       have y3:(Builtin.firstCells s n (.slice (some ⟨cb,D+off,none⟩) n cap)).run P w.drew = .ok ((List.range (n*s)).map fun j=>A.getD (D+off+j) undef).toArray w.drew:=by simp only [Builtin.firstCells];rw [qm8 w.drew _ (n*s) (fun j=>A.getD (D+off+j) undef) (fun j Y=>by rw [za];show World.cell? w _=_;simp [World.cell?,hb,show D+off+j<A.size by omega])]
       obtain ⟨s1,s2⟩:=J.drop t;refine Q _ n cap _ (qJ C off (n*s)) hv x9 (by omega) R T s1 s2 (by rw [Hp.set_other _ _ (qmG y0)];exact hn) rfl (qV E) (by simp) y3 (fun j Y=>?_);have x7:=Y;rw [qV E] at x7;obtain ⟨x,hx,hr⟩:=g5 (off+j) (by omega);rw [<-qmJ] at hx;exact ⟨x,by simp [x7,hx],by rw [ZN Y];exact hr.mono X.tr⟩
     | msz _ _ _ M l hl =>
       by_cases x8:m=0
       . subst x8;obtain ⟨s1,s2⟩:=V.drop t;obtain ⟨s3,s4⟩:=s1.virgin (id:=new) (by rw [Hp.set_other _ _ (qmG y0)];exact hn);have x0:qJ C off (0*s)++zh 0 (Z.cells.toList.map AV.ofCell)=[]:=by simp [qJ,zh]
         simp only [x0];refine .of (x4 M 0 0 (.slice M 0 0) w hv ?_) ⟨_,.msz new 0 s M .virg (by simp [G.home]),s3,s2.trans s4⟩;refine Za (n:=0) (m:=0) (cap:=0) hu x1 ht hi x3 f (Qs _) (by omega) (by omega) ?_;cases M with
         | none=>rfl
         | some b=>simp [Builtin.zeroCells,storeCells]
       obtain ⟨s1,s2⟩:=J.drop t;refine Q M 0 0 [] (qJ C off (0*s)) hv (Qs _) (by omega) R T s1 s2 (by rw [Hp.set_other _ _ (qmG y0)];exact hn) rfl (qV E) (by simp) ?_ (fun j Y=>by simp [qJ] at Y);cases M with
       | none=>simp [Builtin.firstCells]
       | some b =>simp only [Builtin.firstCells];rw [qm8 w.drew _ (0*s) (fun _=>undef) (fun j Y=>by omega)];simp
   exact hs.elim
 . rename_i id off n c s hy;split at hs
   . rename_i C t;obtain ⟨rfl,E,R,T,hs⟩:=hs;have y0:id≠new:=fun e=>by subst e;rw [t] at hn;cases hn
     rw [hy] at e1;rcases hs with ⟨L,v5,rfl,rfl⟩ | ⟨y7,rfl,rfl⟩
     . generalize hv:a.eval x=v at e1;have u9:m*i.bytes<=(n+m)*i.bytes:=qmt _ (by omega);rw [<-z1] at R;cases e1 with
       | mc _ _ _ _ _ cb D A ty fz hl x9 hb u1 =>
         obtain ⟨l,q1,q2⟩:=V.rep id _ t;rw [hl] at q1;cases q1;obtain ⟨arr',u4,z6,g1,g2,g3,g4,g5⟩:=q2;rw [hb] at g1;cases g1;have v7:(n+m)*s=n*s+m*s:=qm0 _ _ _;obtain ⟨w',s1,s2,s3⟩:=V.store (P:=P) t hl (off+n*s) (Builtin.zeroCells Z.cells m).toList (zh m (Z.cells.toList.map AV.ofCell)) (by rw [Qi,x2,f]) (by omega) (NC (P:=P) (e:=e) (sz:=s) z8 m) (We Z m);refine .of (x4 (some ⟨cb,D+off,none⟩) n c (.slice (some ⟨cb,D+off,none⟩) (n+m) c) w' hv ?_) ⟨g,?_,s2,s3⟩
         . exact Za hu x1 ht hi x3 f L (by omega) (by omega) (by simp only [za,qmJ];exact s1)
         obtain ⟨z5,k1,k2⟩:=s3.tr.shp _ _ _ _ hb;exact .mc _ _ _ _ _ cb D z5 ty fz hl L k1 (by omega)
       | mcz _ _ _ M l hl =>
         have x8:m=0:=by omega
         subst x8
         have u2:Hp.write hp [(id,.cells (splice C (off+0*s) (zh 0 (Z.cells.toList.map AV.ofCell))))]=hp:=by
          have:splice C (off+0*s) (zh 0 (Z.cells.toList.map AV.ofCell))=C:=by simp [splice,zh]
          rw [this];exact Hp.set_self hp t
         refine .of (x4 M 0 0 (.slice M 0 0) w hv ?_) ⟨g,.mcz _ _ _ _ _ hl,by rw [u2];exact V,by rw [u2];exact .refl _ _ _⟩;refine Za (n:=0) (m:=0) (cap:=0) hu x1 ht hi x3 f (Qs _) (by omega) (by omega) ?_;cases M with
         | none=>rfl
         | some b=>simp [Builtin.zeroCells,storeCells]
     generalize hv:a.eval x=v at e1;cases e1 with
     | mc _ _ _ _ _ cb D A ty fz hl x9 hb u1 =>
       obtain ⟨l,q1,q2⟩:=V.rep id _ t;rw [hl] at q1;cases q1;obtain ⟨arr',u4,z6,g1,g2,g3,g4,g5⟩:=q2;rw [hb] at g1;cases g1;refine Q (some ⟨cb,D+off,none⟩) n c ((List.range (n*s)).map fun j=>A.getD (D+off+j) undef) (qJ C off (n*s)) hv x9 y7 R T J (.refl _ _ _) hn rfl (qV E) (by simp) ?_ (fun j Y=>?_)
       . simp only [Builtin.firstCells];rw [qm8 w.drew _ (n*s) (fun j=>A.getD (D+off+j) undef) (fun j Y=>by rw [za];show World.cell? w _=_;simp [World.cell?,hb,show D+off+j<A.size by omega])]
       have x7:=Y;rw [qV E] at x7;obtain ⟨x,hx,hr⟩:=g5 (off+j) (by omega);rw [<-qmJ] at hx;exact ⟨x,by simp [x7,hx],by rw [ZN Y];exact hr.mono X.tr⟩
     | mcz _ _ _ M l hl =>
       refine Q M 0 0 [] (qJ C off (0*s)) hv (Qs _) y7 R T J (.refl _ _ _) hn rfl (qV E) (by simp) ?_ (fun j Y=>by simp [qJ] at Y);cases M with
       | none=>simp [Builtin.firstCells]
       | some b =>simp only [Builtin.firstCells];rw [qm8 w.drew _ (0*s) (fun _=>undef) (fun j Y=>by omega)];simp
   exact hs.elim
 exact hs.elim
theorem CK {t x tp e lo j N} {x6 p Z:Option Opd} {x7 s u} {y1:Opd} {d} (ho:o.op = .slice t x lo j N) (hu:(P.underlying t=some (.pointer tp)/\P.underlying tp=some (.array u e))\/P.underlying t=some (.array u e)) (ht:qW P e=some (x7,s))
 (h1:opd x=some y1) (x1:NJ lo x6) (K:NJ j p) (k:NJ N Z) (C:FrOK w g F a) (V:HeapOK hp g w)
 (X:(AOp.slp d s u y1 x6 p Z).sem P (evF F) hp new r ws):VRun P o a w (Post hp g w r ws):=by
 have E:=qr C h1
 have x5:∀ b q l h m,a.eval x = .pointer (some ⟨b,q,none⟩)->(Instr.sliceBounds false u u (lo.map a.eval) (j.map a.eval) (N.map a.eval)).run P w = .ok (l,h,m) w ->
  (execOp a.eval o).run P w = .ok (.value (.slice (some (if m=l then ⟨b,q,none⟩ else ⟨b,q+l*s,none⟩)) (h - l) (m - l))) w:=fun b q l h m D hb=>by
  rcases hu with ⟨hu,y4⟩ | hu
  . simp [execOp,ho,D,Instr.sliceAt,Instr.slice,CC hu,CC y4,ql ht,hb,asAddr,za]
  simp [execOp,ho,D,Instr.sliceAt,CC hu,ql ht,hb,Instr.sureAddr,za]
 simp only [AOp.sem] at X;split at X
 . rename_i id off hy;split at X
   . rename_i cs x9;obtain ⟨l,h,m,hl,hh,hm,T,y0,x2,y2,rfl,rfl⟩:=X;rw [hy] at E;have L:=zm x1 C hl;have H:=zm K C hh
     have f:(Instr.sliceBounds false u u (lo.map a.eval) (j.map a.eval) (N.map a.eval)).run P w = .ok (l,h,m) w:=by
      have M:(N.map a.eval=none/\m=u)\/(N.map a.eval=some (.int .i64 m)/\p.isSome=true):=by
       cases hmx':Z with
       | none =>
         rw [hmx'] at hm k;cases hmx'':N with
         | some z=>rw [hmx''] at k;exact k.elim
         | none=>exact .inl ⟨by simp,hm⟩
       | some y =>
         rw [hmx'] at hm;obtain ⟨y5,Y⟩:=hm;have M:=zm (l:=m) (dflt:=0) k C (by rw [hmx'];simpa using y5);rcases M with ⟨A,O,J⟩ | ⟨A,_⟩
         . rw [hmx'] at J;cases J
         exact .inr ⟨A,by simpa using Y⟩
      refine Zl ?_ ?_ (M.imp (fun h=>h) And.left) T y0 x2
      . rcases L with ⟨A,O,_⟩ | ⟨A,_⟩
        . exact .inl ⟨A,O⟩
        exact .inr A
      rcases H with ⟨A,O,J⟩ | ⟨A,_⟩
      . rcases M with ⟨m1,_⟩ | ⟨_,m2⟩
        . exact .inl ⟨A,O,m1⟩
        rw [J] at m2;simp at m2
      exact .inr A
     generalize D:a.eval x=v at E;cases E with
     | ref _ _ c dd R =>
       obtain ⟨l0,q1,q2⟩:=V.rep id _ x9;rw [R] at q1;cases q1;obtain ⟨x8,ty,fz,g1,g2,_⟩:=q2;refine .of (x5 _ _ _ _ _ D f) (.nil V ?_);by_cases e:m=l
       . have z1:h - l=0:=by omega
         have z2:m - l=0:=by omega
         rw [if_pos e,z1,z2];exact .mcz _ _ _ _ _ R
       rw [if_neg e];have x3:l*s+(m - l)*s=m*s:=by rw [<-qm0];congr 1;omega
       have y6:m*s<=u*s:=qmt _ x2;have:=Rep.mc (w:=w) (g:=g) id (off+l*s) (h - l) (m - l) s c dd x8 ty fz R (by omega) g1 (by omega);rw [<-qmJ] at this;exact this
   exact X.elim
 . rename_i cs off hy;obtain ⟨l,h,hl,hh,y3,T,x0,y2,rfl,rfl⟩:=X;subst y3
   have x4:N=none:=by cases N with
    | none=>rfl
    | some z=>exact k.elim
   subst x4;rw [hy] at E;have L:=zm x1 C hl;have H:=zm K C hh
   have f:(Instr.sliceBounds false u u (lo.map a.eval) (j.map a.eval) (Option.map a.eval none)).run P w = .ok (l,h,u) w:=by
    refine Zl ?_ ?_ (.inl ⟨rfl,rfl⟩) T x0 (Qs _)
    . rcases L with ⟨A,O,_⟩ | ⟨A,_⟩
      . exact .inl ⟨A,O⟩
      exact .inr A
    rcases H with ⟨A,O,J⟩ | ⟨A,_⟩
    . exact .inl ⟨A,O,rfl⟩
    exact .inr A
   generalize D:a.eval x=v at E;cases E with
   | ptr _ _ _ b q vs hc hr =>
     refine .of (x5 _ _ _ _ _ D f) (.nil V ?_)
     have Q:off+l*s+(h - l)*s<=cs.length:=by
      have:l*s+(h - l)*s=h*s:=by rw [<-qm0];congr 1;omega
      have:h*s<=u*s:=qmt _ x0;omega
     refine .sl _ _ _ _ _ _ (fun i=>vs (off+l*s+i)) (by omega) (fun e=>by simp at e;omega) (fun i j=>?_) (fun i j=>?_)
     . rw [qV Q] at j
       have x3:¬ u=l:=fun e=>by
        have:h - l=0:=by omega
        rw [this] at j;simp at j
       rw [if_neg x3];obtain ⟨c1,c2⟩:=hc (off+l*s+i) (by omega);exact ⟨_,rfl,rfl,by simpa [qmJ] using c1,by simpa [qmJ] using c2⟩
     have p:=j;rw [qV Q] at p;rw [ZN j];exact hr _ (by omega)
 exact X.elim
theorem TM {w:World} {q:Nat} (h:w.cell? ⟨b,q,none⟩=some v):∃ (A:Array Value) (t:TypeId) (f:Nat×Nat),w.heap[b]?=some (.cells A t f)/\q<A.size:=by
 unfold World.cell? at h;cases ho:w.heap[b]? with
 | none=>simp [ho] at h
 | some o =>
   cases o with
   | cells A t f =>simp only [ho,Option.isSome_none,qmM,qnc] at h;exact ⟨A,t,f,rfl,(qms.1 h).1⟩
   | _=>simp [ho] at h
theorem DX {R:TypeId} (u v:Option Addr) (m n c C:Nat):Extern.SlicesOverlaps.overlaps #[T,T] #[R] #[.slice u m c,.slice v n C]=(do
 let some t := (#[T, T] : Array TypeId)[0]? | stuck "slices.overlaps: no parameter types"
 let .slice e ← underlying t | stuck "slices.overlaps: slice type expected"
 let s <-sizeOf e
 match u,v with
 | some a,some b =>
   if m=0\/n=0\/s=0 then pure (Value.bool false)
   else if a.block != b.block&&(<-frozen a)&&(<-frozen b) then unsupported .addressObserved
   else do
    if a.block != b.block then do
     noView a;noView b
     if ← mayBeOne a b then return Value.bool ((← choose (.extern "sameAddr.stringBytes" 2)) == 1)
    pure (Value.bool (a.block==b.block&&a.off<b.off+n*s&&b.off<a.off+m*s))
 | _,_=>pure (Value.bool false)):=rfl
theorem fK {V tR:TypeId} (Q:P.underlying V=some (.slice e)) {z:Nat} (R:∀ w,(sizeOf e).run P w = .ok z w) {n p C q c:Nat} {u A:Array Value} {X Y t y}
 (Z:w.heap[b]?=some (.cells u X Y)) (D:0<u.size) (E:w.heap[c]?=some (.cells A t y)) (J:d<=A.size) (i:d+O<=A.size) (f:∀ o,d<=o->o<=A.size->w.frozen? ⟨c,o,none⟩=false)
 (s:b=c->q+m*z<=d) :
 (Extern.SlicesOverlaps.overlaps #[V,V] #[tR] #[.slice (some ⟨b,q,none⟩) m p,.slice (some ⟨c,d+O,none⟩) n C]).run P w = .ok (.bool false) w:=by
 rw [DX];by_cases l:m=0\/n=0\/z=0
 . simp [CC Q,R,l]
 have j:w.shape? b=some (X,u.size):=by simp [World.shape?,Z]
 have N:w.shape? c=some (t,A.size):=by simp [World.shape?,E]
 have x:=f (d+O) (by omega) i;have L:=f A.size J (Qs _);by_cases v:b=c
 . subst v;have M:¬ (d+O<q+m*z):=by have:=s rfl;omega
   simp [CC Q,R,l,M]
 have T:∃ k,u.size=k+1:=⟨u.size - 1,by omega⟩;obtain ⟨k,hk⟩:=T;rw [hk] at j;have K:(if h:A.size<A.size then (0:Nat) else 0)=0:=by simp
 cases ha:w.frozen? ⟨b,q,none⟩ <;> cases hb:w.frozen? ⟨b,k+1,none⟩ <;>
  simp [CC Q,R,l,v,frozen,noView,viewAt,mayBeOne,stringish,shape,Sem.run,j,N,x,L,ha,hb]
def Tp (P:Program) (f:FuncId) (x:List AV) (hp:Hp) (r:AV):Prop :=
 ∀ (w:World) (g:G) (V:Array Value),HeapOK hp g w->V.size=x.length->(∀ i (h:i<x.length),Rep w g false x[i] (V.getD i undef))->∃ v,(callFunc f V).run P w = .ok (.value v) w/\Rep w g false r v
theorem mL {k:Func} {tS tR:TypeId} {agg sz}
 (hf : P.funcs[f]? = some k) (d : (k.name == "runtime.NumGoroutine") = false) (hb : k.body.isNone = true) (hn : Extern.findNext k = none) (he : Extern.find k = some (Extern.SlicesOverlaps.overlaps #[tS, tS] #[tR]))
 (R:P.underlying tS=some (.slice e)) (Q:qW P e=some (agg,sz)) {z:Bool} {Z:List AV} {id n:Nat} {bs:List AV} (x1:Z.length=m*sz) (x0:hp id=some (.cells bs)) {y:AV} (hy:y = .ms id O n sz\/∃ c,y = .mc id O n c sz) :
 Tp P f [.sl z m Z,y] hp (B false):=by
 intro w g Y x4 T p;have J:=p 0 (by simp);have E:=p 1 (by simp);simp only [qnL,qna] at J E
 obtain ⟨V,X,rfl⟩:∃ V X,Y=#[V,X]:=by
  have h2:Y.size=2:=by simpa using T
  refine ⟨Y[0],Y[1],?_⟩;apply Array.ext (by simp [h2]);intro i y6 x3
  match i,x3 with
  | 0,_=>rfl
  | 1,_=>rfl
 have e3:Rep w g false (.ms id O n sz) X:=by
  rcases hy with rfl | ⟨c,rfl⟩
  . exact E
  exact GY E
 have e4:Rep w g false (.sl z m Z) V:=J;clear J E p T
 have fin:∀ u m C j n c2,V = .slice u m C->X = .slice j n c2->(Extern.SlicesOverlaps.overlaps #[tS,tS] #[tR] #[.slice u m C,.slice j n c2]).run P w = .ok (.bool false) w ->
  ∃ v,(callFunc f #[V,X]).run P w = .ok (.value v) w/\Rep w g false (B false) v:=fun u m C j n c2 hx hy hr=>by
  refine ⟨.bool false,?_,.v _ _⟩;rw [hx,hy,run_callFunc_extern hf d hb hn he,hr];rfl
 have t:∀ (u j:Option Addr) m C n c2,(u=none\/j=none\/m=0\/n=0)->(Extern.SlicesOverlaps.overlaps #[tS,tS] #[tR] #[.slice u m C,.slice j n c2]).run P w = .ok (.bool false) w:=fun u j m C n c2 h=>by
  cases u with
  | none=>cases j <;> simp [DX,CC R,ql Q]
  | some u=>cases j with
    | none=>simp [DX,CC R,ql Q]
    | some j =>
      have:m=0\/n=0:=by simpa using h
      have s:m=0\/n=0\/sz=0:=by rcases this with h | h <;> simp [h]
      simp [DX,CC R,ql Q,s]
 cases e4 with
 | sl _ _ _ _ ad y1 Y y8 y5 M z0 =>
   cases e3 with
   | msz _ _ _ x9 l hl=>exact fin _ _ _ _ _ _ rfl rfl (t _ _ _ _ _ _ (.inr (.inr (.inr rfl))))
   | ms _ _ _ _ cb D x7 x6 z2 y3 hl y9 x x8 =>
     by_cases s:Z.length=0
     . rw [x1] at s;rcases Nat.mul_eq_zero.1 s with s | s
       . subst s;exact fin _ _ _ _ _ _ rfl rfl (t _ _ _ _ _ _ (.inr (.inr (.inl rfl))))
       subst s;refine fin _ _ _ _ _ _ rfl rfl ?_;cases ad with
       | none=>exact t _ _ _ _ _ _ (.inl rfl)
       | some u=>simp [DX,CC R,ql Q]
     obtain ⟨A,rfl,N,K,L⟩:=M 0 (by omega);obtain ⟨b,q,sp⟩:=A;simp at N;subst N;simp only [qnS] at L;obtain ⟨y0,ty,fz,k1,k2⟩:=TM L;obtain ⟨l,q1,q2⟩:=x4.rep id _ x0;rw [hl] at q1;cases q1;obtain ⟨x5,z1,y2,g1,g2,g3,g4,g5⟩:=q2;rw [x] at g1;cases g1;refine fin _ _ _ _ _ _ rfl rfl (fK R (fun w=>ql Q w) k1 (by omega) x (by omega) (by omega) g4 (fun e=>?_));subst e;rcases qmV D (q+m*sz) with y7 | x2
     . exfalso;have y4:¬ D<=q:=fun h=>by exact g3 q h (by simpa using K)
       obtain ⟨_,e,_,hS,_⟩:=M (D - q) (by omega);cases e;exact g3 D (Qs _) (by rw [show q+(D - q)=D by omega] at hS;exact hS)
     exact x2
end
end Go.AM
