/-
  Kt1: texts joined: Am0 Am1 Am2 Am3 Am4 Am5 Am6 Am7 Am8 Am9 Am10 Am10a. Own work.
-/
import Derived.WalkKit
import Derived.Lib.TrailingZeros
import Derived.RangeFuncIn
import Derived.OrdersIn
import Derived.Laws.Externs
set_option linter.all false
set_option linter.unusedSimpArgs false
set_option linter.unusedVariables false
set_option linter.unusedSectionVars false

namespace Go.AM
def qDI:List (Nat × Nat × (Nat->Value->Prop)):=[(1,64,fun i v=>v = .int .u8 (Lib.deBruijn64tab.getD i 0))]
inductive AV where
 | v (x:Value)
 | sl (full:Bool) (n:Nat) (cs:List AV)
 | agg (cs:List AV)
 | tup (vs:List AV)
 | ptr (cs:List AV) (off:Nat)
 | ref (id off:Nat)
 | ms (id off n sz:Nat)
 | fn (f:Fn) (first caps:List AV)
 | mp (id:Nat)
 | mc (id off n c sz:Nat)
 | yl (id:Nat)
 | any
 deriving Inhabited
inductive Loc where
 | virg
 | blk (c d:Nat)
 | base (L:Loop)
structure G where
 S:Nat->Nat->Prop
 ρ:Nat->Option Loc
inductive LpSt where
 | ready | busy
 | done (j:Option Nat)
 | over (j:Option (Option Nat))
 deriving Inhabited
def LpSt.state : LpSt -> LoopState
 | .ready => .ready
 | .busy => .busy
 | .done _ => .done
 | .over _ => .exhausted
def LpSt.pend : LpSt -> Option Code
 | .done none=>some .ret
 | .done (some id) | .over (some (some id))=>some (.exit id)
 | .over (some none)=>some .ret
 | _=>none
inductive HObj where
 | cells (cs:List AV)
 | mp (es:List (Value × Nat × AV)) (clock:Nat)
 | mpp (Φ:List (Value × Nat × AV)->Nat->Prop)
 | it (m since:Nat) (seen:List Nat) (stepped:Nat)
 | lp (s:LpSt) (mk:Nat)
 | gone
 deriving Inhabited
abbrev Hp:=Nat->Option HObj
inductive Rep (w : World) (g : G) : Bool -> AV -> Value -> Prop
 | v (p:Bool) (x:Value):Rep w g p (.v x) x
 | any (p:Bool) (x:Value):Rep w g p .any x
 | sl (p full : Bool) (n : Nat) (cs : List AV) (a : Option Addr) (cap : Nat) (vs : Nat -> Value)
  (hn:n<=cap) (hf:full=true->cap=n)
  (hc:∀ i,i<cs.length->∃ ad,a=some ad/\ad.spot=none/\g.S ad.block (ad.off+i)/\w.cell? ⟨ad.block,ad.off+i,none⟩=some (vs i))
  (hr:∀ i (h:i<cs.length),Rep w g true cs[i] (vs i)):Rep w g p (.sl full n cs) (.slice a n cap)
 | agg (p : Bool) (cs : List AV) (vs : List Value) (hl : vs.length = cs.length)
  (hr:∀ i (h:i<cs.length),Rep w g p cs[i] (vs.getD i undef)):Rep w g p (.agg cs) (.agg vs.toArray)
 | tup (p : Bool) (cs : List AV) (vs : List Value) (hl : vs.length = cs.length)
  (hr:∀ i (h:i<cs.length),Rep w g p cs[i] (vs.getD i undef)):Rep w g p (.tup cs) (.tuple vs.toArray)
 | ptr (p : Bool) (cs : List AV) (off b o : Nat) (vs : Nat -> Value)
  (hc:∀ i,i<cs.length->g.S b (o+i)/\w.cell? ⟨b,o+i,none⟩=some (vs i))
  (hr:∀ i (h:i<cs.length),Rep w g true cs[i] (vs i)):Rep w g p (.ptr cs off) (.pointer (some ⟨b,o+off,none⟩))
 | ref (id off c d:Nat) (hl:g.ρ id=some (.blk c d)):Rep w g false (.ref id off) (.pointer (some ⟨c,d+off,none⟩))
 | ms (id off n sz c d cap : Nat) (arr : Array Value) (ty : TypeId) (fz : Nat × Nat) (hl : g.ρ id = some (.blk c d)) (hn : n <= cap)
  (hb:w.heap[c]?=some (.cells arr ty fz)) (hs:d+off+cap*sz<=arr.size):Rep w g false (.ms id off n sz) (.slice (some ⟨c,d+off,none⟩) n cap)
 | msz (id off sz:Nat) (a:Option Addr) (l:Loc) (hl:g.ρ id=some l):Rep w g false (.ms id off 0 sz) (.slice a 0 0)
 | fn (p : Bool) (f : Fn) (as bs : List AV) (xs ys : List Value) (hl : xs.length = as.length) (hl' : ys.length = bs.length)
  (hr:∀ i (h:i<as.length),Rep w g p as[i] (xs.getD i undef))
  (hr':∀ i (h:i<bs.length),Rep w g p bs[i] (ys.getD i undef)):Rep w g p (.fn f as bs) (.func f xs.toArray ys.toArray)
 | mp (id c d:Nat) (hl:g.ρ id=some (.blk c d)):Rep w g false (.mp id) (.map (some c))
 | mc (id off n cap sz c d : Nat) (arr : Array Value) (ty : TypeId) (fz : Nat × Nat) (hl : g.ρ id = some (.blk c d)) (hn : n <= cap)
  (hb:w.heap[c]?=some (.cells arr ty fz)) (hs:d+off+cap*sz<=arr.size):Rep w g false (.mc id off n cap sz) (.slice (some ⟨c,d+off,none⟩) n cap)
 | mcz (id off sz:Nat) (a:Option Addr) (l:Loc) (hl:g.ρ id=some l):Rep w g false (.mc id off 0 0 sz) (.slice a 0 0)
 | yl (id c:Nat) (hl:g.ρ id=some (.blk c 0)):Rep w g false (.yl id) (.func (.yield c) #[] #[])
@[simp] abbrev qeP (_:World):Nat:=0
structure Trans (w:World) (g:G) (w':World) (g':G):Prop where
 S:∀ b o,g.S b o->g'.S b o
 cell:∀ b o,g.S b o->w'.cell? ⟨b,o,none⟩=w.cell? ⟨b,o,none⟩
 ρ:∀ id l,g.ρ id=some l->g'.ρ id=some l
 shp:∀ (b:Nat) (arr:Array Value) ty fz,w.heap[b]?=some (.cells arr ty fz)->∃ arr':Array Value,w'.heap[b]?=some (.cells arr' ty fz)/\arr'.size=arr.size
 os:w'.os=w.os
 tape:w'.tape=w.tape
 output:w'.output=w.output
 size:w.heap.size<=w'.heap.size
 drawn:qeP w<=qeP w'
theorem Trans.refl (w:World) (g:G):Trans w g w g:=⟨fun _ _ h=>h,fun _ _ _=>rfl,fun _ _ h=>h,fun _ arr _ _ h=>⟨arr,h,rfl⟩,rfl,rfl,rfl,Nat.le_refl _,Nat.le_refl _⟩
theorem Trans.trans {w g w' g' w'' g''} (h:Trans w g w' g') (k:Trans w' g' w'' g''):Trans w g w'' g'' :=
 ⟨fun b o x => k.S b o (h.S b o x),fun b o x => (k.cell b o (h.S b o x)).trans (h.cell b o x),fun i l x => k.ρ i l (h.ρ i l x),
  fun b arr ty fz x=>by obtain ⟨a1,h1,h2⟩:=h.shp b arr ty fz x;obtain ⟨a2,h3,h4⟩:=k.shp b a1 ty fz h1;exact ⟨a2,h3,h4.trans h2⟩,
  k.os.trans h.os,k.tape.trans h.tape,k.output.trans h.output,Nat.le_trans h.size k.size,Nat.le_trans h.drawn k.drawn⟩
theorem Rep.mono {w g w' g'} (t:Trans w g w' g') {p x v} (h:Rep w g p x v):Rep w' g' p x v:=by
 induction h with
 | v p x=>exact .v p x
 | any p x=>exact .any p x
 | sl p full n cs a cap vs hn hf hc hr ih =>exact .sl p full n cs a cap vs hn hf (fun i hi=>by obtain ⟨ad,h1,h2,h3,h4⟩:=hc i hi;exact ⟨ad,h1,h2,t.S _ _ h3,(t.cell _ _ h3).trans h4⟩) ih
 | agg p cs vs hl hr ih=>exact .agg p cs vs hl ih
 | tup p cs vs hl hr ih=>exact .tup p cs vs hl ih
 | ptr p cs off b o vs hc hr ih=>exact .ptr p cs off b o vs (fun i hi=>⟨t.S _ _ (hc i hi).1,(t.cell _ _ (hc i hi).1).trans (hc i hi).2⟩) ih
 | ref id off c d hl=>exact .ref id off c d (t.ρ _ _ hl)
 | ms id off n sz c d cap arr ty fz hl hn hb hs =>obtain ⟨arr',h1,h2⟩:=t.shp _ _ _ _ hb;exact .ms id off n sz c d cap arr' ty fz (t.ρ _ _ hl) hn h1 (by omega)
 | msz id off sz a l hl=>exact .msz id off sz a l (t.ρ _ _ hl)
 | fn p f as bs xs ys hl hl' hr hr' ih ih'=>exact .fn p f as bs xs ys hl hl' ih ih'
 | mp id c d hl=>exact .mp id c d (t.ρ _ _ hl)
 | mc id off n cap sz c d arr ty fz hl hn hb hs =>obtain ⟨arr',h1,h2⟩:=t.shp _ _ _ _ hb;exact .mc id off n cap sz c d arr' ty fz (t.ρ _ _ hl) hn h1 (by omega)
 | mcz id off sz a l hl=>exact .mcz id off sz a l (t.ρ _ _ hl)
 | yl id c hl=>exact .yl id c (t.ρ _ _ hl)
theorem Rep.pure {w g} {p x v} (h:Rep w g p x v) (hp:p=true) (ρ':Nat->Option Loc):Rep w { g with ρ:=ρ' } true x v:=by
 induction h with
 | v p x=>exact .v _ x
 | any p x=>exact .any _ x
 | sl p full n cs a cap vs hn hf hc hr ih=>exact .sl _ full n cs a cap vs hn hf hc (fun i h=>ih i h rfl)
 | agg p cs vs hl hr ih=>exact .agg _ cs vs hl (fun i h=>ih i h hp)
 | tup p cs vs hl hr ih=>exact .tup _ cs vs hl (fun i h=>ih i h hp)
 | ptr p cs off b o vs hc hr ih=>exact .ptr _ cs off b o vs hc (fun i h=>ih i h rfl)
 | ref id off c d hl=>cases hp
 | ms id off n sz c d cap arr ty fz hl hn hb hs=>cases hp
 | msz id off sz a l hl=>cases hp
 | fn p f as bs xs ys hl hl' hr hr' ih ih'=>exact .fn _ f as bs xs ys hl hl' (fun i h=>ih i h hp) (fun i h=>ih' i h hp)
 | mp id c d hl=>cases hp
 | mc=>cases hp
 | mcz=>cases hp
 | yl=>cases hp
theorem Rep.weak {w g} {p x v} (h:Rep w g p x v) (hp:p=true):Rep w g false x v:=by
 induction h with
 | v p x=>exact .v _ x
 | any p x=>exact .any _ x
 | sl p full n cs a cap vs hn hf hc hr ih=>exact .sl _ full n cs a cap vs hn hf hc hr
 | agg p cs vs hl hr ih=>exact .agg _ cs vs hl (fun i h=>ih i h hp)
 | tup p cs vs hl hr ih=>exact .tup _ cs vs hl (fun i h=>ih i h hp)
 | ptr p cs off b o vs hc hr ih=>exact .ptr _ cs off b o vs hc hr
 | ref id off c d hl=>cases hp
 | ms id off n sz c d cap arr ty fz hl hn hb hs=>cases hp
 | msz id off sz a l hl=>cases hp
 | fn p f as bs xs ys hl hl' hr hr' ih ih'=>exact .fn _ f as bs xs ys hl hl' (fun i h=>ih i h hp) (fun i h=>ih' i h hp)
 | mp id c d hl=>cases hp
 | mc=>cases hp
 | mcz=>cases hp
 | yl=>cases hp
theorem Rep.of {w g} {p x v} (h:Rep w g p x v):Rep w g false x v:=by
 cases p with
 | false=>exact h
 | true=>exact h.weak rfl
def HRep (w : World) (g : G) : HObj -> Loc -> Prop
 | .gone,_=>True
 | .cells cs,.virg=>cs=[]
 | .cells cs,.blk c d => ∃ (arr : Array Value) (ty : TypeId) (fz : Nat × Nat),w.heap[c]? = some (.cells arr ty fz) /\ d + cs.length <= arr.size /\
  (∀ o,d<=o->¬ g.S c o)/\(∀ o,d<=o->o<=arr.size->w.frozen? ⟨c,o,none⟩=false) /\
  (∀ i (h:i<cs.length),∃ x,arr[d+i]?=some x/\Rep w g false cs[i] x)
 | .mp es clock,.blk c d => ∃ (ents : Array MapEntry),w.heap[c]? = some (.map ents clock) /\ ents.size = es.length /\ d = 0 /\ (∀ o,¬ g.S c o) /\
  (∀ i (h:i<es.length),∃ e,ents[i]?=some e/\e.key=es[i].1/\e.born=es[i].2.1/\Rep w g false es[i].2.2 e.val)
 | .mpp Φ,.blk c d => ∃ es clock,Φ es clock /\ ∃ (ents : Array MapEntry),w.heap[c]? = some (.map ents clock) /\ ents.size = es.length /\ d = 0 /\ (∀ o,¬ g.S c o) /\
  (∀ i (h:i<es.length),∃ e,ents[i]?=some e/\e.key=es[i].1/\e.born=es[i].2.1/\Rep w g false es[i].2.2 e.val)
 | .it m since seen stepped,.blk c d=>∃ mb,w.heap[c]?=some (.mapIter (some mb) since seen.toArray stepped)/\g.ρ m=some (.blk mb 0)/\d=0/\∀ o,¬ g.S c o
 | .lp s mk,.blk c d=>∃ L,g.ρ mk=some (.base L)/\w.heap[c]?=some (.loop { L with state:=s.state,pending:=s.pend })/\d=0/\∀ o,¬ g.S c o
 | _,.virg=>False
 | _,.base _=>False
def HObj.live : HObj -> Bool
 | .gone=>false
 | _=>true
def qaI (hp:Hp) (g:G) (c:Nat):Prop:=∃ id o d,hp id=some o/\o.live=true/\g.ρ id=some (.blk c d)
def TabOK (g:G) (w:World):Prop:=∀ t∈qDI,(∃ (arr:Array Value) (ty:TypeId) (fz:Nat × Nat),w.heap[t.1]?=some (.cells arr ty fz)/\arr.size=t.2.1)/\∀ i,i<t.2.1->g.S t.1 i/\∃ v,w.cell? ⟨t.1,i,none⟩=some v/\t.2.2 i v
theorem TabOK.mono {w g w' g'} (t:Trans w g w' g') (h:TabOK g w):TabOK g' w':=fun x hx=>by obtain ⟨⟨arr,ty,fz,e1,e2⟩,hc⟩:=h x hx;obtain ⟨arr',e3,e4⟩:=t.shp _ _ _ _ e1;refine ⟨⟨arr',ty,fz,e3,e4.trans e2⟩,fun i hi=>?_⟩;obtain ⟨h1,v,h2,h3⟩:=hc i hi;exact ⟨t.S _ _ h1,v,(t.cell _ _ h1).trans h2,h3⟩
structure HeapOK (hp:Hp) (g:G) (w:World):Prop where
 dom:∀ id,hp id=none->g.ρ id=none
 rep:∀ id o,hp id=some o->∃ l,g.ρ id=some l/\HRep w g o l
 inj:∀ id id' o o' c d d',hp id=some o->hp id'=some o'->o.live=true->o'.live=true->g.ρ id=some (.blk c d)->g.ρ id'=some (.blk c d')->id=id'
 ex:∀ b o,g.S b o->∃ v,w.cell? ⟨b,o,none⟩=some v
 tab:TabOK g w
structure Upd (hp:Hp) (g:G) (w:World) (hp':Hp) (g':G) (w':World):Prop where
 tr:Trans w g w' g'
 live:∀ c,qaI hp' g' c->qaI hp g c\/w.heap.size<=c
 S:∀ b o,g'.S b o->g.S b o\/qaI hp g b\/w.heap.size<=b
 keep:∀ b,b<w.heap.size->¬ qaI hp g b->w'.heap[b]?=w.heap[b]?
theorem Upd.refl (hp:Hp) (g:G) (w:World):Upd hp g w hp g w:=⟨.refl w g,fun _ h => .inl h,fun _ _ h => .inl h,fun _ _ _=>rfl⟩
theorem Upd.trans {hp g w hp' g' w' hp'' g'' w''} (h:Upd hp g w hp' g' w') (k:Upd hp' g' w' hp'' g'' w''):Upd hp g w hp'' g'' w'' :=
 ⟨h.tr.trans k.tr,
  fun c hc => by
   rcases k.live c hc with h1 | h1
   . exact h.live c h1
   exact .inr (Nat.le_trans h.tr.size h1),
  fun b o hb => by
   rcases k.S b o hb with h1 | h1 | h1
   . exact h.S b o h1
   . exact .inr (h.live b h1)
   exact .inr (.inr (Nat.le_trans h.tr.size h1)),
  fun b hb hn => by
   refine (k.keep b (Nat.lt_of_lt_of_le hb h.tr.size) (fun hl=>?_)).trans (h.keep b hb hn);rcases h.live b hl with h1 | h1
   . exact hn h1
   omega⟩
inductive Opd where
 | t (n:Nat)
 | k (x:AV)
inductive Leaf where
 | int | bool | str
 deriving DecidableEq
def zG : Leaf -> Value -> Value -> Option Bool
 | .int,.int k a,.int k' b=>if k=k' then some (a==b) else none
 | .bool,.bool a,.bool b=>some (a==b)
 | .str,.string a,.string b=>some (a==b)
 | _,_,_=>none
def qg : List Leaf -> List Value -> List Value -> Option Bool
 | [],[],[]=>some true
 | l::ls,a::as,b::bs=>match zG l a b with
   | some true=>qg ls as bs
   | some false=>some false
   | none=>none
 | _,_,_=>none
abbrev KS:=Bool × List Leaf
def eqK : KS -> Value -> Value -> Option Bool
 | (true,ls),.agg as,.agg bs=>qg ls as.toList bs.toList
 | (false,[l]),a,b=>zG l a b
 | _,_,_=>none
def zi (ks : KS) (k : Value) : List (Value × Nat × AV) -> Nat -> Option (Option Nat)
 | [],_=>some none
 | e::es,i=>match eqK ks k e.1 with
   | some true=>some (some i)
   | some false=>zi ks k es (i+1)
   | none=>none
inductive AOp where
 | mv (d:Nat) (x:Opd)
 | pick (d:Nat) (c a b:Opd)
 | bin (d:Nat) (op:BinOp) (x y:Opd)
 | bing (d:Nat) (op:BinOp) (ty:TypeId) (x y:Opd)
 | un (d:Nat) (op:UnOp) (x:Opd)
 | ext (d:Nat) (x:Opd) (i:Nat)
 | ld (d:Nat) (agg:Bool) (sz:Nat) (x:Opd)
 | st (sz:Nat) (a x:Opd)
 | box (d:Nat) (sz:Nat) (x:Opd)
 | al (d:Nat) (zero:List AV)
 | bsl (d:Nat) (n sz:Nat) (zero:List AV) (parts:List (Nat × Opd))
 | bld (d:Nat) (zero:List AV) (parts:List (Nat × Nat × Opd))
 | fa (d:Nat) (x:Opd) (off:Nat)
 | fld (d:Nat) (agg:Bool) (sz off:Nat) (x:Opd)
 | ia (d:Nat) (sz:Nat) (x i:Opd)
 | iaa (d:Nat) (len sz:Nat) (x i:Opd)
 | idx (d:Nat) (len:Nat) (agg:Bool) (sz:Nat) (x i:Opd)
 | ids (d:Nat) (x i:Opd)
 | len (d:Nat) (x:Opd)
 | lns (d:Nat) (x:Opd)
 | lnm (d:Nat) (x:Opd)
 | slc (d:Nat) (sz:Nat) (x:Opd) (lo hi mx:Option Opd)
 | sls (d:Nat) (x:Opd) (lo hi:Option Opd)
 | app (d:Nat) (sz bytes:Nat) (x y:Opd)
 | cpy (d:Nat) (sz:Nat) (x y:Opd)
 | mks (d:Nat) (sz bytes:Nat) (zero:List AV) (n c:Opd)
 | cnv (d:Nat) (k:IntKind) (x:Opd)
 | mx (d:Nat) (max:Bool) (x y:Opd)
 | nilc (d:Nat) (x:Opd)
 | mkf (d:Nat) (f:Fn) (first caps:List Opd)
 | call (d:Nat) (f:FuncId) (args:List Opd)
 | callv (d:Nat) (x:Opd) (args:List Opd)
 | cap (d:Nat) (x:Opd)
 | clr (sz:Nat) (zero:List AV) (x:Opd)
 | appz (d:Nat) (sz bytes:Nat) (zero:List AV) (x k:Opd)
 | callx (d:Nat) (f:FuncId) (args:List Opd)
 | slp (d:Nat) (sz ln:Nat) (x:Opd) (lo hi mx:Option Opd)
 | mkm (d:Nat)
 | ins (ks:KS) (m k v:Opd)
 | lku (d:Nat) (ks:KS) (zero:AV) (ok:Bool) (m k:Opd)
 | mpe (d:Nat) (ks:KS) (zero:AV) (m k:Opd)
 | est (m s v:Opd)
 | del (ks:KS) (m k:Opd)
 | eqk (d:Nat) (neg:Bool) (ks:KS) (x y:Opd)
 | rng (d:Nat) (x:Opd)
 | nxt (d:Nat) (x:Opd)
 | ent (d:Nat) (x:Opd)
 | isn (d:Nat) (neg:Bool) (kd:Nat) (x:Opd)
 | b2s (d:Nat) (x:Opd)
 | s2b (d:Nat) (x:Opd)
 | apps (d:Nat) (bytes:Nat) (x y:Opd)
def AOp.dst : AOp -> Option Nat
 | .mv d _ | .pick d .. | .bin d .. | .bing d .. | .un d .. | .ext d .. | .ld d .. | .box d .. | .al d .. | .bsl d .. | .bld d .. | .fa d .. | .fld d .. | .ia d .. | .iaa d .. | .idx d ..
 | .ids d .. | .len d .. | .lns d .. | .lnm d .. | .slc d .. | .sls d .. | .app d .. | .cpy d .. | .mks d .. | .cnv d .. | .mx d .. | .nilc d .. | .mkf d .. | .call d .. | .callv d ..
 | .cap d _ | .appz d .. | .callx d .. | .slp d .. | .mkm d | .lku d .. | .mpe d .. | .eqk d .. | .rng d _ | .nxt d _ | .ent d _ | .isn d _ _ _ | .b2s d _ | .s2b d _ | .apps d .. => some d
 | .st .. | .clr .. | .ins .. | .est .. | .del .. => none
def AV.ofCell : Value -> AV
 | .slice none 0 0 => .sl true 0 []
 | x => .v x
def AV.ofValue : Value -> AV
 | .agg cs => .agg (cs.toList.map AV.ofCell)
 | x=>AV.ofCell x
def AV.isCell : AV -> Bool
 | .v (.agg _) | .v (.tuple _) | .agg _ | .tup _ | .any=>false
 | _=>true
def AV.cells : AV -> List AV
 | .agg cs=>cs
 | x=>[x]
def AV.isPure0 : AV -> Bool
 | .v _ | .sl .. | .ptr .. => true
 | _=>false
def AV.isPure : AV -> Bool
 | .v _ | .sl .. | .ptr .. => true
 | .fn _ as bs=>as.all AV.isPure0&&bs.all AV.isPure0
 | _=>false
def AV.isPC : AV -> Bool
 | .v (.agg _) | .v (.tuple _)=>false
 | .v _ | .sl .. | .ptr .. => true
 | _=>false
def AV.sc1 : AV -> Bool
 | .v _=>true
 | .sl _ _ []=>true
 | _=>false
def AV.scalar : AV -> Bool
 | .v _=>true
 | .sl _ _ []=>true
 | .tup vs=>vs.all AV.sc1
 | .agg vs=>vs.all AV.sc1
 | _=>false
def splice (cs:List AV) (off:Nat) (xs:List AV):List AV:=cs.take off++xs++cs.drop (off+xs.length)
def qy (cs:List AV) (off m:Nat):List AV:=(cs.drop off).take m
def jI (f : AV -> Option (AV × List Nat)) : List AV -> Option (List AV × List Nat)
 | []=>some ([],[])
 | x::xs=>match f x,jI f xs with
   | some (y,a),some (ys,b)=>some (y::ys,a++b)
   | _,_=>none
def Ze (f:AV->Option (AV × List Nat)) (hp:Hp) (id:Nat):Option (List AV × List Nat):=match hp id with
 | some (.cells cs)=>match jI f cs with
   | some (ys,is)=>some (ys,id::is)
   | none=>none
 | _=>none
def Yu (hp : Hp) : Nat -> AV -> Option (AV × List Nat)
 | k,.v x=>some (.v x,[])
 | k,.sl f n cs=>some (.sl f n cs,[])
 | k,.ptr cs o=>some (.ptr cs o,[])
 | k,.fn f as bs=>bif (AV.fn f as bs).isPure then some (.fn f as bs,[]) else none
 | k+1,.ms id off n sz=>match Ze (Yu hp k) hp id with
   | some (ys,is)=>if off+n*sz<=ys.length then some (.sl false n (qy ys off (n*sz)),is) else none
   | none=>none
 | k+1,.mc id off n _ sz=>match Ze (Yu hp k) hp id with
   | some (ys,is)=>if off+n*sz<=ys.length then some (.sl false n (qy ys off (n*sz)),is) else none
   | none=>none
 | k+1,.ref id off=>match Ze (Yu hp k) hp id with
   | some (ys,is)=>some (.ptr ys off,is)
   | none=>none
 | _,_=>none
def zk (hp : Hp) : AV -> Option (AV × List Nat)
 | .v x=>some (.v x,[])
 | .sl f n cs=>some (.sl f n cs,[])
 | .ptr cs o=>some (.ptr cs o,[])
 | .ms id off n sz=>Yu hp 5 (.ms id off n sz)
 | .mc id off n c sz=>Yu hp 5 (.mc id off n c sz)
 | .ref id off=>Yu hp 5 (.ref id off)
 | _=>none
def zt (hp : Hp) : List AV -> Option (List AV × List Nat)
 | []=>some ([],[])
 | x::xs=>match zk hp x,zt hp xs with
   | some (y,a),some (ys,b)=>some (y::ys,a++b)
   | _,_=>none
def qF (hp : Hp) : AV -> Option (AV × List Nat)
 | .agg cs=>(zt hp cs).map fun (ys,a)=>(.agg ys,a)
 | .fn f as bs=>match zt hp as,zt hp bs with
   | some (xs,a),some (ys,b)=>some (.fn f xs ys,a++b)
   | _,_=>none
 | x=>zk hp x
def zD (hp : Hp) : List AV -> Option (List AV × List Nat)
 | []=>some ([],[])
 | x::xs=>match qF hp x,zD hp xs with
   | some (y,a),some (ys,b)=>some (y::ys,a++b)
   | _,_=>none
def qv (hp : Hp) : AV -> Option (AV × List Nat)
 | .agg cs=>(zD hp cs).map fun (ys,a)=>(.agg ys,a)
 | .tup cs=>(zD hp cs).map fun (ys,a)=>(.tup ys,a)
 | x=>qF hp x
def qh (hp : Hp) : List AV -> Option (List AV × List Nat)
 | []=>some ([],[])
 | x::xs=>match qv hp x,qh hp xs with
   | some (y,a),some (ys,b)=>some (y::ys,a++b)
   | _,_=>none
def zE : Nat -> List AV -> List AV
 | 0,_=>[]
 | n+1,z=>z++zE n z
def Zo : BinOp -> Value -> Value -> Option Value
 | .add,.int k a,.int k' b=>if k=k' then some (.int k (k.wrap (a+b))) else none
 | .sub,.int k a,.int k' b=>if k=k' then some (.int k (k.wrap (a - b))) else none
 | .mul,.int k a,.int k' b=>if k=k' then some (.int k (k.wrap (a*b))) else none
 | .quo,.int k a,.int k' b=>if k=k'/\b≠0 then some (.int k (k.wrap (a.tdiv b))) else none
 | .rem,.int k a,.int k' b=>if k=k'/\b≠0 then some (.int k (a.tmod b)) else none
 | .and,.int k a,.int k' b=>if k=k' then some (.int k (k.wrap (BitVec.ofInt k.bits a &&& BitVec.ofInt k.bits b).toNat)) else none
 | .or,.int k a,.int k' b=>if k=k' then some (.int k (k.wrap (BitVec.ofInt k.bits a ||| BitVec.ofInt k.bits b).toNat)) else none
 | .xor,.int k a,.int k' b=>if k=k' then some (.int k (k.wrap (BitVec.ofInt k.bits a ^^^ BitVec.ofInt k.bits b).toNat)) else none
 | .andNot,.int k a,.int k' b=>if k=k' then some (.int k (k.wrap (BitVec.ofInt k.bits a &&& ~~~ BitVec.ofInt k.bits b).toNat)) else none
 | .shl,.int k a,.int _ b=>if b<0 then none else some (.int k (k.wrap (a*2 ^ (min b.toNat k.bits))))
 | .shr,.int k a,.int _ b=>if b<0 then none else some (.int k (a.fdiv (2 ^ (min b.toNat k.bits))))
 | .eql,.int k a,.int k' b=>if k=k' then some (.bool (a==b)) else none
 | .neq,.int k a,.int k' b=>if k=k' then some (.bool (a != b)) else none
 | .lss,.int k a,.int k' b=>if k=k' then some (.bool (decide (a<b))) else none
 | .leq,.int k a,.int k' b=>if k=k' then some (.bool (decide (a<=b))) else none
 | .gtr,.int k a,.int k' b=>if k=k' then some (.bool (decide (a>b))) else none
 | .geq,.int k a,.int k' b=>if k=k' then some (.bool (decide (a≥b))) else none
 | .add,.string a,.string b=>if a.size+b.size<=9223372036854775807 then some (.string (a++b)) else none
 | .eql,.string a,.string b=>some (.bool (a.toList==b.toList))
 | .neq,.string a,.string b=>some (.bool (!(a.toList==b.toList)))
 | .lss,.string a,.string b=>some (.bool (Op.bytesLess a.toList b.toList))
 | _,_,_=>none
def unV : UnOp -> Value -> Option Value
 | .neg,.int k n=>some (.int k (k.wrap (0 - n)))
 | .not,.bool b=>some (.bool !b)
 | _,_=>none
def elems (hp : Hp) (sz : Nat) : AV -> Option (Nat × List AV)
 | .sl _ n cs=>if cs.length=n*sz then some (n,cs) else none
 | .ms id off n sz'=>match hp id with
   | some (.cells cs)=>if sz'=sz/\off+n*sz<=cs.length then some (n,qy cs off (n*sz)) else none
   | _=>none
 | .mc id off n _ sz'=>match hp id with
   | some (.cells cs)=>if sz'=sz/\off+n*sz<=cs.length then some (n,qy cs off (n*sz)) else none
   | _=>none
 | _=>none
def Qp (cs : List AV) (sz : Nat) : List (Nat × AV) -> List AV
 | []=>cs
 | (i,x)::rest=>Qp (splice cs (i*sz) x.cells) sz rest
def ZY (cs : List AV) : List (Nat × Nat × AV) -> List AV
 | []=>cs
 | (off,_,x)::rest=>ZY (splice cs off x.cells) rest
def qov : List AV -> Option (List Value)
 | []=>some []
 | .v x::r=>(qov r).map (x::·)
 | _=>none
def AV.val : AV -> Option Value
 | .v x=>some x
 | .agg cs=>(qov cs).map fun l => .agg l.toArray
 | _=>none
def evF (F : Nat -> AV) : Opd -> AV
 | .t n=>F n
 | .k x=>x
abbrev I (n:Int):AV := .v (.int .i64 n)
abbrev B (b:Bool):AV := .v (.bool b)
section
variable (ev:Opd->AV) (hp:Hp) (new:Nat) (r:AV) (ws:List (Nat × HObj))
def Q0 (agg:Bool) (sz:Nat) (x:AV):Prop :=
 match x with
 | .ptr cs off=>ws=[]/\(match agg with | true=>off+sz<=cs.length/\r = .agg (qy cs off sz) | false=>∃ y,cs[off]?=some y/\r=y)
 | .ref id off=>match hp id with
   | some (.cells cs)=>ws=[]/\(match agg with | true=>off+sz<=cs.length/\r = .agg (qy cs off sz) | false=>∃ y,cs[off]?=some y/\r=y)
   | _=>False
 | _=>False
def qaq (sz:Nat) (a x:AV):Prop :=
 match a with
 | .ref id off=>match hp id with
   | some (.cells cs)=>x.cells.length=sz/\(x.cells.all AV.isCell)=true/\off+sz<=cs.length/\ws=[(id,.cells (splice cs off x.cells))]/\r = .any
   | _=>False
 | _=>False
def YA (sz:Nat) (x:AV) (lo hi mx:Option AV):Prop :=
 match x with
 | .sl full n cs => ∃ l h : Nat,(match lo with | none => l = 0 | some y => y = I l) /\ (match hi with | none => h = n | some y => y = I h) /\ l <= h /\ h <= n /\ cs.length = n * sz /\
  (match mx with | none=>r = .sl (full&&decide (h=n)) (h - l) (qy cs (l*sz) ((h - l)*sz)) | some y=>y=I h/\hi.isSome/\r = .sl true (h - l) (qy cs (l*sz) ((h - l)*sz)))/\ws=[]
 | .ms id off n sz' => ∃ l h : Nat,(match lo with | none => l = 0 | some y => y = I l) /\ (match hi with | none => h = n | some y => y = I h) /\ l <= h /\ h <= n /\ sz' = sz /\
  (match mx with | none=>True | some y=>∃ m:Nat,y=I m/\h<=m/\m<=n/\hi.isSome)/\(r = .ms id (off+l*sz) (h - l) sz\/∃ m:Nat,mx=some (I m)/\r = .mc id (off+l*sz) (h - l) (m - l) sz)/\ws=[]
 | .mc id off n c sz' => ∃ l h m : Nat,(match lo with | none => l = 0 | some y => y = I l) /\ (match hi with | none => h = n | some y => y = I h) /\ (match mx with | none => m = c | some y => y = I m /\ hi.isSome) /\
  l<=h/\h<=m/\m<=c/\sz'=sz/\r = .mc id (off+l*sz) (h - l) (m - l) sz/\ws=[]
 | _=>False
def zl (sz bytes:Nat) (x:AV) (m:Nat) (ys:List AV):Prop :=
 match x with
 | .sl full n cs => full = true /\ cs.length = n * sz /\ (n + m) * bytes <= 140737488355328 /\ n + m <= 140737488355328 /\
  ((n=0\/0<m)/\r = .ms new 0 (n+m) sz/\ws=[(new,.cells (cs++ys))])
 | .ms id off n sz'=>match hp id with
   | some (.cells cs) => sz' = sz /\ off + n * sz <= cs.length /\ (n + m) * bytes <= 140737488355328 /\ n + m <= 140737488355328 /\
    r = .ms new 0 (n+m) sz/\ws=[(id,.gone),(new,.cells (qy cs off (n*sz)++ys))]
   | _=>False
 | .mc id off n c sz'=>match hp id with
   | some (.cells cs) => sz' = sz /\ off + n * sz <= cs.length /\ (n + m) * bytes <= 140737488355328 /\ n + m <= 140737488355328 /\
    ((n + m <= c /\ off + (n + m) * sz <= cs.length /\ r = .mc id off (n + m) c sz /\ ws = [(id,.cells (splice cs (off + n * sz) ys))]) \/
     (c<n+m/\r = .ms new 0 (n+m) sz/\ws=[(new,.cells (qy cs off (n*sz)++ys))]))
   | _=>False
 | _=>False
end
def z8 (P:Program) (f:FuncId) (args:List AV) (r:AV):Prop :=
 ∀ (ro : Option Nat) (n : Nat) (w : World) (g : G) (vs : Array Value),HeapOK (fun _ => none) g w -> vs.size = args.length -> (∀ i (h : i < args.length),Rep w g true args[i] (vs.getD i undef)) ->
   CallsIn { Fence.wide with round:=ro } n P f vs w fun e w'=>∃ v g',e = .returned v/\Rep w' g' true r v/\HeapOK (fun _=>none) g' w'/\Upd (fun _=>none) g w (fun _=>none) g' w'
def AV.isFlat : AV -> Bool
 | .agg _ | .tup _ | .fn .. => false
 | _=>true
def ja (P:Program) (f:FuncId):Bool:=match P.funcs[f]? with
 | some fn => !(fn.name == "runtime.NumGoroutine") && fn.body.isSome
 | none=>false
def made (cs:List AV):Hp:=fun i=>if i=0 then some (.cells cs) else none
def jK (P:Program) (f:FuncId) (args:List AV) (m sz:Nat) (cs:List AV):Prop :=
 (cs.all AV.isPC) = true /\ ∀ (ro : Option Nat) (n : Nat) (w : World) (g : G) (vs : Array Value),HeapOK (fun _ => none) g w -> vs.size = args.length -> (∀ i (h : i < args.length),Rep w g true args[i] (vs.getD i undef)) ->
  CallsIn { Fence.wide with round:=ro } n P f vs w fun e w'=>∃ v g',e = .returned v/\Rep w' g' false (.ms 0 0 m sz) v/\HeapOK (made cs) g' w'/\Upd (fun _=>none) g w (made cs) g' w'
def qfO (Φ:List (Value × Nat × AV)->Nat->Prop):Hp:=fun i=>if i=0 then some (.mpp Φ) else none
def Wt (P:Program) (f:FuncId) (args:List AV) (Φ:List (Value × Nat × AV)->Nat->Prop):Prop :=
 (∀ es clk,Φ es clk -> (es.all fun e => e.2.2.isPC) = true) /\ ∀ (ro : Option Nat) (n : Nat) (w : World) (g : G) (vs : Array Value),HeapOK (fun _ => none) g w -> vs.size = args.length -> (∀ i (h : i < args.length),Rep w g true args[i] (vs.getD i undef)) ->
  CallsIn { Fence.wide with round:=ro } n P f vs w fun e w'=>∃ v g',e = .returned v/\Rep w' g' false (.mp 0) v/\HeapOK (qfO Φ) g' w'/\Upd (fun _=>none) g w (qfO Φ) g' w'
def gones (ids:List Nat):List (Nat × HObj):=ids.map fun i=>(i,.gone)
def AV.isV : AV -> Bool
 | .v _=>true
 | _=>false
def JH (cs:List AV) (ids:List Nat):List (Nat × HObj):=bif cs.all AV.isV then [] else gones ids
theorem jq {cs:List AV} {ids:List Nat} {p:Nat × HObj} (h:p∈JH cs ids):p∈gones ids:=by
 unfold JH at h;cases e:cs.all AV.isV with
 | true=>rw [e] at h;cases h
 | false=>rw [e] at h;exact h
theorem qdk (cs:List AV) (ids:List Nat):JH cs ids=[]\/JH cs ids=gones ids:=by
 unfold JH;cases cs.all AV.isV with
 | true=>exact .inl rfl
 | false=>exact .inr rfl
def Qk (l:List UInt8):List AV:=l.map fun b => .v (.int .u8 b.toNat)
def AOp.sem (P:Program) (o:AOp) (ev:Opd->AV) (hp:Hp) (new:Nat) (r:AV) (ws:List (Nat × HObj)):Prop :=
 match o with
 | .mv _ x=>r=ev x/\ws=[]
 | .pick _ c a b=>match ev c with
   | .v (.bool t)=>r=(bif t then ev a else ev b)/\ws=[]
   | _=>False
 | .bin _ op x y=>match ev x,ev y with
   | .v a,.v b=>∃ z,Zo op a b=some z/\r = .v z/\ws=[]
   | _,_=>False
 | .bing _ op ty x y=>∃ a b z,(ev x).val=some a/\(ev y).val=some b/\(∀ w,(binOp op ty a b).run P w = .ok z w)/\(∀ p q w,(eqGuard op ty p q a b).run P w = .ok () w)/\r = .v z/\ws=[]
 | .un _ op x=>match ev x with
   | .v a=>∃ z,unV op a=some z/\r = .v z/\ws=[]
   | _=>False
 | .ext _ x i=>match ev x with
   | .tup vs=>∃ y,vs[i]?=some y/\r=y/\ws=[]
   | _=>False
 | .ld _ agg sz x=>Q0 hp r ws agg sz (ev x)
 | .st sz a x=>qaq hp r ws sz (ev a) (ev x)
 | .box _ sz x=>(ev x).cells.length=sz/\((ev x).cells.all AV.isCell)=true/\r = .ref new 0/\ws=[(new,.cells (ev x).cells)]
 | .al _ zero=>r = .ref new 0/\ws=[(new,.cells zero)]
 | .bsl _ n sz zero parts => ∃ ys ids,qh hp (parts.map fun p => ev p.2) = some (ys,ids) /\ (ys.all fun y => y.cells.all AV.isCell && y.cells.all AV.isPure && (y.cells.length == sz)) = true /\
  ((r = .sl true n (Qp (zE n zero) sz ((parts.map (·.1)).zip ys))/\ws=gones ids)\/(r = .mc new 0 n n sz/\ws=gones ids++[(new,.cells (Qp (zE n zero) sz ((parts.map (·.1)).zip ys)))]))
 | .bld _ zero parts => (parts.all fun p => (ev p.2.2).cells.all AV.isCell && ((ev p.2.2).cells.length == p.2.1)) = true /\
  r = .agg (ZY zero (parts.map fun p=>(p.1,p.2.1,ev p.2.2)))/\ws=[]
 | .fa _ x off=>match ev x with
   | .ptr cs o=>r = .ptr cs (o+off)/\ws=[]
   | .ref id o=>r = .ref id (o+off)/\ws=[]
   | _=>False
 | .fld _ agg sz off x=>match ev x with
   | .agg cs=>(match agg with | true=>off+sz<=cs.length/\r = .agg (qy cs off sz) | false=>∃ y,cs[off]?=some y/\r=y)/\ws=[]
   | _=>False
 | .ia _ sz x i=>match ev x,ev i with
   | .sl _ n cs,.v (.int _ j)=>(0<=j/\j<n)/\r = .ptr cs (j.toNat*sz)/\ws=[]/\cs.length=n*sz
   | .ms id off n sz',.v (.int _ j)=>(0<=j/\j<n)/\sz'=sz/\r = .ref id (off+j.toNat*sz)/\ws=[]
   | .mc id off n _ sz',.v (.int _ j)=>(0<=j/\j<n)/\sz'=sz/\r = .ref id (off+j.toNat*sz)/\ws=[]
   | _,_=>False
 | .iaa _ ln sz x i=>match ev x,ev i with
   | .ptr cs o,.v (.int _ j)=>(0<=j/\j<ln)/\r = .ptr cs (o+j.toNat*sz)/\ws=[]
   | .ref id o,.v (.int _ j)=>(0<=j/\j<ln)/\r = .ref id (o+j.toNat*sz)/\ws=[]
   | _,_=>False
 | .idx _ ln agg sz x i=>match ev x,ev i with
   | .agg cs,.v (.int _ j)=>(0<=j/\j<ln)/\(match agg with | true=>j.toNat*sz+sz<=cs.length/\r = .agg (qy cs (j.toNat*sz) sz) | false=>∃ y,cs[j.toNat*sz]?=some y/\r=y)/\ws=[]
   | _,_=>False
 | .ids _ x i=>match ev x,ev i with
   | .v (.string s),.v (.int _ j)=>0<=j/\(∃ b,s[j.toNat]?=some b/\r = .v (.int .u8 b.toNat))/\ws=[]
   | _,_=>False
 | .len _ x=>match ev x with
   | .sl _ n _=>r=I n/\ws=[]
   | .ms _ _ n _=>r=I n/\ws=[]
   | .mc _ _ n _ _=>r=I n/\ws=[]
   | _=>False
 | .lns _ x=>match ev x with
   | .v (.string s)=>r=I s.size/\ws=[]
   | _=>False
 | .lnm _ x=>match ev x with
   | .mp id=>match hp id with
     | some (.mp es _)=>r=I es.length/\ws=[]
     | _=>False
   | _=>False
 | .slc _ sz x lo hi hmx=>YA r ws sz (ev x) (lo.map ev) (hi.map ev) (hmx.map ev)
 | .sls _ x lo hi=>match ev x with
   | .v (.string s)=>∃ l h:Nat,(match lo.map ev with | none=>l=0 | some y=>y=I l)/\(match hi.map ev with | none=>h=s.size | some y=>y=I h)/\l<=h/\h<=s.size/\r = .v (.string (s.extract l h))/\ws=[]
   | _=>False
 | .app _ sz bytes x y=>∃ m ys,elems hp sz (ev y)=some (m,ys)/\(ys.all AV.isPC)=true/\zl hp new r ws sz bytes (ev x) m ys
 | .cpy _ sz x y=>match ev x with
   | .ms id off n sz'=>∃ m ys cs,elems hp sz (ev y)=some (m,ys)/\((ys.take (Nat.min m n*sz)).all AV.isPC)=true/\hp id=some (.cells cs)/\sz'=sz/\off+n*sz<=cs.length/\r=I (Nat.min m n:Nat)/\ws=[(id,.cells (splice cs off (ys.take (Nat.min m n*sz))))]
   | .mc id off n _ sz'=>∃ m ys cs,elems hp sz (ev y)=some (m,ys)/\((ys.take (Nat.min m n*sz)).all AV.isPC)=true/\hp id=some (.cells cs)/\sz'=sz/\off+n*sz<=cs.length/\r=I (Nat.min m n:Nat)/\ws=[(id,.cells (splice cs off (ys.take (Nat.min m n*sz))))]
   | _=>False
 | .mks _ sz bytes zero n c=>∃ k:Nat,ev n=I k/\ev c=I k/\k*bytes<=140737488355328/\k<=140737488355328/\zero.length=sz/\r = .ms new 0 k sz/\ws=[(new,.cells (zE k zero))]
 | .cnv _ k x=>match ev x with
   | .v (.int _ n)=>r = .v (.int k (k.wrap n))/\ws=[]
   | _=>False
 | .mx _ max x y=>match ev x,ev y with
   | .v (.int k a),.v (.int _ b)=>r = .v (.int k (bif max then (if b>a then b else a) else (if b<a then b else a)))/\ws=[]
   | _,_=>False
 | .nilc _ x=>match ev x with
   | .ptr cs o=>r = .ptr cs o/\ws=[]
   | .ref id o=>r = .ref id o/\ws=[]
   | .fn (.func f) as bs=>r = .fn (.func f) as bs/\ws=[]
   | _=>False
 | .mkf _ f first caps=>r = .fn f (first.map ev) (caps.map ev)/\ws=[]
 | .call _ f args=>∃ ys ids,qh hp (args.map ev)=some (ys,ids)/\((z8 P f ys r/\ws=bif r.scalar then [] else gones ids)\/(∃ m sz cs,jK P f ys m sz cs/\r = .ms new 0 m sz/\ws=JH cs ids++[(new,.cells cs)])\/∃ Φ,Wt P f ys Φ/\r = .mp new/\ws=gones ids++[(new,.mpp Φ)])
 | .callv _ x args=>match ev x with
   | .fn (.func f) first caps=>(ja P f=true/\(first++caps).all AV.isFlat=true)/\∃ ys ids,qh hp (first++args.map ev++caps)=some (ys,ids)/\((z8 P f ys r/\ws=bif r.scalar then [] else gones ids)\/(∃ m sz cs,jK P f ys m sz cs/\r = .ms new 0 m sz/\ws=JH cs ids++[(new,.cells cs)]))
   | _=>False
 | .callx .. | .rng .. | .nxt .. | .ent .. | .isn .. => False
 | .cap _ x=>match ev x with
   | .sl full n _=>full=true/\r=I n/\ws=[]
   | .mc _ _ _ c _=>r=I c/\ws=[]
   | _=>False
 | .clr sz zero x=>match ev x with
   | .ms id off n sz'=>∃ cs,hp id=some (.cells cs)/\sz'=sz/\off+n*sz<=cs.length/\r = .any/\ws=[(id,.cells (splice cs off (zE n zero)))]
   | .mc id off n _ sz'=>∃ cs,hp id=some (.cells cs)/\sz'=sz/\off+n*sz<=cs.length/\r = .any/\ws=[(id,.cells (splice cs off (zE n zero)))]
   | _=>False
 | .appz _ sz bytes zero x k=>∃ m:Nat,ev k=I m/\zl hp new r ws sz bytes (ev x) m (zE m zero)
 | .slp _ sz ln x lo hi hmx=>match ev x with
   | .ref id off=>match hp id with
     | some (.cells cs) => ∃ l h m : Nat,(match lo.map ev with | none => l = 0 | some y => y = I l) /\ (match hi.map ev with | none => h = ln | some y => y = I h) /\ (match hmx.map ev with | none => m = ln | some y => y = I m /\ hi.isSome) /\
      l<=h/\h<=m/\m<=ln/\off+ln*sz<=cs.length/\r = .mc id (off+l*sz) (h - l) (m - l) sz/\ws=[]
     | _=>False
   | .ptr cs off => ∃ l h : Nat,(match lo.map ev with | none => l = 0 | some y => y = I l) /\ (match hi.map ev with | none => h = ln | some y => y = I h) /\ hmx = none /\
    l<=h/\h<=ln/\off+ln*sz<=cs.length/\r = .sl (decide (h=ln)) (h - l) (qy cs (off+l*sz) ((h - l)*sz))/\ws=[]
   | _=>False
 | .mkm _=>r = .mp new/\ws=[(new,.mp [] 0)]
 | .ins ks m k v=>match ev m with
   | .mp id=>match hp id with
     | some (.mp es clk) => ∃ kv,(ev k).val = some kv /\ eqK ks kv kv = some true /\ r = .any /\
      ((∃ i e,zi ks kv es 0 = some (some i) /\ es[i]? = some e /\ ws = [(id,.mp (es.set i (e.1,e.2.1,ev v)) clk)]) \/
       (zi ks kv es 0=some none/\ws=[(id,.mp (es++[(kv,clk,ev v)]) (clk+1))]))
     | _=>False
   | _=>False
 | .lku _ ks zero ok m k=>match ev m with
   | .mp id=>match hp id with
     | some (.mp es _) => ∃ kv,(ev k).val = some kv /\ eqK ks kv kv = some true /\ ws = [] /\
      ((∃ i e,zi ks kv es 0 = some (some i) /\ es[i]? = some e /\ r = bif ok then .tup [e.2.2,B true] else e.2.2) \/
       (zi ks kv es 0=some none/\r=bif ok then .tup [zero,B false] else zero))
     | some (.mpp Φ) => ok = true /\ ∃ kv,(ev k).val = some kv /\ eqK ks kv kv = some true /\ ws = [] /\ ∀ es clk,Φ es clk ->
      ((∃ i e,zi ks kv es 0 = some (some i) /\ es[i]? = some e /\ r = .tup [e.2.2,B true]) \/
       (zi ks kv es 0=some none/\r = .tup [zero,B false]))
     | _=>False
   | _=>False
 | .mpe _ ks zero m k=>match ev m with
   | .mp id=>match hp id with
     | some (.mp es clk) => ∃ kv,(ev k).val = some kv /\ eqK ks kv kv = some true /\
      ((∃ i e,zi ks kv es 0 = some (some i) /\ es[i]? = some e /\ r = .tup [e.2.2,I e.2.1] /\ ws = []) \/
       (zi ks kv es 0=some none/\r = .tup [zero,I clk]/\ws=[(id,.mp (es++[(kv,clk,zero)]) (clk+1))]))
     | _=>False
   | _=>False
 | .est m s v=>match ev m with
   | .mp id=>match hp id with
     | some (.mp es clk)=>∃ i e,ev s=I e.2.1/\es.findIdx? (fun x=>x.2.1==e.2.1)=some i/\es[i]?=some e/\r = .any/\ws=[(id,.mp (es.set i (e.1,e.2.1,ev v)) clk)]
     | _=>False
   | _=>False
 | .del ks m k=>match ev m with
   | .mp id=>match hp id with
     | some (.mp es clk) => ∃ kv,(ev k).val = some kv /\ eqK ks kv kv = some true /\ r = .any /\
      ((∃ i,zi ks kv es 0 = some (some i) /\ ws = [(id,.mp (es.eraseIdx i) clk)]) \/
       (zi ks kv es 0=some none/\ws=[]))
     | _=>False
   | _=>False
 | .b2s _ x=>∃ bs:List UInt8,elems hp 1 (ev x)=some (bs.length,Qk bs)/\r = .v (.string ⟨bs.toArray⟩)/\ws=[]
 | .s2b _ x=>match ev x with
   | .v (.string s)=>r = .sl false s.size (Qk s.data.toList)/\ws=[]
   | _=>False
 | .apps _ bytes x y=>match ev y with
   | .v (.string s)=>zl hp new r ws 1 bytes (ev x) s.size (Qk s.data.toList)
   | _=>False
 | .eqk _ neg ks x y=>∃ a b z,(ev x).val=some a/\(ev y).val=some b/\eqK ks a b=some z/\r=B (neg != z)/\ws=[]
def AOp.many (o:AOp) (ev:Opd->AV) (hp:Hp) (new:Nat) (K:AV->List (Nat × HObj)->Prop):Prop :=
 match o with
 | .rng _ x=>match ev x with
   | .mp id=>match hp id with
     | some (.mp _ clk)=>K (.ref new 0) [(new,.it id clk [] clk)]
     | some (.mpp Φ)=>∀ es clk,Φ es clk->K (.ref new 0) [(id,.mp es clk),(new,.it id clk [] clk)]
     | _=>False
   | _=>False
 | .nxt _ x=>match ev x with
   | .ref id 0=>match hp id with
     | some (.it m since seen last)=>match hp m with
       | some (.mp es clk) => (seen.isEmpty || es.isEmpty || !es.all (fun e => decide (last <= e.2.1))) = true /\
        ((es.filter fun e => !seen.contains e.2.1&&decide (e.2.1<since)).isEmpty=true->K (.tup [B false]) []) /\
        ∀ e∈es,seen.contains e.2.1=false->K (.tup [B true,AV.ofValue e.1,e.2.2]) [(id,.it m since (seen++[e.2.1]) clk)]
       | _=>False
     | _=>False
   | _=>False
 | .ent _ x=>match ev x with
   | .ref id 0=>match hp id with
     | some (.it m _ seen stepped)=>match hp m with
       | some (.mp es clk)=>clk=stepped/\∃ b e,seen.getLast?=some b/\es.find? (fun e=>e.2.1==b)=some e/\K (.tup [AV.ofValue e.1,e.2.2]) []
       | _=>False
     | _=>False
   | _=>False
 | .isn _ neg kd x=>match kd,ev x with
   | 0,.sl _ _ cs=>match cs with
     | []=>K (B false) []/\K (B true) []
     | _::_=>K (B neg) []
   | 0,.ms _ _ n _=>(n≠0->K (B neg) [])/\(n=0->K (B false) []/\K (B true) [])
   | 1,.ptr .. | 1,.ref .. | 2,.mp _ | 3,.fn .. => K (B neg) []
   | 0,.v (.slice none 0 0) | 1,.v (.pointer none) | 2,.v (.map none) | 3,.v .nilFunc=>K (B !neg) []
   | _,_=>False
 | _=>False
end Go.AM

namespace Go.AM
open Go.RowKit
def Hp.set (hp:Hp) (id:Nat) (o:HObj):Hp:=fun i=>if i=id then some o else hp i
def Hp.write (hp : Hp) : List (Nat × HObj) -> Hp
 | []=>hp
 | (id,o)::ws=>Hp.write (Hp.set hp id o) ws
theorem Hp.set_same (hp:Hp) (id:Nat) (o:HObj):Hp.set hp id o id=some o:=by simp [Hp.set]
theorem Hp.set_other (hp:Hp) {id i:Nat} (o:HObj) (h:i≠id):Hp.set hp id o i=hp i:=by simp [Hp.set,h]
theorem qO (w:World) (o:Obj):(w.alloc o).heap[w.heap.size]?=some o:=by show (w.heap.push o)[w.heap.size]?=some o;simp
theorem HRep.mono {w g w' g'} {o : HObj} {l : Loc} (t : Trans w g w' g') (hb : ∀ c d,l = .blk c d -> w'.heap[c]? = w.heap[c]?)
 (hS:∀ c d q,l = .blk c d->g'.S c q->g.S c q) (h:HRep w g o l):HRep w' g' o l:=by
 cases o with
 | gone=>cases l <;> trivial
 | cells cs =>
   cases l with
   | virg=>exact h
   | base L=>exact h
   | blk c d =>
     obtain ⟨arr,ty,fz,h1,h2,h3,h4,h5⟩:=h;refine ⟨arr,ty,fz,(hb c d rfl).trans h1,h2,fun q hq hs=>h3 q hq (hS c d q rfl hs),fun q hq hq'=>?_,fun i hi=>?_⟩
     . rw [World.frozen?_of_block (w:=w) (hb c d rfl)];exact h4 q hq hq'
     obtain ⟨x,hx,hr⟩:=h5 i hi;exact ⟨x,hx,hr.mono t⟩
 | mp es clock =>
   cases l with
   | virg=>exact h
   | base L=>exact h
   | blk c d =>obtain ⟨ents,h1,h2,h3,h4,h5⟩:=h;refine ⟨ents,(hb c d rfl).trans h1,h2,h3,fun q hs=>h4 q (hS c d q rfl hs),fun i hi=>?_⟩;obtain ⟨e,h7,h8,h9,h10⟩:=h5 i hi;exact ⟨e,h7,h8,h9,h10.mono t⟩
 | mpp Φ =>
   cases l with
   | virg=>exact h
   | base L=>exact h
   | blk c d =>obtain ⟨es,clock,hΦ,ents,h1,h2,h3,h4,h5⟩:=h;refine ⟨es,clock,hΦ,ents,(hb c d rfl).trans h1,h2,h3,fun q hs=>h4 q (hS c d q rfl hs),fun i hi=>?_⟩;obtain ⟨e,h7,h8,h9,h10⟩:=h5 i hi;exact ⟨e,h7,h8,h9,h10.mono t⟩
 | it m since seen stepped =>
   cases l with
   | virg=>exact h
   | base L=>exact h
   | blk c d =>obtain ⟨mb,h1,h2,h3,h4⟩:=h;exact ⟨mb,(hb c d rfl).trans h1,t.ρ _ _ h2,h3,fun q hs=>h4 q (hS c d q rfl hs)⟩
 | lp s mk =>
   cases l with
   | virg=>exact h
   | base L=>exact h
   | blk c d =>obtain ⟨L,h0,h1,h3,h4⟩:=h;exact ⟨L,t.ρ _ _ h0,(hb c d rfl).trans h1,h3,fun q hs=>h4 q (hS c d q rfl hs)⟩
theorem HeapOK.lt {hp g w} (h:HeapOK hp g w) {id o c d} (ho:hp id=some o) (hl:o.live=true) (hr:g.ρ id=some (.blk c d)):c<w.heap.size:=by
 obtain ⟨l,h1,h2⟩:=h.rep id o ho;rw [hr] at h1;cases h1;cases o with
 | gone=>cases hl
 | cells cs=>obtain ⟨arr,ty,fz,h3,_⟩:=h2;exact (Array.getElem?_eq_some_iff.1 h3).1
 | mp es clock=>obtain ⟨ents,h3,_⟩:=h2;exact (Array.getElem?_eq_some_iff.1 h3).1
 | mpp=>obtain ⟨_,_,_,ents,h3,_⟩:=h2;exact (Array.getElem?_eq_some_iff.1 h3).1
 | it=>obtain ⟨mb,h3,_⟩:=h2;exact (Array.getElem?_eq_some_iff.1 h3).1
 | lp=>obtain ⟨L,_,h3,_⟩:=h2;exact (Array.getElem?_eq_some_iff.1 h3).1
theorem HeapOK.change {hp g w} (h : HeapOK hp g w) {hp' : Hp} {w' : World} {g' : G} (T : Nat -> Prop)
 (tr:Trans w g w' g')
 (hsame:∀ id,¬ T id->hp' id=hp id)
 (hρ:∀ id,¬ T id->g'.ρ id=g.ρ id)
 (hblk:∀ id o c d,¬ T id->hp id=some o->o.live=true->g.ρ id=some (.blk c d)->w'.heap[c]?=w.heap[c]?)
 (hS:∀ id o c d,¬ T id->hp id=some o->o.live=true->g.ρ id=some (.blk c d)->∀ q,g'.S c q->g.S c q)
 (hT:∀ id,T id->∃ o l,hp' id=some o/\g'.ρ id=some l/\HRep w' g' o l)
 (hinj:∀ id id' o o' c d d',T id->hp' id=some o->hp' id'=some o'->o.live=true->o'.live=true->g'.ρ id=some (.blk c d)->g'.ρ id'=some (.blk c d')->id=id')
 (hex:∀ b q,g'.S b q->∃ v,w'.cell? ⟨b,q,none⟩=some v):HeapOK hp' g' w':=by
 refine ⟨fun id hn=>?_,fun id o ho=>?_,fun id id' o o' c d d' ho ho' hl hl' hr hr'=>?_,hex,h.tab.mono tr⟩
 . by_cases ht : T id
   . obtain ⟨o,l,h1,_⟩:=hT id ht;rw [h1] at hn;cases hn
   rw [hsame id ht] at hn;rw [hρ id ht];exact h.dom id hn
 . by_cases ht : T id
   . obtain ⟨o',l,h1,h2,h3⟩:=hT id ht;rw [h1] at ho;cases ho;exact ⟨l,h2,h3⟩
   rw [hsame id ht] at ho;obtain ⟨l,h1,h2⟩:=h.rep id o ho;refine ⟨l,(hρ id ht).trans h1,?_⟩;by_cases hl:o.live=true
   . exact h2.mono tr (fun c d e=>hblk id o c d ht ho hl (e ▸ h1)) (fun c d q e=>hS id o c d ht ho hl (e ▸ h1) q)
   cases o with
   | gone=>cases l <;> trivial
   | cells cs=>simp [HObj.live] at hl
   | mp es clock=>simp [HObj.live] at hl
   | mpp=>simp [HObj.live] at hl
   | it=>simp [HObj.live] at hl
   | lp=>simp [HObj.live] at hl
 by_cases ht:T id
 . exact hinj id id' o o' c d d' ht ho ho' hl hl' hr hr'
 by_cases ht':T id'
 . exact (hinj id' id o' o c d' d ht' ho' ho hl' hl hr' hr).symm
 rw [hsame id ht] at ho;rw [hsame id' ht'] at ho';rw [hρ id ht] at hr;rw [hρ id' ht'] at hr';exact h.inj id id' o o' c d d' ho ho' hl hl' hr hr'
def G.home (g:G) (id:Nat) (l:Loc):G:={ g with ρ:=fun i=>if i=id then some l else g.ρ i }
def G.pub (g:G) (p:Nat->Nat->Prop):G:={ g with S:=fun b q=>g.S b q\/p b q }
theorem JM {w:World} {g:G} (hex:∀ b q,g.S b q->∃ v,w.cell? ⟨b,q,none⟩=some v) (o:Obj):∀ b q,g.S b q->(w.alloc o).cell? ⟨b,q,none⟩=w.cell? ⟨b,q,none⟩ :=
 fun b q hs=>by obtain ⟨v,hv⟩:=hex b q hs;exact World.cell?_alloc_lt w o _ (World.block_lt_of_cell? _ _ hv)
theorem Trans.alloc_home {hp g w} (h:HeapOK hp g w) (o:Obj) {id:Nat} (hn:hp id=none) (l:Loc):Trans w g (w.alloc o) (g.home id l) :=
 ⟨fun _ _ x => x,JM h.ex o,
  fun i l' hi => by
   have:i≠id:=fun e=>by subst e;rw [h.dom i hn] at hi;cases hi
   simp [G.home,this,hi],
  fun b arr ty fz hb=>⟨arr,(Below.heap_alloc w o b (Array.getElem?_eq_some_iff.1 hb).1).trans hb,rfl⟩,rfl,rfl,rfl,by simp,Nat.le_refl _⟩
theorem HeapOK.alloc_priv {hp g w} (h : HeapOK hp g w) {id : Nat} (hn : hp id = none) (arr : Array Value) (ty : TypeId) (cs : List AV) (hle : cs.length <= arr.size)
 (hr:∀ i (hi:i<cs.length),∃ x,arr[i]?=some x/\Rep w g false cs[i] x) :
 HeapOK (Hp.set hp id (.cells cs)) (g.home id (.blk w.heap.size 0)) (w.alloc (.cells arr ty)) /\
 Upd hp g w (Hp.set hp id (.cells cs)) (g.home id (.blk w.heap.size 0)) (w.alloc (.cells arr ty)):=by
 have tr:=Trans.alloc_home h (.cells arr ty) hn (.blk w.heap.size 0);have hnS:∀ q,¬ g.S w.heap.size q:=fun q hs=>by obtain ⟨v,hv⟩:=h.ex _ _ hs;exact absurd (World.block_lt_of_cell? _ _ hv) (Nat.lt_irrefl _)
 refine ⟨h.change (fun i=>i=id) tr (fun i hi=>Hp.set_other _ _ hi) (fun i hi=>by simp [G.home,hi]) (fun i o c d hi ho hl hr'=>Below.heap_alloc _ _ _ (h.lt ho hl hr')) (fun i o c d hi ho hl hr' q hq=>hq) ?_ ?_ ?_,tr,?_,fun b q hs => .inl hs,fun b hb _=>Below.heap_alloc _ _ _ hb⟩
 . rintro i rfl;refine ⟨_,.blk w.heap.size 0,Hp.set_same _ _ _,by simp [G.home],arr,ty,(0,0),qO _ _,by omega,fun q _=>hnS q,fun q _ _=>by simp,fun i hi=>?_⟩;obtain ⟨x,h1,h2⟩:=hr i hi;exact ⟨x,by simpa using h1,h2.mono tr⟩
 . rintro i i' o o' c d d' rfl ho ho' hl hl' hr1 hr2;simp only [G.home] at hr1 hr2;simp at hr1;obtain ⟨rfl,rfl⟩:=hr1;by_cases e:i'=i
   . exact e.symm
   rw [Hp.set_other _ _ e] at ho';simp [e] at hr2;exact absurd (h.lt ho' hl' hr2) (Nat.lt_irrefl _)
 . intro b q hs;obtain ⟨v,hv⟩:=h.ex b q hs;exact ⟨v,(tr.cell b q hs).trans hv⟩
 rintro c ⟨i,o,d,ho,hl,hr1⟩;by_cases e:i=id
 . subst e;simp [G.home] at hr1;exact .inr (by omega)
 rw [Hp.set_other _ _ e] at ho;simp [G.home,e] at hr1;exact .inl ⟨i,o,d,ho,hl,hr1⟩
theorem HeapOK.virgin {hp g w} (h : HeapOK hp g w) {id : Nat} (hn : hp id = none) :
 HeapOK (Hp.set hp id (.cells [])) (g.home id .virg) w/\Upd hp g w (Hp.set hp id (.cells [])) (g.home id .virg) w:=by
 have tr : Trans w g w (g.home id .virg) := ⟨fun _ _ x => x,fun _ _ _ => rfl,
  fun i l' hi => by
   have:i≠id:=fun e=>by subst e;rw [h.dom i hn] at hi;cases hi
   simp [G.home,this,hi],
  fun b arr ty fz hb=>⟨arr,hb,rfl⟩,rfl,rfl,rfl,Nat.le_refl _,Nat.le_refl _⟩
 refine ⟨h.change (fun i=>i=id) tr (fun i hi=>Hp.set_other _ _ hi) (fun i hi=>by simp [G.home,hi]) (fun _ _ _ _ _ _ _ _=>rfl) (fun i o c d hi ho hl hr' q hq=>hq) ?_ ?_ h.ex,tr,?_,fun b q hs => .inl hs,fun b hb _=>rfl⟩
 . rintro i rfl;exact ⟨_,.virg,Hp.set_same _ _ _,by simp [G.home],rfl⟩
 . rintro i i' o o' c d d' rfl ho ho' hl hl' hr1 hr2;simp [G.home] at hr1
 rintro c ⟨i,o,d,ho,hl,hr1⟩;by_cases e:i=id
 . subst e;simp [G.home] at hr1
 rw [Hp.set_other _ _ e] at ho;simp [G.home,e] at hr1;exact .inl ⟨i,o,d,ho,hl,hr1⟩
theorem HeapOK.alloc_pub {hp g w} (h : HeapOK hp g w) (arr : Array Value) (ty : TypeId) :
 HeapOK hp (g.pub fun b q=>b=w.heap.size/\q<arr.size) (w.alloc (.cells arr ty)) /\
 Upd hp g w hp (g.pub fun b q=>b=w.heap.size/\q<arr.size) (w.alloc (.cells arr ty)):=by
 have tr:Trans w g (w.alloc (.cells arr ty)) (g.pub fun b q=>b=w.heap.size/\q<arr.size) :=
  ⟨fun _ _ x => .inl x,JM h.ex _,fun i l' hi=>hi,fun b arr' ty fz hb=>⟨arr',(Below.heap_alloc w _ b (Array.getElem?_eq_some_iff.1 hb).1).trans hb,rfl⟩,rfl,rfl,rfl,by simp,Nat.le_refl _⟩
 refine ⟨h.change (fun _=>False) tr (fun _ _=>rfl) (fun _ _=>rfl) (fun i o c d hi ho hl hr'=>Below.heap_alloc _ _ _ (h.lt ho hl hr')) (fun i o c d hi ho hl hr' q hq=>?_) (fun _ h=>h.elim) (fun _ _ _ _ _ _ _ h=>h.elim) ?_,tr,fun c hc => .inl hc,?_,fun b hb _=>Below.heap_alloc _ _ _ hb⟩
 . rcases hq with hq | ⟨rfl,_⟩
   . exact hq
   exact absurd (h.lt ho hl hr') (Nat.lt_irrefl _)
 . rintro b q (hs | ⟨rfl,hq⟩)
   . obtain ⟨v,hv⟩:=h.ex b q hs;exact ⟨v,(tr.cell b q (hs)).trans hv⟩
   exact ⟨arr[q],by simp [hq]⟩
 rintro b q (hs | ⟨rfl,hq⟩)
 . exact .inl hs
 exact .inr (.inr (Nat.le_refl _))
def World.setArr (w:World) (c:Nat) (arr:Array Value) (ty:TypeId) (fz:Nat × Nat):World:={ w with heap:=w.heap.setIfInBounds c (.cells arr ty fz) }
theorem Zi (w:World) {c b:Nat} (arr ty fz) (h:b≠c):(World.setArr w c arr ty fz).heap[b]?=w.heap[b]?:=by simp only [World.setArr];rw [Array.getElem?_setIfInBounds_ne (Ne.symm h)]
theorem Qh (w:World) {c:Nat} (arr ty fz) (h:c<w.heap.size):(World.setArr w c arr ty fz).heap[c]?=some (.cells arr ty fz):=by simp [World.setArr,h]
theorem HeapOK.rewrite {hp g w} (h : HeapOK hp g w) {id : Nat} {cs : List AV} {c d : Nat} {arr : Array Value} {ty fz} (ho : hp id = some (.cells cs)) (hρ : g.ρ id = some (.blk c d))
 (hb:w.heap[c]?=some (.cells arr ty fz)) {arr':Array Value} (hsz:arr'.size=arr.size) {cs':List AV} (hlow:∀ q,q<d->arr'[q]?=arr[q]?)
 (hr:d+cs'.length<=arr'.size/\∀ i (hi:i<cs'.length),∃ x,arr'[d+i]?=some x/\Rep w g false cs'[i] x) :
 HeapOK (Hp.set hp id (.cells cs')) g (World.setArr w c arr' ty fz)/\Upd hp g w (Hp.set hp id (.cells cs')) g (World.setArr w c arr' ty fz):=by
 obtain ⟨l,h1,h2⟩:=h.rep id _ ho;rw [hρ] at h1;cases h1;obtain ⟨arr0,ty0,fz0,g1,g2,g3,g4,g5⟩:=h2;rw [hb] at g1;cases g1;have hlt:c<w.heap.size:=(Array.getElem?_eq_some_iff.1 hb).1
 have hcell : ∀ b q,g.S b q -> (World.setArr w c arr' ty fz).cell? ⟨b,q,none⟩ = w.cell? ⟨b,q,none⟩ := fun b q hs => by
  by_cases e:b=c
  . subst e
    have hq:q<d:=by
     rcases Nat.lt_or_ge q d with h' | h'
     . exact h'
     exact absurd hs (g3 q h')
    simp only [World.cell?,Qh w arr' ty fz hlt,hb];simp [hlow q hq]
  exact World.cell?_of_block (Zi w arr' ty fz e)
 have tr : Trans w g (World.setArr w c arr' ty fz) g := ⟨fun _ _ x => x,hcell,fun _ _ x => x,fun b a1 t1 f1 hb1 => by
  by_cases e:b=c
  . subst e;rw [hb] at hb1;cases hb1;exact ⟨arr',Qh w arr' ty fz hlt,hsz⟩
  exact ⟨a1,(Zi w arr' ty fz e).trans hb1,rfl⟩,rfl,rfl,rfl,by simp [World.setArr],Nat.le_refl _⟩
 refine ⟨h.change (fun i=>i=id) tr (fun i hi=>Hp.set_other _ _ hi) (fun _ _=>rfl) (fun i o c' d' hi ho' hl hr'=>Zi _ _ _ _ (fun e=>hi (h.inj i id o _ c d' d ho' ho hl rfl (e ▸ hr') hρ))) (fun _ _ _ _ _ _ _ _ _ hq=>hq) ?_ ?_ ?_,tr,?_,fun b q hs => .inl hs,fun b hb' hnl=>Zi _ _ _ _ (fun e=>hnl (e ▸ ⟨id,_,d,ho,rfl,hρ⟩))⟩
 . rintro i rfl;refine ⟨_,_,Hp.set_same _ _ _,hρ,arr',ty,fz,Qh w arr' ty fz hlt,hr.1,g3,fun q hq hq'=>?_,fun j hj=>?_⟩
   . have:=g4 q hq (by omega);simp only [World.frozen?,Qh w arr' ty fz hlt,hb] at this ⊢;exact this
   obtain ⟨x,hx,hx'⟩:=hr.2 j hj;exact ⟨x,hx,hx'.mono tr⟩
 . rintro i i' o o' c1 d1 d1' rfl ho1 ho1' hl hl' hr1 hr1';by_cases e:i'=i
   . exact e.symm
   rw [Hp.set_other _ _ e] at ho1';exact h.inj i i' _ o' c1 d1 d1' ho ho1' rfl hl' hr1 hr1'
 . intro b q hs;obtain ⟨v,hv⟩:=h.ex b q hs;exact ⟨v,(hcell b q hs).trans hv⟩
 rintro c1 ⟨i,o,d1,ho1,hl,hr1⟩;by_cases e:i=id
 . subst e;exact .inl ⟨i,_,d1,ho,rfl,hr1⟩
 rw [Hp.set_other _ _ e] at ho1;exact .inl ⟨i,o,d1,ho1,hl,hr1⟩
theorem HeapOK.rename {hp g w} (h : HeapOK hp g w) {id new : Nat} {cs : List AV} {c d off : Nat} (ho : hp id = some (.cells cs)) (hρ : g.ρ id = some (.blk c d)) (hn : hp new = none) (hoff : off <= cs.length) :
 HeapOK (Hp.set (Hp.set hp id .gone) new (.cells (cs.drop off))) (g.home new (.blk c (d+off))) w /\
 Upd hp g w (Hp.set (Hp.set hp id .gone) new (.cells (cs.drop off))) (g.home new (.blk c (d+off))) w:=by
 have hne:id≠new:=fun e=>by subst e;rw [ho] at hn;cases hn
 obtain ⟨l,h1,h2⟩:=h.rep id _ ho;rw [hρ] at h1;cases h1;obtain ⟨arr,ty,fz,g1,g2,g3,g4,g5⟩:=h2
 have tr : Trans w g w (g.home new (.blk c (d + off))) := ⟨fun _ _ x => x,fun _ _ _ => rfl,
  fun i l' hi => by
   have:i≠new:=fun e=>by subst e;rw [h.dom i hn] at hi;cases hi
   simp [G.home,this,hi],
  fun b arr ty fz hb=>⟨arr,hb,rfl⟩,rfl,rfl,rfl,Nat.le_refl _,Nat.le_refl _⟩
 refine ⟨h.change (fun i=>i=id\/i=new) tr (fun i hi=>?_) (fun i hi=>?_) (fun _ _ _ _ _ _ _ _=>rfl) (fun i o c d hi ho hl hr' q hq=>hq) ?_ ?_ h.ex,tr,?_,fun b q hs => .inl hs,fun b hb _=>rfl⟩
 . rw [Hp.set_other _ _ (fun e=>hi (.inr e)),Hp.set_other _ _ (fun e=>hi (.inl e))]
 . simp [G.home,show i≠new from fun e=>hi (.inr e)]
 . rintro i (rfl | rfl)
   . exact ⟨.gone,.blk c d,by rw [Hp.set_other _ _ hne,Hp.set_same],by simp [G.home,hne,hρ],trivial⟩
   refine ⟨_,.blk c (d+off),Hp.set_same _ _ _,by simp [G.home],arr,ty,fz,g1,by simp;omega,fun q hq=>g3 q (by omega),fun q hq=>g4 q (by omega),fun j hj=>?_⟩;simp at hj;obtain ⟨x,hx,hx'⟩:=g5 (off+j) (by omega);refine ⟨x,by rw [Nat.add_assoc];exact hx,?_⟩;rw [List.getElem_drop];exact hx'.mono tr
 . rintro i i' o o' c1 d1 d1' (rfl | rfl) ho1 ho1' hl hl' hr1 hr1'
   . rw [Hp.set_other _ _ hne,Hp.set_same] at ho1;cases ho1;cases hl
   by_cases e:i'=i
   . exact e.symm
   rw [Hp.set_other _ _ e] at ho1';by_cases e2:i'=id
   . subst e2;rw [Hp.set_same] at ho1';cases ho1';cases hl'
   rw [Hp.set_other _ _ e2] at ho1';simp [G.home] at hr1;obtain ⟨rfl,rfl⟩:=hr1;simp [G.home,e] at hr1';exact absurd (h.inj i' id o' _ c d1' d ho1' ho hl' rfl hr1' hρ) e2
 rintro c1 ⟨i,o,d1,ho1,hl,hr1⟩;by_cases e:i=new
 . subst e;simp [G.home] at hr1;obtain ⟨rfl,rfl⟩:=hr1;exact .inl ⟨id,_,d,ho,rfl,hρ⟩
 rw [Hp.set_other _ _ e] at ho1;by_cases e2:i=id
 . subst e2;rw [Hp.set_same] at ho1;cases ho1;cases hl
 rw [Hp.set_other _ _ e2] at ho1;simp [G.home,e] at hr1;exact .inl ⟨i,o,d1,ho1,hl,hr1⟩
theorem HeapOK.drop {hp g w} (h : HeapOK hp g w) {id : Nat} {o : HObj} (ho : hp id = some o) :
 HeapOK (Hp.set hp id .gone) g w/\Upd hp g w (Hp.set hp id .gone) g w:=by
 refine ⟨h.change (fun i=>i=id) (.refl w g) (fun i hi=>Hp.set_other _ _ hi) (fun _ _=>rfl) (fun _ _ _ _ _ _ _ _=>rfl) (fun _ _ _ _ _ _ _ _ _ hq=>hq) ?_ ?_ h.ex,.refl w g,?_,fun b q hs => .inl hs,fun b hb _=>rfl⟩
 . rintro i rfl;obtain ⟨l,h1,_⟩:=h.rep i o ho;exact ⟨.gone,l,Hp.set_same _ _ _,h1,by cases l <;> trivial⟩
 . rintro i i' o1 o' c1 d1 d1' rfl ho1 ho1' hl hl' hr1 hr1';rw [Hp.set_same] at ho1;cases ho1;cases hl
 rintro c1 ⟨i,o1,d1,ho1,hl,hr1⟩;by_cases e:i=id
 . subst e;rw [Hp.set_same] at ho1;cases ho1;cases hl
 rw [Hp.set_other _ _ e] at ho1;exact .inl ⟨i,o1,d1,ho1,hl,hr1⟩
theorem Trans.drew {w g}:Trans w g w.drew g:=⟨fun _ _ h=>h,fun _ _ _=>rfl,fun _ _ h=>h,fun _ arr _ _ h=>⟨arr,h,rfl⟩,rfl,rfl,rfl,Nat.le_refl _,Nat.le_refl _⟩
theorem HeapOK.drew {hp g w} (h:HeapOK hp g w):HeapOK hp g w.drew/\Upd hp g w hp g w.drew:=by refine ⟨h.change (fun _=>False) .drew (fun _ _=>rfl) (fun _ _=>rfl) (fun _ _ _ _ _ _ _ _=>rfl) (fun _ _ _ _ _ _ _ _ _ hq=>hq) (fun _ h=>h.elim) (fun _ _ _ _ _ _ _ h=>h.elim) h.ex,.drew,fun c hc => .inl hc,fun _ _ hs => .inl hs,fun _ _ _=>rfl⟩
theorem qG (b o i:Nat):(⟨b,o,none⟩:Addr).add i=⟨b,o+i,none⟩:=by unfold Addr.add;split <;> simp_all
def Row (w:World) (g:G) (b o:Nat) (cs:List AV):Prop:=∀ i (h:i<cs.length),∃ x,w.cell? ⟨b,o+i,none⟩=some x/\Rep w g false cs[i] x
theorem Yg {w g p cs off v} (h:Rep w g p (.ptr cs off) v):∃ b o,v = .pointer (some ⟨b,o+off,none⟩)/\Row w g b o cs:=by
 cases h with
 | ptr _ _ _ b o vs hc hr=>exact ⟨b,o,rfl,fun i hi=>⟨vs i,(hc i hi).2,(hr i hi).of⟩⟩
theorem Yh {w g hp p id off v cs} (h : Rep w g p (.ref id off) v) (hok : HeapOK hp g w) (hid : hp id = some (.cells cs)) :
 ∃ b o,v = .pointer (some ⟨b,o+off,none⟩)/\Row w g b o cs/\g.ρ id=some (.blk b o):=by
 cases h with
 | ref _ _ c d hl =>obtain ⟨l,h1,h2⟩:=hok.rep id _ hid;rw [hl] at h1;cases h1;obtain ⟨arr,ty,fz,g1,g2,g3,g4,g5⟩:=h2;refine ⟨c,d,rfl,fun i hi=>?_,hl⟩;obtain ⟨x,hx,hr⟩:=g5 i hi;exact ⟨x,by simp [World.cell?,g1,hx],hr⟩
def qE (P:Program) (t:TypeId):Option (Bool × Nat) :=
 match P.underlying t,P.info? t with
 | some d,some i=>some ((match d with | .struct _ | .array _ _=>true | _=>false),i.size)
 | _,_=>none
theorem jg {P:Program} {t agg sz} (h:qE P t=some (agg,sz)) (w:World):(isAgg t).run P w = .ok agg w:=by
 unfold qE at h;cases hd:P.underlying t with
 | none=>simp [hd] at h
 | some d =>
   cases hi:P.info? t with
   | none=>simp [hd,hi] at h
   | some i =>simp [hd,hi] at h;obtain ⟨rfl,rfl⟩:=h;simp only [isAgg,Sem.run_bind,run_underlying hd,Result.andThen_ok];cases d <;> rfl
theorem qf {P:Program} {t agg sz} (h:qE P t=some (agg,sz)) (w:World):(sizeOf t).run P w = .ok sz w:=by
 unfold qE at h;cases hd:P.underlying t with
 | none=>simp [hd] at h
 | some d =>
   cases hi:P.info? t with
   | none=>simp [hd,hi] at h
   | some i =>simp [hd,hi] at h;obtain ⟨rfl,rfl⟩:=h;simp [sizeOf,typeInfo,hi]
theorem Row.agg {w g b o cs} (h : Row w g b o cs) {off sz : Nat} (hle : off + sz <= cs.length) {P : Program} :
 ∃ vs:List Value,(loadCells ⟨b,o+off,none⟩ sz).run P w = .ok vs.toArray w/\Rep w g false (.agg (qy cs off sz)) (.agg vs.toArray):=by
 refine ⟨(List.range sz).map fun j=>(w.cell? ⟨b,o+(off+j),none⟩).getD undef,run_loadCells w _ _ (fun j=>(w.cell? ⟨b,o+(off+j),none⟩).getD undef) (fun j hj=>?_),.agg _ _ _ ?_ (fun i hi=>?_)⟩
 . obtain ⟨x,hx,_⟩:=h (off+j) (by omega);rw [qG,Nat.add_assoc];simp [hx]
 . simp [qy];omega
 have hi':i<sz:=by simp [qy] at hi;omega
 obtain ⟨x,hx,hr⟩:=h (off+i) (by omega);simp only [qy,List.getElem_take,List.getElem_drop];simpa [hi',hx] using hr
theorem ZP {P : Program} {t agg sz} (ht : qE P t = some (agg,sz)) {w g b o cs off r} (h : Row w g b o cs)
 (hs:match agg with | true=>off+sz<=cs.length/\r = .agg (qy cs off sz) | false=>∃ y,cs[off]?=some y/\r=y) :
 ∃ v,(loadVar t ⟨b,o+off,none⟩).run P w = .ok v w/\Rep w g false r v:=by
 cases agg with
 | true =>obtain ⟨hle,rfl⟩:=hs;obtain ⟨vs,h1,h2⟩:=h.agg hle (P:=P);exact ⟨_,by simp [loadVar,jg ht,qf ht,h1],h2⟩
 | false =>obtain ⟨y,hy,rfl⟩:=hs;obtain ⟨hlt,rfl⟩:=List.getElem?_eq_some_iff.1 hy;obtain ⟨x,hx,hr⟩:=h off hlt;exact ⟨x,by simp [loadVar,jg ht,hx],hr⟩
theorem Wa {w g p x v} (h:Rep w g p x v) (hc:x.isCell=true):v.oneCell'=true:=by
 cases h with
 | v=>cases v <;> simp_all [AV.isCell,Value.oneCell']
 | any=>cases hc
 | agg=>cases hc
 | tup=>cases hc
 | _=>rfl
theorem Y3 {w g p x v} (h : Rep w g p x v) (hc : (x.cells.all AV.isCell) = true) :
 v.cells.size=x.cells.length/\(∀ u∈v.cells.toList,u.oneCell'=true)/\∀ i (hi:i<x.cells.length),∃ u,v.cells[i]?=some u/\Rep w g p x.cells[i] u:=by
 have one : ∀ {y : AV} {u : Value},y.cells = [y] -> u.cells = #[u] -> Rep w g p y u -> (y.cells.all AV.isCell) = true ->
  u.cells.size=y.cells.length/\(∀ z∈u.cells.toList,z.oneCell'=true)/\∀ i (hi:i<y.cells.length),∃ z,u.cells[i]?=some z/\Rep w g p y.cells[i] z:=fun {y u} h1 h2 hr hc=>by
  rw [h1] at hc;simp at hc;refine ⟨by simp [h1,h2],by simp [h2];exact Wa hr hc,fun i hi=>?_⟩;simp [h1] at hi;subst hi;exact ⟨u,by simp [h2],by simp [h1];exact hr⟩
 cases h with
 | agg _ cs vs hl hr =>change (cs.all AV.isCell)=true at hc;show vs.toArray.size=cs.length/\(∀ u∈vs.toArray.toList,u.oneCell'=true)/\∀ i (hi:i<cs.length),∃ u,vs.toArray[i]?=some u/\Rep w g p cs[i] u;refine ⟨by simp [hl],fun u hu=>?_,fun i hi=>⟨vs.getD i undef,by simp [List.getD,List.getElem?_eq_getElem (show i<vs.length by omega)],hr i hi⟩⟩;simp at hu;obtain ⟨i,hi,rfl⟩:=List.mem_iff_getElem.1 hu;have:=hr i (by omega);rw [List.getD_eq_getElem?_getD,List.getElem?_eq_getElem hi] at this;exact Wa this (List.all_eq_true.1 hc _ (List.getElem_mem _))
 | v =>
   cases v with
   | agg cs=>simp [AV.cells,AV.isCell] at hc
   | tuple cs=>simp [AV.cells,AV.isCell] at hc
   | _=>exact one rfl rfl (.v _ _) hc
 | any=>simp [AV.cells,AV.isCell] at hc
 | tup=>simp [AV.cells,AV.isCell] at hc
 | sl _ _ _ _ _ _ vs h1 h2 h3 h4=>exact one rfl rfl (.sl _ _ _ _ _ _ vs h1 h2 h3 h4) hc
 | ptr _ _ _ _ _ vs h1 h2=>exact one rfl rfl (.ptr _ _ _ _ _ vs h1 h2) hc
 | ref _ _ _ _ h1=>exact one rfl rfl (.ref _ _ _ _ h1) hc
 | ms _ _ _ _ _ _ _ _ _ _ h1 h2 h3 h4=>exact one rfl rfl (.ms _ _ _ _ _ _ _ _ _ _ h1 h2 h3 h4) hc
 | msz _ _ _ _ _ h1=>exact one rfl rfl (.msz _ _ _ _ _ h1) hc
 | fn _ _ _ _ _ _ h1 h2 h3 h4=>exact one rfl rfl (.fn _ _ _ _ _ _ h1 h2 h3 h4) hc
 | mp _ _ _ h1=>exact one rfl rfl (.mp _ _ _ h1) hc
 | mc _ _ _ _ _ _ _ _ _ _ h1 h2 h3 h4=>exact one rfl rfl (.mc _ _ _ _ _ _ _ _ _ _ h1 h2 h3 h4) hc
 | mcz _ _ _ _ _ h1=>exact one rfl rfl (.mcz _ _ _ _ _ h1) hc
 | yl _ _ h1=>exact one rfl rfl (.yl _ _ h1) hc
def z7 (arr:Array Value) (k:Nat) (vs:List Value):Array Value:=(arr.toList.take k++vs++arr.toList.drop (k+vs.length)).toArray
theorem Zj (arr:Array Value) (k:Nat) (vs:List Value) (h:k+vs.length<=arr.size):(z7 arr k vs).size=arr.size:=by simp [z7];omega
theorem q9 (arr : Array Value) (k : Nat) (vs : List Value) (h : k + vs.length <= arr.size) (i : Nat) :
 (z7 arr k vs)[i]?=if i<k then arr[i]? else if i<k+vs.length then vs[i - k]? else arr[i]?:=by
 simp only [z7,List.getElem?_toArray];have hk:(List.take k arr.toList).length=k:=by simp;omega
 by_cases h1:i<k
 . rw [if_pos h1,List.append_assoc,List.getElem?_append_left (by omega),List.getElem?_take_of_lt h1];simp
 rw [if_neg h1,List.append_assoc,List.getElem?_append_right (by omega),hk];by_cases h2:i<k+vs.length
 . rw [if_pos h2,List.getElem?_append_left (by omega)]
 rw [if_neg h2,List.getElem?_append_right (by omega),List.getElem?_drop];rw [show k+vs.length+(i - k - vs.length)=i by omega];simp
theorem Xx (w:World) (c:Nat) (a1 a2 ty fz):World.setArr (World.setArr w c a1 ty fz) c a2 ty fz=World.setArr w c a2 ty fz:=by simp [World.setArr]
theorem VQ (w:World) {c:Nat} {arr ty fz} (hb:w.heap[c]?=some (.cells arr ty fz)) (i:Nat) (v:Value):w.setCell ⟨c,i,none⟩ v=World.setArr w c (arr.setIfInBounds i v) ty fz:=by
 have hlt:c<w.heap.size:=(Array.getElem?_eq_some_iff.1 hb).1;simp only [World.setCell,World.setArr];congr 1;apply Array.ext_getElem?;intro j;rw [Array.getElem?_modify];by_cases e:c=j
 . subst e;rw [if_pos rfl,hb];simp [hlt]
 rw [if_neg e,Array.getElem?_setIfInBounds_ne e]
theorem QC {P : Program} {c : Nat} {ty fz} (o : Nat) : ∀ (vs : List Value) (i : Nat) (arr : Array Value) (w : World),w.heap[c]? = some (.cells arr ty fz) -> o + i + vs.length <= arr.size ->
 (∀ q,o+i<=q->q<o+i+vs.length->w.frozen? ⟨c,q,none⟩=false)->(∀ v∈vs,v.oneCell'=true) ->
 (storeCells ⟨c,o,none⟩ vs i).run P w = .ok () (World.setArr w c (z7 arr (o+i) vs) ty fz)
 | [], i, arr, w, hb, _, _, _=>by
   have hlt:c<w.heap.size:=(Array.getElem?_eq_some_iff.1 hb).1
   have:World.setArr w c (z7 arr (o+i) []) ty fz=w:=by
    simp only [World.setArr,z7,List.append_nil,List.length_nil,Nat.add_zero,List.take_append_drop]
    have:w.heap.setIfInBounds c (.cells arr.toList.toArray ty fz)=w.heap:=by
     apply Array.ext_getElem?;intro j;by_cases e:j=c
     . subst e;rw [hb];simp [hlt]
     rw [Array.getElem?_setIfInBounds_ne (Ne.symm e)]
    rw [this]
   simp only [storeCells];rw [this];rfl
 | v::rest, i, arr, w, hb, hl, hf, h1=>by
   simp at hl;have hi:o+i<arr.size:=by omega
   have hcell:w.cell? ⟨c,o+i,none⟩=some arr[o+i]:=by simp [World.cell?,hb,hi]
   have hst:(store ((⟨c,o,none⟩:Addr).add i) v).run P w = .ok () (World.setArr w c (arr.setIfInBounds (o+i) v) ty fz):=by rw [qG,run_store P w _ v _ (h1 v (by simp)),hcell];simp only [hf (o+i) (Nat.le_refl _) (by simp),Bool.false_eq_true,if_false];rw [VQ w hb]
   have hlt:c<w.heap.size:=(Array.getElem?_eq_some_iff.1 hb).1;have hb':=Qh w (arr.setIfInBounds (o+i) v) ty fz hlt;have hfz:∀ q,(World.setArr w c (arr.setIfInBounds (o+i) v) ty fz).frozen? ⟨c,q,none⟩=w.frozen? ⟨c,q,none⟩:=fun q=>by simp [World.frozen?,hb',hb]
   have ih:=QC (P:=P) o rest (i+1) _ _ hb' (by simp;omega) (fun q hq hq'=>by rw [hfz];exact hf q (by omega) (by simp;omega)) (fun u hu=>h1 u (by simp [hu]));simp only [storeCells,Sem.run_bind,hst,Result.andThen_ok,ih,Xx];congr 2;apply Array.ext_getElem?;intro j;rw [q9 _ _ _ (by simp;omega),q9 _ _ _ (by simp;omega)];by_cases h2:j<o+i
   . rw [if_pos (by omega),if_pos h2,Array.getElem?_setIfInBounds_ne (by omega)]
   rw [if_neg h2];by_cases h3:j=o+i
   . subst h3;rw [if_pos (by omega),if_pos (by simp)];simp [hi]
   rw [if_neg (by omega)];by_cases h4:j<o+i+(rest.length+1)
   . rw [if_pos (by omega),if_pos (by simpa using h4)];rw [show j - (o+i)=(j - (o+(i+1)))+1 by omega];simp
   rw [if_neg (by omega),if_neg (by simpa using h4),Array.getElem?_setIfInBounds_ne (by omega)]
theorem HeapOK.store {hp g w} (h : HeapOK hp g w) {id : Nat} {cs : List AV} {c d : Nat} (ho : hp id = some (.cells cs)) (hρ : g.ρ id = some (.blk c d)) (off : Nat) (vs : List Value) (xs : List AV)
 (hlen:vs.length=xs.length) (hle:off+xs.length<=cs.length) (h1:∀ v∈vs,v.oneCell'=true) (hr:∀ i (hi:i<xs.length),∃ u,vs[i]?=some u/\Rep w g false xs[i] u) {P:Program} :
 ∃ w',(storeCells ⟨c,d+off,none⟩ vs).run P w = .ok () w'/\HeapOK (Hp.set hp id (.cells (splice cs off xs))) g w'/\Upd hp g w (Hp.set hp id (.cells (splice cs off xs))) g w':=by
 obtain ⟨l,e1,e2⟩:=h.rep id _ ho;rw [hρ] at e1;cases e1;obtain ⟨arr,ty,fz,g1,g2,g3,g4,g5⟩:=e2;refine ⟨World.setArr w c (z7 arr (d+off) vs) ty fz,QC (d+off) vs 0 arr w g1 (by omega) (fun q hq hq'=>g4 q (by omega) (by omega)) h1,?_⟩;have hsz:=Zj arr (d+off) vs (by omega);have hlen':(splice cs off xs).length=cs.length:=by simp [splice];omega
 refine h.rewrite ho hρ g1 hsz (fun q hq=>by rw [q9 _ _ _ (by omega),if_pos (by omega)]) ⟨by omega,fun i hi=>?_⟩;rw [q9 _ _ _ (by omega)];have hk:(cs.take off).length=off:=by simp;omega
 by_cases a1:i<off
 . rw [if_pos (by omega)];obtain ⟨x,hx,hx'⟩:=g5 i (by omega);refine ⟨x,hx,?_⟩;have : (splice cs off xs)[i] = cs[i]'(by omega) := by simp only [splice,List.append_assoc];rw [List.getElem_append_left (by omega)];simp
   rw [this];exact hx'
 rw [if_neg (by omega)];by_cases a2:i<off+xs.length
 . rw [if_pos (by omega)];obtain ⟨u,hu,hu'⟩:=hr (i - off) (by omega);refine ⟨u,by rw [show d+i - (d+off)=i - off by omega];exact hu,?_⟩;have : (splice cs off xs)[i] = xs[i - off]'(by omega) := by simp only [splice,List.append_assoc];rw [List.getElem_append_right (by omega),List.getElem_append_left (by omega)];simp only [hk]
   rw [this];exact hu'
 rw [if_neg (by omega)];obtain ⟨x,hx,hx'⟩:=g5 i (by omega);refine ⟨x,hx,?_⟩;have:(splice cs off xs)[i]=cs[i]'(by omega):=by simp only [splice,List.append_assoc];rw [List.getElem_append_right (by omega),List.getElem_append_right (by omega),List.getElem_drop];congr 1;simp only [hk];omega
 rw [this];exact hx'
def opd : Operand -> Option Opd
 | .tmp t=>some (.t t)
 | .const v=>some (.k (AV.ofValue v))
 | .func f=>some (.k (.fn (.func f) [] []))
 | .global _=>none
def FrOK (w:World) (g:G) (F:Nat->AV) (a:Act):Prop:=∀ t,Rep w g false (F t) (a.tmps.getD t undef)
theorem Zz (w g p) (c:Value):Rep w g p (AV.ofCell c) c:=by
 unfold AV.ofCell;split
 . exact .sl _ _ _ _ _ _ (fun _=>undef) (Nat.le_refl _) (fun _=>rfl) (fun i hi=>by simp at hi) (fun i hi=>by simp at hi)
 exact .v _ _
theorem zM (w g p) (v:Value):Rep w g p (AV.ofValue v) v:=by
 unfold AV.ofValue;split
 . rename_i cs;have:=Rep.agg (w:=w) (g:=g) p (cs.toList.map AV.ofCell) cs.toList (by simp) (fun i hi=>by simp at hi;simp [List.getD,hi];exact Zz w g p _);simpa using this
 exact Zz w g p _
theorem qi {w g F} {a:Act} (hF:FrOK w g F a) {x:Operand} {y:Opd} (h:opd x=some y):Rep w g false (evF F y) (a.eval x):=by
 cases x with
 | tmp t=>simp [opd] at h;subst h;exact hF t
 | const v=>simp [opd] at h;subst h;exact zM w g false v
 | func f =>simp [opd] at h;subst h;have:=Rep.fn (w:=w) (g:=g) false (.func f) [] [] [] [] rfl rfl (fun i h=>by simp at h) (fun i h=>by simp at h);exact this
 | global n=>simp [opd] at h
def Post (hp:Hp) (g:G) (w:World) (r:AV) (ws:List (Nat × HObj)) (v:Value) (w':World):Prop :=
 ∃ g',Rep w' g' false r v/\HeapOK (Hp.write hp ws) g' w'/\Upd hp g w (Hp.write hp ws) g' w'
theorem Post.nil {hp g w r v} (hok:HeapOK hp g w) (h:Rep w g false r v):Post hp g w r [] v w:=⟨g,h,hok,.refl _ _ _⟩
def VRun (P:Program) (o:Oper) (a:Act) (w:World) (post:Value->World->Prop):Prop:=∃ v w',(execOp a.eval o).run P w = .ok (.value v) w'/\post v w'
theorem qbB {P:Program} {op a b z} (h:Zo op a b=some z) (ty:TypeId) (p q:Operand) (w:World):(eqGuard op ty p q a b).run P w = .ok () w:=by
 cases a <;> cases b <;> first
  | (exfalso;revert h;cases op <;> simp [Zo];done)
  | (unfold eqGuard;cases op <;> rfl)
theorem qge {P:Program} {op a b z} (h:Zo op a b=some z) (ty:TypeId) (w:World):(binOp op ty a b).run P w = .ok z w:=by
 cases a with
 | int k x =>
   cases b with
   | int k' y =>
     cases op <;> simp only [Zo] at h <;> (try split at h) <;> simp only [Option.some.injEq,reduceCtorEq] at h <;> (try subst h) <;> (try (rename_i hk; try (obtain ⟨hk,hy⟩ := hk); try subst hk)) <;>
      simp_all [binOp,Op.intArith,Op.intDiv,Op.intBits,Op.intCmp,Op.shift] <;> (intro hlt;omega)
   | _=>cases op <;> simp [Zo] at h
 | string x =>
   cases b with
   | string y =>
     cases op <;> simp only [Zo] at h <;> (try split at h) <;> simp only [Option.some.injEq,reduceCtorEq] at h <;> (try subst h) <;> simp [binOp,Op.stringOp]
     rename_i hsz;omega
   | _=>cases op <;> simp [Zo] at h
 | _=>cases op <;> simp [Zo] at h
theorem qgf {P:Program} {op a z} (h:unV op a=some z) (w:World):(Op.unary op a).run P w = .ok z w:=by cases op <;> cases a <;> simp [unV] at h <;> subst h <;> simp [Op.unary,Op.intArith]
theorem zu {w g p x v} (h:Rep w g p (.v x) v):v=x:=by cases h;rfl
theorem qcJ : ∀ {cs : List AV} {l : List Value},qov cs = some l -> l.length = cs.length /\ ∀ i (h : i < cs.length) (h' : i < l.length),cs[i] = .v l[i]
 | [],l,h=>by simp [qov] at h;subst h;simp
 | .v x::r,l,h=>by
   simp only [qov,Option.map_eq_some_iff] at h;obtain ⟨l',h',rfl⟩:=h;obtain ⟨l1,l2⟩:=qcJ h';refine ⟨by simp [l1],fun i hi hi'=>?_⟩;cases i with
   | zero=>rfl
   | succ i=>exact l2 i (by simpa using hi) (by simpa using hi')
 | .sl .. :: _,l,h=>by cases h
 | .agg .. :: _,l,h=>by cases h
 | .tup .. :: _,l,h=>by cases h
 | .ptr .. :: _,l,h=>by cases h
 | .ref .. :: _,l,h=>by cases h
 | .ms .. :: _,l,h=>by cases h
 | .fn .. :: _,l,h=>by cases h
 | .mp .. :: _,l,h=>by cases h
 | .mc .. :: _,l,h=>by cases h
 | .yl .. :: _,l,h=>by cases h
 | .any::_,l,h=>by cases h
theorem qby {w g p x v a} (hx:x.val=some a) (h:Rep w g p x v):v=a:=by
 cases h with
 | v=>cases hx;rfl
 | agg _ cs vs hl hr =>simp only [AV.val,Option.map_eq_some_iff] at hx;obtain ⟨l,h1,rfl⟩:=hx;obtain ⟨l1,l2⟩:=qcJ h1;congr 1;congr 1;refine List.ext_getElem (by omega) fun i hi hi'=>?_;have:=hr i (by omega);rw [l2 i (by omega) hi'] at this;have:=zu this;simpa [hi] using this
 | any=>cases hx
 | sl=>cases hx
 | tup=>cases hx
 | ptr=>cases hx
 | ref=>cases hx
 | ms=>cases hx
 | msz=>cases hx
 | fn=>cases hx
 | mp=>cases hx
 | mc=>cases hx
 | mcz=>cases hx
 | yl=>cases hx
theorem Xb {w g p id off n c sz v} (h:Rep w g p (.mc id off n c sz) v):Rep w g false (.ms id off n sz) v:=by
 cases h with
 | mc _ _ _ _ _ b d arr ty fz h1 h2 h3 h4=>exact .ms _ _ _ _ _ _ _ _ _ _ h1 h2 h3 h4
 | mcz _ _ _ _ _ h1=>exact .msz _ _ _ _ _ h1
section
variable {P:Program} {o:Oper} {a:Act} {w:World} {g:G} {hp:Hp} {F:Nat->AV} {new:Nat} {r:AV} {ws:List (Nat × HObj)}
theorem qk0 {x : Operand} {y : Opd} {d} (ho : o.op = .move x \/ o.op = .assign x) (hx : opd x = some y) (hF : FrOK w g F a) (hok : HeapOK hp g w) (hs : (AOp.mv d y).sem P (evF F) hp new r ws) :
 VRun P o a w (Post hp g w r ws):=by
 obtain ⟨rfl,rfl⟩:=hs;refine ⟨a.eval x,w,?_,.nil hok (qi hF hx)⟩;rcases ho with ho | ho <;> simp [execOp,ho]
theorem qjs {x1 x2 x3 : Operand} {y1 y2 y3 : Opd} {d} (ho : o.op = .pick x1 x2 x3) (h1 : opd x1 = some y1) (h2 : opd x2 = some y2) (h3 : opd x3 = some y3) (hF : FrOK w g F a) (hok : HeapOK hp g w)
 (hs:(AOp.pick d y1 y2 y3).sem P (evF F) hp new r ws):VRun P o a w (Post hp g w r ws):=by
 have e1:=qi hF h1;simp only [AOp.sem] at hs;split at hs
 . rename_i t ht;obtain ⟨rfl,rfl⟩:=hs;rw [ht] at e1;have e1':=zu e1;refine ⟨if t then a.eval x2 else a.eval x3,w,by simp [execOp,ho,e1',asBool],.nil hok ?_⟩
   cases t
   . exact qi hF h3
   exact qi hF h2
 exact hs.elim
theorem qgC {op ty x y ty'} {y1 y2 : Opd} {d} (ho : o.op = .binOp op ty x y ty') (h1 : opd x = some y1) (h2 : opd y = some y2) (hF : FrOK w g F a) (hok : HeapOK hp g w)
 (hs:(AOp.bin d op y1 y2).sem P (evF F) hp new r ws):VRun P o a w (Post hp g w r ws):=by
 have e1:=qi hF h1;have e2:=qi hF h2;simp only [AOp.sem] at hs;split at hs
 . rename_i u v hu hv;obtain ⟨z,hz,rfl,rfl⟩:=hs;rw [hu] at e1;rw [hv] at e2;have e1':=zu e1;have e2':=zu e2;exact ⟨z,w,by simp [execOp,ho,e1',e2',qbB hz,qge hz],.nil hok (.v _ _)⟩
 exact hs.elim
theorem qjn {op ty x y ty'} {y1 y2 : Opd} {d} (ho : o.op = .binOp op ty x y ty') (h1 : opd x = some y1) (h2 : opd y = some y2) (hF : FrOK w g F a) (hok : HeapOK hp g w)
 (hs:(AOp.bing d op ty y1 y2).sem P (evF F) hp new r ws):VRun P o a w (Post hp g w r ws):=by
 have e1:=qi hF h1;have e2:=qi hF h2;obtain ⟨u,v,z,hu,hv,hz,hg,rfl,rfl⟩:=hs;have e1':=qby hu e1;have e2':=qby hv e2;exact ⟨z,w,by simp [execOp,ho,e1',e2',hz,hg],.nil hok (.v _ _)⟩
theorem qsn {op ty x} {y1 : Opd} {d} (ho : o.op = .unOp op ty x) (h1 : opd x = some y1) (hF : FrOK w g F a) (hok : HeapOK hp g w)
 (hs:(AOp.un d op y1).sem P (evF F) hp new r ws):VRun P o a w (Post hp g w r ws):=by
 have e1:=qi hF h1;simp only [AOp.sem] at hs;split at hs
 . rename_i u hu;obtain ⟨z,hz,rfl,rfl⟩:=hs;rw [hu] at e1;have e1':=zu e1;exact ⟨z,w,by simp [execOp,ho,e1',qgf hz],.nil hok (.v _ _)⟩
 exact hs.elim
theorem qnT {x} {i : Nat} {y1 : Opd} {d} (ho : o.op = .extract x i) (h1 : opd x = some y1) (hF : FrOK w g F a) (hok : HeapOK hp g w)
 (hs:(AOp.ext d y1 i).sem P (evF F) hp new r ws):VRun P o a w (Post hp g w r ws):=by
 have e1:=qi hF h1;simp only [AOp.sem] at hs;split at hs
 . rename_i vs hu;obtain ⟨y,hy,rfl,rfl⟩:=hs;rw [hu] at e1;generalize hv:a.eval x=v at e1;cases e1 with
   | tup _ cs us hl hr =>
     obtain ⟨hlt,rfl⟩:=List.getElem?_eq_some_iff.1 hy;refine ⟨us.getD i undef,w,?_,.nil hok (hr i hlt)⟩;have:i<us.length:=by omega
     simp [execOp,ho,hv,Instr.extract,this]
 exact hs.elim
theorem qsl {x} {t agg sz} {y1 : Opd} {d} (ho : o.op = .load t x) (ht : qE P t = some (agg,sz)) (h1 : opd x = some y1) (hF : FrOK w g F a) (hok : HeapOK hp g w)
 (hs:(AOp.ld d agg sz y1).sem P (evF F) hp new r ws):VRun P o a w (Post hp g w r ws):=by
 have e1:=qi hF h1;simp only [AOp.sem,Q0] at hs;split at hs
 . rename_i cs off hu;obtain ⟨rfl,hs⟩:=hs;rw [hu] at e1;obtain ⟨b,q,hv,hrow⟩:=Yg e1;obtain ⟨v,h2,h3⟩:=ZP ht hrow hs;exact ⟨v,w,by simp [execOp,ho,hv,Instr.loadAt,Instr.sureAddr,h2],.nil hok h3⟩
 . rename_i id off hu;split at hs
   . rename_i cs hid;obtain ⟨rfl,hs⟩:=hs;rw [hu] at e1;obtain ⟨b,q,hv,hrow,_⟩:=Yh e1 hok hid;obtain ⟨v,h2,h3⟩:=ZP ht hrow hs;exact ⟨v,w,by simp [execOp,ho,hv,Instr.loadAt,Instr.sureAddr,h2],.nil hok h3⟩
   exact hs.elim
 exact hs.elim
theorem qsm {x y} {t agg sz} {y1 y2 : Opd} (ho : o.op = .store t x y) (ht : qE P t = some (agg,sz)) (h1 : opd x = some y1) (h2 : opd y = some y2) (hF : FrOK w g F a) (hok : HeapOK hp g w)
 (hs:(AOp.st sz y1 y2).sem P (evF F) hp new r ws):∃ w',(execOp a.eval o).run P w = .ok .skip w'/\Post hp g w r ws undef w':=by
 have e1:=qi hF h1;have e2:=qi hF h2;simp only [AOp.sem,qaq] at hs;split at hs
 . rename_i id off hu;split at hs
   . rename_i cs hid;obtain ⟨hsz,hc,hle,rfl,rfl⟩:=hs;rw [hu] at e1;obtain ⟨b,q,hv,hrow,hρ⟩:=Yh e1 hok hid;obtain ⟨c1,c2,c3⟩:=Y3 e2 hc;obtain ⟨w',s1,s2,s3⟩ := hok.store (P := P) hid hρ off (a.eval y).cells.toList (evF F y2).cells (by simpa using c1) (by omega) c2 (fun i hi => by obtain ⟨u,hu,hr⟩:=c3 i hi;exact ⟨u,by simpa using hu,hr⟩);refine ⟨w',?_,g,.any _ _,s2,s3⟩;have:(a.eval y).cells.size=sz:=by omega
     simp [execOp,ho,hv,Instr.storeAt,Instr.sureAddr,storeVar,qf ht,this,s1]
   exact hs.elim
 exact hs.elim
theorem qnK {x} {t agg sz} {y1 : Opd} {d} (ho : o.op = .box t x) (ht : qE P t = some (agg,sz)) (h1 : opd x = some y1) (hF : FrOK w g F a) (hok : HeapOK hp g w) (hn : hp new = none)
 (hs:(AOp.box d sz y1).sem P (evF F) hp new r ws):VRun P o a w (Post hp g w r ws):=by
 have e1:=qi hF h1;obtain ⟨hsz,hc,rfl,rfl⟩:=hs;obtain ⟨c1,c2,c3⟩:=Y3 e1 hc;obtain ⟨s2,s3⟩:=hok.alloc_priv hn (a.eval x).cells t (evF F y1).cells (by omega) c3;refine ⟨.pointer (some ⟨w.heap.size,0,none⟩),w.alloc (.cells (a.eval x).cells t),by simp [execOp,ho,Instr.box,newVar,newRow],_,?_,s2,s3⟩;have:=Rep.ref (w:=w.alloc (.cells (a.eval x).cells t)) (g:=g.home new (.blk w.heap.size 0)) new 0 w.heap.size 0 (by simp [G.home]);simpa using this
theorem qjr {x} {y1 : Opd} {d} (ho : o.op = .nilCheck x) (h1 : opd x = some y1) (hF : FrOK w g F a) (hok : HeapOK hp g w)
 (hs:(AOp.nilc d y1).sem P (evF F) hp new r ws):VRun P o a w (Post hp g w r ws):=by
 have e1:=qi hF h1;simp only [AOp.sem] at hs;split at hs
 . rename_i cs off hu;obtain ⟨rfl,rfl⟩:=hs;rw [hu] at e1;obtain ⟨b,q,hv,hrow⟩:=Yg e1;exact ⟨a.eval x,w,by simp [execOp,ho,hv],.nil hok e1⟩
 . rename_i id off hu;obtain ⟨rfl,rfl⟩:=hs;rw [hu] at e1;generalize hv:a.eval x=v at e1;cases e1 with
   | ref _ _ c dd hl=>exact ⟨_,w,by simp [execOp,ho,hv],.nil hok (.ref _ _ c dd hl)⟩
 . rename_i f as bs hu;obtain ⟨rfl,rfl⟩:=hs;rw [hu] at e1;generalize hv:a.eval x=v at e1;cases e1 with
   | fn _ _ _ _ xs ys hl hl' hr hr'=>exact ⟨_,w,by simp [execOp,ho,hv],.nil hok (.fn _ _ _ _ xs ys hl hl' hr hr')⟩
 exact hs.elim
theorem qsj {x} {s fi} {fields : Array Field} {f : Field} {agg sz} {y1 : Opd} {d} (ho : o.op = .fieldAddr s x fi) (hu : P.underlying s = some (.struct fields)) (hf : fields[fi]? = some f)
 (ht:qE P f.type=some (agg,sz)) (hz:sz≠0) (h1:opd x=some y1) (hF:FrOK w g F a) (hok:HeapOK hp g w)
 (hs:(AOp.fa d y1 f.offset).sem P (evF F) hp new r ws):VRun P o a w (Post hp g w r ws):=by
 have e1:=qi hF h1;have key:∀ b q,a.eval x = .pointer (some ⟨b,q,none⟩)->(execOp a.eval o).run P w = .ok (.value (.pointer (some ⟨b,q+f.offset,none⟩))) w:=fun b q hv=>by simp [execOp,ho,hv,Instr.fieldAt,run_underlying hu,hf,Instr.sureAddr,fieldPlace,qf ht,hz,qG]
 simp only [AOp.sem] at hs;split at hs
 . rename_i cs off hy;obtain ⟨rfl,rfl⟩:=hs;rw [hy] at e1;generalize hv:a.eval x=v at e1;cases e1 with
   | ptr _ _ _ b q vs hc hr =>refine ⟨_,w,key _ _ hv,.nil hok ?_⟩;rw [Nat.add_assoc];exact .ptr _ _ _ b q vs hc hr
 . rename_i id off hy;obtain ⟨rfl,rfl⟩:=hs;rw [hy] at e1;generalize hv:a.eval x=v at e1;cases e1 with
   | ref _ _ c dd hl =>refine ⟨_,w,key _ _ hv,.nil hok ?_⟩;rw [Nat.add_assoc];exact .ref _ _ c dd hl
 exact hs.elim
theorem qsk {t x i e} {agg sz} {y1 y2 : Opd} {d} (ho : o.op = .indexAddr t x i) (hu : P.underlying t = some (.slice e)) (ht : qE P e = some (agg,sz)) (hz : sz ≠ 0)
 (h1:opd x=some y1) (h2:opd i=some y2) (hF:FrOK w g F a) (hok:HeapOK hp g w)
 (hs:(AOp.ia d sz y1 y2).sem P (evF F) hp new r ws):VRun P o a w (Post hp g w r ws):=by
 have e1:=qi hF h1;have e2:=qi hF h2
 have key : ∀ b q n cap k j,a.eval x = .slice (some ⟨b,q,none⟩) n cap -> a.eval i = .int k j -> 0 <= j /\ j < n ->
  (execOp a.eval o).run P w = .ok (.value (.pointer (some ⟨b,q+j.toNat*sz,none⟩))) w:=fun b q n cap k j hv hi hj=>by
  simp [execOp,ho,hv,hi,Instr.indexAt,asIntOf,run_underlying hu,hj,qf ht,qG]
 simp only [AOp.sem] at hs;split at hs
 . rename_i f n cs k j hy hi;obtain ⟨hj,rfl,rfl,hlen⟩:=hs;rw [hy] at e1;rw [hi] at e2;have e2':=zu e2;generalize hv:a.eval x=v at e1;cases e1 with
   | sl _ _ _ _ ad cap vs hn hf hc hr =>
     have hpos:0<cs.length:=by
      have:0<n:=by omega
      rw [hlen];exact Nat.mul_pos this (by omega)
     obtain ⟨ad',rfl,hsp,_⟩:=hc 0 hpos;obtain ⟨b,q,sp⟩:=ad';simp at hsp;subst hsp;refine ⟨_,w,key _ _ _ _ _ _ hv e2' hj,.nil hok ?_⟩;exact .ptr _ _ _ b q vs (fun m hm=>by obtain ⟨_,h3,_,h4,h5⟩:=hc m hm;cases h3;exact ⟨h4,h5⟩) hr
 . rename_i id off n sz' k j hy hi;obtain ⟨hj,rfl,rfl,rfl⟩:=hs;rw [hy] at e1;rw [hi] at e2;have e2':=zu e2;generalize hv:a.eval x=v at e1;cases e1 with
   | ms _ _ _ _ c dd cap arr ty fz hl hn hb hs =>refine ⟨_,w,key _ _ _ _ _ _ hv e2' hj,.nil hok ?_⟩;rw [Nat.add_assoc];exact .ref _ _ c dd hl
   | msz=>omega
 . rename_i id off n c' sz' k j hy hi;obtain ⟨hj,rfl,rfl,rfl⟩:=hs;rw [hy] at e1;rw [hi] at e2;have e2':=zu e2;generalize hv:a.eval x=v at e1;cases Xb e1 with
   | ms _ _ _ _ c dd cap arr ty fz hl hn hb hs =>refine ⟨_,w,key _ _ _ _ _ _ hv e2' hj,.nil hok ?_⟩;rw [Nat.add_assoc];exact .ref _ _ c dd hl
   | msz=>omega
 exact hs.elim
theorem qnV {t x i e ln} {agg sz} {y1 y2 : Opd} {d} (ho : o.op = .indexAddr t x i) (hu : P.underlying t = some (.array ln e)) (ht : qE P e = some (agg,sz))
 (h1:opd x=some y1) (h2:opd i=some y2) (hF:FrOK w g F a) (hok:HeapOK hp g w)
 (hs:(AOp.iaa d ln sz y1 y2).sem P (evF F) hp new r ws):VRun P o a w (Post hp g w r ws):=by
 have e1:=qi hF h1;have e2:=qi hF h2
 have key : ∀ b q k j,a.eval x = .pointer (some ⟨b,q,none⟩) -> a.eval i = .int k j -> 0 <= j /\ j < ln ->
  (execOp a.eval o).run P w = .ok (.value (.pointer (some ⟨b,q+j.toNat*sz,none⟩))) w:=fun b q k j hv hi hj=>by
  simp [execOp,ho,hv,hi,Instr.indexAt,asIntOf,run_underlying hu,hj,qf ht,qG,Instr.sureAddr]
 simp only [AOp.sem] at hs;split at hs
 . rename_i cs off k j hy hi;obtain ⟨hj,rfl,rfl⟩:=hs;rw [hy] at e1;rw [hi] at e2;have e2':=zu e2;generalize hv:a.eval x=v at e1;cases e1 with
   | ptr _ _ _ b q vs hc hr =>refine ⟨_,w,key _ _ _ _ hv e2' hj,.nil hok ?_⟩;rw [Nat.add_assoc];exact .ptr _ _ _ b q vs hc hr
 . rename_i id off k j hy hi;obtain ⟨hj,rfl,rfl⟩:=hs;rw [hy] at e1;rw [hi] at e2;have e2':=zu e2;generalize hv:a.eval x=v at e1;cases e1 with
   | ref _ _ c dd hl =>refine ⟨_,w,key _ _ _ _ hv e2' hj,.nil hok ?_⟩;rw [Nat.add_assoc];exact .ref _ _ c dd hl
 exact hs.elim
theorem Vx {w g p cs v} (h:Rep w g p (.agg cs) v):∃ us:List Value,v = .agg us.toArray/\us.length=cs.length/\∀ i (hi:i<cs.length),Rep w g p cs[i] (us.getD i undef):=by
 cases h with
 | agg _ _ vs hl hr=>exact ⟨vs,rfl,hl,hr⟩
theorem qcr {P : Program} {t agg sz} (ht : qE P t = some (agg,sz)) {cs : List AV} {us : List Value} {w g off r} (hl : us.length = cs.length) (hr : ∀ i (hi : i < cs.length),Rep w g false cs[i] (us.getD i undef))
 (hs:match agg with | true=>off+sz<=cs.length/\r = .agg (qy cs off sz) | false=>∃ y,cs[off]?=some y/\r=y) :
 ∃ v,(part t us.toArray off).run P w = .ok v w/\Rep w g false r v:=by
 cases agg with
 | true =>
   obtain ⟨hle,rfl⟩:=hs;refine ⟨.agg (us.toArray.extract off (off+sz)),by simp [part,jg ht,qf ht],?_⟩
   have := Rep.agg (w := w) (g := g) false (qy cs off sz) ((us.drop off).take sz) (by simp [qy]; omega) (fun i hi => by
    have hi':i<sz:=by simp [qy] at hi;omega
    have:=hr (off+i) (by omega);simp only [qy,List.getElem_take,List.getElem_drop];simpa [List.getD,List.getElem?_take_of_lt hi',List.getElem?_drop] using this)
   rw [show us.toArray.extract off (off+sz)=((us.drop off).take sz).toArray by simp [List.extract_eq_take_drop,List.take_drop]];exact this
 | false =>
   obtain ⟨y,hy,rfl⟩:=hs;obtain ⟨hlt,rfl⟩:=List.getElem?_eq_some_iff.1 hy;have:off<us.length:=by omega
   refine ⟨us.getD off undef,by simp [part,jg ht,this],hr off hlt⟩
theorem qnU {t x fi} {fields : Array Field} {f : Field} {agg sz} {y1 : Opd} {d} (ho : o.op = .field t x fi) (hu : P.underlying t = some (.struct fields)) (hf : fields[fi]? = some f)
 (ht:qE P f.type=some (agg,sz)) (h1:opd x=some y1) (hF:FrOK w g F a) (hok:HeapOK hp g w)
 (hs:(AOp.fld d agg sz f.offset y1).sem P (evF F) hp new r ws):VRun P o a w (Post hp g w r ws):=by
 have e1:=qi hF h1;simp only [AOp.sem] at hs;split at hs
 . rename_i cs hy;obtain ⟨hs,rfl⟩:=hs;rw [hy] at e1;obtain ⟨us,hv,hl,hr⟩:=Vx e1;obtain ⟨v,h2,h3⟩:=qcr ht hl hr hs;exact ⟨v,w,by simp [execOp,ho,hv,Instr.field,run_underlying hu,hf,asAgg,h2],.nil hok h3⟩
 exact hs.elim
theorem qnX {t x i e ln} {agg sz} {y1 y2 : Opd} {d} (ho : o.op = .index t x i) (hu : P.underlying t = some (.array ln e)) (ht : qE P e = some (agg,sz))
 (h1:opd x=some y1) (h2:opd i=some y2) (hF:FrOK w g F a) (hok:HeapOK hp g w)
 (hs:(AOp.idx d ln agg sz y1 y2).sem P (evF F) hp new r ws):VRun P o a w (Post hp g w r ws):=by
 have e1:=qi hF h1;have e2:=qi hF h2;simp only [AOp.sem] at hs;split at hs
 . rename_i cs k j hy hi;obtain ⟨hj,hs,rfl⟩:=hs;rw [hy] at e1;rw [hi] at e2;have e2':=zu e2;obtain ⟨us,hv,hl,hr⟩:=Vx e1;obtain ⟨v,h3,h4⟩:=qcr ht hl hr hs;exact ⟨v,w,by simp [execOp,ho,hv,e2',Instr.index,asIntOf,run_underlying hu,hj,qf ht,h3],.nil hok h4⟩
 exact hs.elim
theorem qnW {t x i} {y1 y2 : Opd} {d} (ho : o.op = .index t x i) (hu : P.underlying t = some .string)
 (h1:opd x=some y1) (h2:opd i=some y2) (hF:FrOK w g F a) (hok:HeapOK hp g w)
 (hs:(AOp.ids d y1 y2).sem P (evF F) hp new r ws):VRun P o a w (Post hp g w r ws):=by
 have e1:=qi hF h1;have e2:=qi hF h2;simp only [AOp.sem] at hs;split at hs
 . rename_i s k j hy hi;obtain ⟨hj,⟨b,hb,rfl⟩,rfl⟩:=hs;rw [hy] at e1;rw [hi] at e2;have e1':=zu e1;have e2':=zu e2;exact ⟨_,w,by simp [execOp,ho,e1',e2',Instr.index,asIntOf,run_underlying hu,hj,hb],.nil hok (.v _ _)⟩
 exact hs.elim
theorem qnO {t t' x k} {y1 : Opd} {d k0} (ho : o.op = .convert t t' x) (hu : P.underlying t = some (.int k0)) (hu' : P.underlying t' = some (.int k))
 (h1:opd x=some y1) (hF:FrOK w g F a) (hok:HeapOK hp g w)
 (hs:(AOp.cnv d k y1).sem P (evF F) hp new r ws):VRun P o a w (Post hp g w r ws):=by
 have e1:=qi hF h1;simp only [AOp.sem] at hs;split at hs
 . rename_i k1 n hy;obtain ⟨rfl,rfl⟩:=hs;rw [hy] at e1;have e1':=zu e1;exact ⟨_,w,by simp [execOp,ho,e1',convert,run_underlying hu,run_underlying hu',Conv.intToInt],.nil hok (.v _ _)⟩
 exact hs.elim
end
def zK (hp:Hp) (g:G) (ids:List Nat) (b q:Nat):Prop:=∃ id cs d,id∈ids/\hp id=some (.cells cs)/\g.ρ id=some (.blk b d)/\d<=q/\q<d+cs.length
theorem zw (hp : Hp) : ∀ (ids : List Nat) (i : Nat),Hp.write hp (gones ids) i = if i ∈ ids then some .gone else hp i
 | [],i=>by simp [gones,Hp.write]
 | x::ids, i=>by
   simp only [gones,List.map_cons,Hp.write];have:=zw (Hp.set hp x .gone) ids i;simp only [gones] at this;rw [this];by_cases h:i∈ids
   . simp [h]
   by_cases e:i=x
   . subst e;simp [h,Hp.set_same]
   simp [h,e,Hp.set_other _ _ e]
theorem HeapOK.giveAll {hp g w} (h : HeapOK hp g w) (ids : List Nat) (hids : ∀ i ∈ ids,∃ cs,hp i = some (.cells cs)) :
 HeapOK (Hp.write hp (gones ids)) (g.pub (zK hp g ids)) w/\Upd hp g w (Hp.write hp (gones ids)) (g.pub (zK hp g ids)) w:=by
 have tr:Trans w g w (g.pub (zK hp g ids)):=⟨fun _ _ x => .inl x,fun _ _ _=>rfl,fun _ _ x=>x,fun b arr ty fz hb=>⟨arr,hb,rfl⟩,rfl,rfl,rfl,Nat.le_refl _,Nat.le_refl _⟩;refine ⟨h.change (fun i=>i∈ids) tr (fun i hi=>by rw [zw,if_neg hi]) (fun _ _=>rfl) (fun _ _ _ _ _ _ _ _=>rfl) (fun i o c' d' hi ho' hl hr' q hq=>?_) ?_ ?_ ?_,tr,?_,?_,fun b hb _=>rfl⟩
 . rcases hq with hq | ⟨id,cs,d,h1,h2,h3,_⟩
   . exact hq
   exact absurd (h.inj i id o _ c' d' d ho' h2 hl rfl hr' h3) (fun e=>hi (e ▸ h1))
 . intro i hi;obtain ⟨cs,hcs⟩:=hids i hi;obtain ⟨l,h1,_⟩:=h.rep i _ hcs;exact ⟨.gone,l,by rw [zw,if_pos hi],h1,by cases l <;> trivial⟩
 . intro i i' o1 o' c1 d1 d1' hi ho1 ho1' hl hl' hr1 hr1';rw [zw,if_pos hi] at ho1;cases ho1;cases hl
 . rintro b q (hs | ⟨id,cs,d,h1,h2,h3,hq,hq'⟩)
   . exact h.ex b q hs
   obtain ⟨l,e1,e2⟩:=h.rep id _ h2;rw [h3] at e1;cases e1;obtain ⟨arr,ty,fz,g1,g2,_⟩:=e2;refine ⟨arr[q]'(by omega),?_⟩;simp only [World.cell?,g1];simp [show q<arr.size by omega]
 . rintro c1 ⟨i,o1,d1,ho1,hl,hr1⟩;rw [zw] at ho1;by_cases e:i∈ids
   . rw [if_pos e] at ho1;cases ho1;cases hl
   rw [if_neg e] at ho1;exact .inl ⟨i,o1,d1,ho1,hl,hr1⟩
 rintro b q (hs | ⟨id,cs,d,h1,h2,h3,_⟩)
 . exact .inl hs
 exact .inr (.inl ⟨id,_,d,h2,rfl,h3⟩)
theorem Qs {α} {p:α->Bool} {l:List α} (h:(l.all p)=true) (i:Nat) (hi:i<l.length):p l[i]=true:=List.all_eq_true.1 h _ (List.getElem_mem _)
theorem qah {w g x v} (hx:x.isPure0=true) (h:Rep w g false x v):Rep w g true x v:=by
 cases h with
 | v=>exact .v _ _
 | sl _ _ _ _ _ _ vs h1 h2 h3 h4=>exact .sl _ _ _ _ _ _ vs h1 h2 h3 h4
 | ptr _ _ _ _ _ vs h1 h2=>exact .ptr _ _ _ _ _ vs h1 h2
 | _=>simp [AV.isPure0] at hx
theorem zU {w g x v} (hx:x.isPure=true) (h:Rep w g false x v):Rep w g true x v:=by
 cases h with
 | v=>exact .v _ _
 | sl _ _ _ _ _ _ vs h1 h2 h3 h4=>exact .sl _ _ _ _ _ _ vs h1 h2 h3 h4
 | ptr _ _ _ _ _ vs h1 h2=>exact .ptr _ _ _ _ _ vs h1 h2
 | fn _ f as bs xs ys h1 h2 h3 h4 =>simp only [AV.isPure,Bool.and_eq_true] at hx;exact .fn _ f as bs xs ys h1 h2 (fun i hi=>qah (Qs hx.1 i hi) (h3 i hi)) (fun i hi=>qah (Qs hx.2 i hi) (h4 i hi))
 | _=>simp [AV.isPure] at hx
theorem QT {cs:List AV} {off m i:Nat} (h:i<(qy cs off m).length):(qy cs off m)[i]=cs[off+i]'(by simp [qy] at h;omega):=by simp [qy]
theorem qD {cs:List AV} {off m:Nat} (h:off+m<=cs.length):(qy cs off m).length=m:=by simp [qy];omega
theorem qaf {hp : Hp} {f : AV -> Option (AV × List Nat)} (hf : ∀ {x y is},f x = some (y,is) -> ∀ i ∈ is,∃ cs,hp i = some (.cells cs)) : ∀ {xs ys : List AV} {is : List Nat},jI f xs = some (ys,is) -> ∀ i ∈ is,∃ cs,hp i = some (.cells cs)
 | [],ys,is,h=>by simp [jI] at h;obtain ⟨rfl,rfl⟩:=h;simp
 | x::xs, ys, is, h=>by
   simp only [jI] at h;split at h
   . rename_i y a ys' b h1 h2;simp only [Option.some.injEq,Prod.mk.injEq] at h;obtain ⟨rfl,rfl⟩:=h;intro i hi;rcases List.mem_append.1 hi with hi | hi
     . exact hf h1 i hi
     exact qaf hf h2 i hi
   cases h
theorem jB {hp:Hp} {f:AV->Option (AV × List Nat)} {id:Nat} {ys:List AV} {is:List Nat} (h:Ze f hp id=some (ys,is)):∃ cs js,hp id=some (.cells cs)/\jI f cs=some (ys,js)/\is=id::js:=by
 unfold Ze at h;split at h
 . rename_i cs hcs;split at h
   . rename_i ys' js hl;simp only [Option.some.injEq,Prod.mk.injEq] at h;obtain ⟨rfl,rfl⟩:=h;exact ⟨cs,js,hcs,hl,rfl⟩
   cases h
 cases h
theorem J7 {hp:Hp} {f:AV->Option (AV × List Nat)} (hf:∀ {x y is},f x=some (y,is)->∀ i∈is,∃ cs,hp i=some (.cells cs)) {id:Nat} {ys:List AV} {is:List Nat} (h:Ze f hp id=some (ys,is)):∀ i∈is,∃ cs,hp i=some (.cells cs):=by
 obtain ⟨cs,js,h1,h2,rfl⟩:=jB h;intro i hi;rcases List.mem_cons.1 hi with rfl | hi
 . exact ⟨cs,h1⟩
 exact qaf hf h2 i hi
theorem qiX {hp:Hp}:∀ {k:Nat} {x y:AV} {is:List Nat},Yu hp k x=some (y,is)->∀ i∈is,∃ cs,hp i=some (.cells cs):=by
 intro k
 induction k with
 | zero =>
   intro x y is h;cases x <;> simp only [Yu] at h <;> first | (cases h;done) | (simp only [Option.some.injEq,Prod.mk.injEq] at h;obtain ⟨-,rfl⟩:=h;simp;done) | skip
   rename_i f as bs;cases e:(AV.fn f as bs).isPure <;> rw [e] at h <;> simp at h;obtain ⟨-,rfl⟩:=h;simp
 | succ k ih =>
   intro x y is h;cases x <;> simp only [Yu] at h <;> first | (cases h;done) | (simp only [Option.some.injEq,Prod.mk.injEq] at h;obtain ⟨-,rfl⟩:=h;simp;done) | skip
   . rename_i id off;split at h
     . rename_i ys js hr;simp only [Option.some.injEq,Prod.mk.injEq] at h;obtain ⟨-,rfl⟩:=h;exact J7 ih hr
     cases h
   . split at h
     . rename_i ys js hr;split at h
       . simp only [Option.some.injEq,Prod.mk.injEq] at h;obtain ⟨-,rfl⟩:=h;exact J7 ih hr
       cases h
     cases h
   . rename_i f as bs;cases e:(AV.fn f as bs).isPure <;> rw [e] at h <;> simp at h;obtain ⟨-,rfl⟩:=h;simp
   split at h
   . rename_i ys js hr;split at h
     . simp only [Option.some.injEq,Prod.mk.injEq] at h;obtain ⟨-,rfl⟩:=h;exact J7 ih hr
     cases h
   cases h
theorem qf6 {hp:Hp} {k:Nat} {x:AV} (h:x.isPure=true):Yu hp k x=some (x,[]):=by
 cases x <;> first | (simp [AV.isPure] at h;done) | (cases k <;> rfl) | skip
 cases k <;> (simp only [Yu];rw [h];rfl)
theorem jA {hp : Hp} {k : Nat} : ∀ {cs : List AV},(cs.all AV.isPure) = true -> jI (Yu hp k) cs = some (cs,[])
 | [],_=>rfl
 | x::cs,h=>by rw [List.all_cons,Bool.and_eq_true] at h;simp only [jI,qf6 h.1,jA h.2,List.nil_append]
theorem J5 {hp:Hp} {id off n sz:Nat} {cs:List AV} (h:hp id=some (.cells cs)) (hc:off+n*sz<=cs.length/\(cs.all AV.isPure)=true):zk hp (.ms id off n sz)=some (.sl false n (qy cs off (n*sz)),[id]):=by simp only [zk,Yu,Ze,h,jA hc.2,if_pos hc.1]
theorem qf5 {hp:Hp} {id off n c sz:Nat} {cs:List AV} (h:hp id=some (.cells cs)) (hc:off+n*sz<=cs.length/\(cs.all AV.isPure)=true):zk hp (.mc id off n c sz)=some (.sl false n (qy cs off (n*sz)),[id]):=by simp only [zk,Yu,Ze,h,jA hc.2,if_pos hc.1]
theorem qiW {hp:Hp} {id off:Nat} {cs:List AV} (h:hp id=some (.cells cs)) (hc:(cs.all AV.isPure)=true):zk hp (.ref id off)=some (.ptr cs off,[id]):=by simp only [zk,Yu,Ze,h,jA hc]
theorem Jb {hp:Hp} {x y:AV} {is:List Nat} (h:zk hp x=some (y,is)):∀ i∈is,∃ cs,hp i=some (.cells cs):=by cases x <;> simp only [zk] at h <;> first | (cases h;done) | (simp only [Option.some.injEq,Prod.mk.injEq] at h;obtain ⟨-,rfl⟩:=h;simp;done) | exact qiX h
theorem Vt {f : AV -> Option (AV × List Nat)} : ∀ {xs ys : List AV} {is : List Nat},jI f xs = some (ys,is) -> ys.length = xs.length
 | [],ys,is,h=>by simp [jI] at h;obtain ⟨rfl,rfl⟩:=h;rfl
 | x::xs, ys, is, h=>by
   simp only [jI] at h;split at h
   . rename_i y a ys' b h1 h2;simp only [Option.some.injEq,Prod.mk.injEq] at h;obtain ⟨rfl,rfl⟩:=h;simp [Vt h2]
   cases h
theorem Vs {f : AV -> Option (AV × List Nat)} : ∀ {xs ys : List AV} {is : List Nat},jI f xs = some (ys,is) -> ∀ i (h : i < xs.length) (h' : i < ys.length),∃ js,f xs[i] = some (ys[i],js) /\ ∀ j ∈ js,j ∈ is
 | [],ys,is,h=>by intro i hi;simp at hi
 | x::xs, ys, is, h=>by
   simp only [jI] at h;split at h
   . rename_i y a ys' b h1 h2;simp only [Option.some.injEq,Prod.mk.injEq] at h;obtain ⟨rfl,rfl⟩:=h;intro i hi hi';cases i with
     | zero=>exact ⟨a,h1,fun j hj=>by simp [hj]⟩
     | succ i =>obtain ⟨js,e1,e2⟩:=Vs h2 i (by simpa using hi) (by simpa using hi');exact ⟨js,e1,fun j hj=>by simp [e2 j hj]⟩
   cases h
def qlv (hp:Hp) (g:G) (w:World) (ids:List Nat) (f:AV->Option (AV × List Nat)):Prop :=
 ∀ {x y:AV} {is:List Nat} {v:Value},f x=some (y,is)->(∀ i∈is,i∈ids)->Rep w g false x v->Rep w (g.pub (zK hp g ids)) true y v
theorem qag {hp g w} (hok : HeapOK hp g w) {ids : List Nat} {f : AV -> Option (AV × List Nat)} (hf : qlv hp g w ids f) {ys : List AV} {id off n sz : Nat} {is : List Nat} {v : Value} (hp1 : Ze f hp id = some (ys,is)) (hle : off + n * sz <= ys.length) (hsub : ∀ i ∈ is,i ∈ ids)
 (h:Rep w g false (.ms id off n sz) v):Rep w (g.pub (zK hp g ids)) true (.sl false n (qy ys off (n*sz))) v:=by
 obtain ⟨cs,js,hcs,hl2,rfl⟩:=jB hp1;have hlen:=Vt hl2;have hget:=Vs hl2;cases h with
 | ms _ _ _ _ c d cap arr0 ty0 fz0 hl hn hb hs =>
   obtain ⟨l,e1,e2⟩:=hok.rep id _ hcs;rw [hl] at e1;cases e1;obtain ⟨arr,ty,fz,g1,g2,g3,g4,g5⟩:=e2;refine .sl _ _ _ _ _ _ (fun i=>arr.getD (d+off+i) undef) hn (fun h=>by cases h) (fun i hi=>?_) (fun i hi=>?_)
   . rw [qD hle] at hi;refine ⟨_,rfl,rfl,.inr ⟨id,cs,d,hsub id (by simp),hcs,hl,by show d<=d+off+i;omega,by show d+off+i<d+cs.length;omega⟩,?_⟩;simp [World.cell?,g1,show d+off+i<arr.size by omega]
   have hi':=hi;rw [qD hle] at hi';obtain ⟨x,hx,hr⟩:=g5 (off+i) (by omega);obtain ⟨us,u1,u2⟩:=hget (off+i) (by omega) (by omega);have:arr.getD (d+off+i) undef=x:=by rw [Nat.add_assoc];simp [hx]
   rw [this,QT hi];exact hf u1 (fun i hi=>hsub i (by simp [u2 i hi])) hr
 | msz _ _ _ a l hl =>exact .sl _ _ _ _ _ _ (fun i=>undef) (Nat.le_refl _) (fun h=>by cases h) (fun i hi=>by simp [qy] at hi) (fun i hi=>by simp [qy] at hi)
theorem qdA {hp g w} (hok : HeapOK hp g w) {ids : List Nat} {f : AV -> Option (AV × List Nat)} (hf : qlv hp g w ids f) {ys : List AV} {id off : Nat} {is : List Nat} {v : Value} (hp1 : Ze f hp id = some (ys,is)) (hsub : ∀ i ∈ is,i ∈ ids)
 (h:Rep w g false (.ref id off) v):Rep w (g.pub (zK hp g ids)) true (.ptr ys off) v:=by
 obtain ⟨cs,js,hcs,hl2,rfl⟩:=jB hp1;have hlen:=Vt hl2;have hget:=Vs hl2;cases h with
 | ref id off c d hl =>
   obtain ⟨l,e1,e2⟩:=hok.rep id _ hcs;rw [hl] at e1;cases e1;obtain ⟨arr,ty,fz,g1,g2,g3,g4,g5⟩:=e2;refine .ptr _ _ _ c d (fun i=>arr.getD (d+i) undef) (fun i hi=>⟨.inr ⟨id,cs,d,hsub id (by simp),hcs,hl,by omega,by omega⟩,?_⟩) (fun i hi=>?_)
   . simp [World.cell?,g1,show d+i<arr.size by omega]
   obtain ⟨x,hx,hr⟩:=g5 i (by omega);obtain ⟨us,u1,u2⟩:=hget i (by omega) (by omega);have:arr.getD (d+i) undef=x:=by simp [hx]
   rw [this];exact hf u1 (fun i hi=>hsub i (by simp [u2 i hi])) hr
theorem qco {hp g w} (hok:HeapOK hp g w) {ids:List Nat}:∀ k,qlv hp g w ids (Yu hp k):=by
 have tr:Trans w g w (g.pub (zK hp g ids)):=⟨fun _ _ x => .inl x,fun _ _ _=>rfl,fun _ _ x=>x,fun b arr ty fz hb=>⟨arr,hb,rfl⟩,rfl,rfl,rfl,Nat.le_refl _,Nat.le_refl _⟩;intro k
 induction k with
 | zero =>
   intro x y is v h hsub hr;cases x <;> simp only [Yu] at h <;> first | (cases h;done) | skip
   . simp only [Option.some.injEq,Prod.mk.injEq] at h;obtain ⟨rfl,rfl⟩:=h;exact (zU rfl hr).mono tr
   . simp only [Option.some.injEq,Prod.mk.injEq] at h;obtain ⟨rfl,rfl⟩:=h;exact (zU rfl hr).mono tr
   . simp only [Option.some.injEq,Prod.mk.injEq] at h;obtain ⟨rfl,rfl⟩:=h;exact (zU rfl hr).mono tr
   rename_i f as bs;cases e:(AV.fn f as bs).isPure <;> rw [e] at h <;> simp at h;obtain ⟨rfl,rfl⟩:=h;exact (zU e hr).mono tr
 | succ k ih =>
   intro x y is v h hsub hr;cases x <;> simp only [Yu] at h <;> first | (cases h;done) | skip
   . simp only [Option.some.injEq,Prod.mk.injEq] at h;obtain ⟨rfl,rfl⟩:=h;exact (zU rfl hr).mono tr
   . simp only [Option.some.injEq,Prod.mk.injEq] at h;obtain ⟨rfl,rfl⟩:=h;exact (zU rfl hr).mono tr
   . simp only [Option.some.injEq,Prod.mk.injEq] at h;obtain ⟨rfl,rfl⟩:=h;exact (zU rfl hr).mono tr
   . split at h
     . rename_i ys js hq;simp only [Option.some.injEq,Prod.mk.injEq] at h;obtain ⟨rfl,rfl⟩:=h;exact qdA hok ih hq hsub hr
     cases h
   . split at h
     . rename_i ys js hq;split at h
       . rename_i hle;simp only [Option.some.injEq,Prod.mk.injEq] at h;obtain ⟨rfl,rfl⟩:=h;exact qag hok ih hq hle hsub hr
       cases h
     cases h
   . rename_i f as bs;cases e:(AV.fn f as bs).isPure <;> rw [e] at h <;> simp at h;obtain ⟨rfl,rfl⟩:=h;exact (zU e hr).mono tr
   split at h
   . rename_i ys js hq;split at h
     . rename_i hle;simp only [Option.some.injEq,Prod.mk.injEq] at h;obtain ⟨rfl,rfl⟩:=h;refine qag hok ih hq hle hsub ?_;cases hr with
       | mc id off n cap sz c d arr0 ty0 fz0 hl hn hb hs=>exact Xb (p:=false) (.mc _ _ _ _ _ _ _ _ _ _ hl hn hb hs)
       | mcz id off sz a l hl=>exact Xb (p:=false) (.mcz _ _ _ _ _ hl)
     cases h
   cases h
theorem Vv {hp g w} (hok : HeapOK hp g w) {ids : List Nat} {x y : AV} {is : List Nat} {v : Value} (hp1 : zk hp x = some (y,is)) (hsub : ∀ i ∈ is,i ∈ ids) (h : Rep w g false x v) :
 Rep w (g.pub (zK hp g ids)) true y v/\∀ i∈is,∃ cs,hp i=some (.cells cs) :=
 ⟨by cases x <;> simp only [zk] at hp1 <;> first | (cases hp1;done) | exact qco hok 5 hp1 hsub h | exact qco hok 5 (by simpa only [Yu] using hp1) hsub h,Jb hp1⟩
theorem Zf {hp : Hp} : ∀ {xs ys : List AV} {is : List Nat},zt hp xs = some (ys,is) -> ∀ i ∈ is,∃ cs,hp i = some (.cells cs)
 | [],ys,is,h=>by simp [zt] at h;obtain ⟨rfl,rfl⟩:=h;simp
 | x::xs, ys, is, h=>by
   simp only [zt] at h;split at h
   . rename_i y a ys' b h1 h2;simp only [Option.some.injEq,Prod.mk.injEq] at h;obtain ⟨rfl,rfl⟩:=h;intro i hi;rcases List.mem_append.1 hi with hi | hi
     . exact Jb h1 i hi
     exact Zf h2 i hi
   cases h
theorem Zg {hp g w} (hok : HeapOK hp g w) {ids : List Nat} : ∀ {xs ys : List AV} {is : List Nat},zt hp xs = some (ys,is) -> (∀ i ∈ is,i ∈ ids) -> ys.length = xs.length /\
 ∀ j (hj:j<xs.length) (hj':j<ys.length) v,Rep w g false xs[j] v->Rep w (g.pub (zK hp g ids)) true ys[j] v
 | [],ys,is,h,hsub=>by simp [zt] at h;obtain ⟨rfl,rfl⟩:=h;simp
 | x::xs, ys, is, h, hsub=>by
   simp only [zt] at h;split at h
   . rename_i y a ys' b h1 h2;simp only [Option.some.injEq,Prod.mk.injEq] at h;obtain ⟨rfl,rfl⟩:=h;obtain ⟨l1,l3⟩:=Zg hok h2 (fun i hi=>hsub i (by simp [hi]));refine ⟨by simp [l1],fun j hj hj' v hr=>?_⟩;cases j with
     | zero=>exact (Vv hok h1 (fun i hi=>hsub i (by simp [hi])) hr).1
     | succ j=>exact l3 j (by simpa using hj) (by simpa using hj') v hr
   cases h
theorem Jc {hp:Hp} {x y:AV} {is:List Nat} (h:qF hp x=some (y,is)):∀ i∈is,∃ cs,hp i=some (.cells cs):=by
 cases x with
 | agg cs =>simp only [qF,Option.map_eq_some_iff] at h;obtain ⟨⟨ys,a⟩,h1,h2⟩:=h;simp only [Prod.mk.injEq] at h2;obtain ⟨-,rfl⟩:=h2;exact Zf h1
 | fn f as bs =>
   simp only [qF] at h;split at h
   . rename_i xs a ys b h1 h2;simp only [Option.some.injEq,Prod.mk.injEq] at h;obtain ⟨-,rfl⟩:=h;intro i hi;rcases List.mem_append.1 hi with hi | hi
     . exact Zf h1 i hi
     exact Zf h2 i hi
   cases h
 | _=>simp only [qF] at h;exact Jb h
theorem q8 {hp g w} (hok : HeapOK hp g w) {ids : List Nat} {x y : AV} {is : List Nat} {v : Value} (hp1 : qF hp x = some (y,is)) (hsub : ∀ i ∈ is,i ∈ ids) (h : Rep w g false x v) :
 Rep w (g.pub (zK hp g ids)) true y v/\∀ i∈is,∃ cs,hp i=some (.cells cs):=by
 refine ⟨?_,Jc hp1⟩;cases x with
 | agg cs =>
   simp only [qF,Option.map_eq_some_iff] at hp1;obtain ⟨⟨ys,a⟩,h1,h2⟩:=hp1;simp only [Prod.mk.injEq] at h2;obtain ⟨rfl,rfl⟩:=h2;cases h with
   | agg _ cs vs hl hr =>obtain ⟨l1,l3⟩:=Zg hok h1 hsub;exact .agg _ _ _ (by omega) (fun i hi=>l3 i (by omega) hi _ (hr i (by omega)))
 | fn f as bs =>
   simp only [qF] at hp1;split at hp1
   . rename_i xs a ys b h1 h2;simp only [Option.some.injEq,Prod.mk.injEq] at hp1;obtain ⟨rfl,rfl⟩:=hp1;cases h with
     | fn _ f as bs us vs hl hl' hr hr' =>obtain ⟨l1,l3⟩:=Zg hok h1 (fun i hi=>hsub i (by simp [hi]));obtain ⟨m1,m3⟩:=Zg hok h2 (fun i hi=>hsub i (by simp [hi]));exact .fn _ _ _ _ _ _ (by omega) (by omega) (fun i hi=>l3 i (by omega) hi _ (hr i (by omega))) (fun i hi=>m3 i (by omega) hi _ (hr' i (by omega)))
   cases hp1
 | _=>simp only [qF] at hp1;exact (Vv hok hp1 hsub h).1
theorem ZL {hp : Hp} : ∀ {xs ys : List AV} {is : List Nat},zD hp xs = some (ys,is) -> ∀ i ∈ is,∃ cs,hp i = some (.cells cs)
 | [],ys,is,h=>by simp [zD] at h;obtain ⟨rfl,rfl⟩:=h;simp
 | x::xs, ys, is, h=>by
   simp only [zD] at h;split at h
   . rename_i y a ys' b h1 h2;simp only [Option.some.injEq,Prod.mk.injEq] at h;obtain ⟨rfl,rfl⟩:=h;intro i hi;rcases List.mem_append.1 hi with hi | hi
     . exact Jc h1 i hi
     exact ZL h2 i hi
   cases h
theorem Zy {hp:Hp} {x y:AV} {is:List Nat} (h:qv hp x=some (y,is)):∀ i∈is,∃ cs,hp i=some (.cells cs):=by
 cases x <;> simp only [qv,Option.map_eq_some_iff] at h <;> first
  | exact Jc h
  | (obtain ⟨⟨ys, a⟩, h1, h2⟩ := h
     simp only [Prod.mk.injEq] at h2;obtain ⟨-,rfl⟩:=h2;exact ZL h1)
theorem qA {hp : Hp} : ∀ {xs ys : List AV} {is : List Nat},qh hp xs = some (ys,is) -> ∀ i ∈ is,∃ cs,hp i = some (.cells cs)
 | [],ys,is,h=>by simp [qh] at h;obtain ⟨rfl,rfl⟩:=h;simp
 | x::xs, ys, is, h=>by
   simp only [qh] at h;split at h
   . rename_i y a ys' b h1 h2;simp only [Option.some.injEq,Prod.mk.injEq] at h;obtain ⟨rfl,rfl⟩:=h;intro i hi;rcases List.mem_append.1 hi with hi | hi
     . exact Zy h1 i hi
     exact qA h2 i hi
   cases h
theorem ZN {hp g w} (hok : HeapOK hp g w) {ids : List Nat} : ∀ {xs ys : List AV} {is : List Nat},zD hp xs = some (ys,is) -> (∀ i ∈ is,i ∈ ids) -> ys.length = xs.length /\
 ∀ j (hj:j<xs.length) (hj':j<ys.length) v,Rep w g false xs[j] v->Rep w (g.pub (zK hp g ids)) true ys[j] v
 | [],ys,is,h,hsub=>by simp [zD] at h;obtain ⟨rfl,rfl⟩:=h;simp
 | x::xs, ys, is, h, hsub=>by
   simp only [zD] at h;split at h
   . rename_i y a ys' b h1 h2;simp only [Option.some.injEq,Prod.mk.injEq] at h;obtain ⟨rfl,rfl⟩:=h;obtain ⟨l1,l3⟩:=ZN hok h2 (fun i hi=>hsub i (by simp [hi]));refine ⟨by simp [l1],fun j hj hj' v hr=>?_⟩;cases j with
     | zero=>exact (q8 hok h1 (fun i hi=>hsub i (by simp [hi])) hr).1
     | succ j=>exact l3 j (by simpa using hj) (by simpa using hj') v hr
   cases h
theorem jC {hp g w} (hok : HeapOK hp g w) {ids : List Nat} {x y : AV} {is : List Nat} {v : Value} (h : qv hp x = some (y,is)) (hsub : ∀ i ∈ is,i ∈ ids) (hr : Rep w g false x v) :
 Rep w (g.pub (zK hp g ids)) true y v:=by
 cases hr with
 | agg _ cs vs hl hr =>simp only [qv,Option.map_eq_some_iff] at h;obtain ⟨⟨ys,a⟩,h1,h2⟩:=h;simp only [Prod.mk.injEq] at h2;obtain ⟨rfl,rfl⟩:=h2;obtain ⟨l1,l3⟩:=ZN hok h1 hsub;exact .agg _ _ _ (by omega) (fun i hi=>l3 i (by omega) hi _ (hr i (by omega)))
 | tup _ cs vs hl hr =>simp only [qv,Option.map_eq_some_iff] at h;obtain ⟨⟨ys,a⟩,h1,h2⟩:=h;simp only [Prod.mk.injEq] at h2;obtain ⟨rfl,rfl⟩:=h2;obtain ⟨l1,l3⟩:=ZN hok h1 hsub;exact .tup _ _ _ (by omega) (fun i hi=>l3 i (by omega) hi _ (hr i (by omega)))
 | v=>exact (q8 (x:=_) hok (by simpa only [qv] using h) hsub (.v _ _)).1
 | any=>simp [qv,qF,zk,Yu] at h
 | sl _ _ _ _ _ _ vs h1 h2 h3 h4=>exact (q8 (x:=_) hok (by simpa only [qv] using h) hsub (.sl _ _ _ _ _ _ vs h1 h2 h3 h4)).1
 | ptr _ _ _ _ _ vs h1 h2=>exact (q8 (x:=_) hok (by simpa only [qv] using h) hsub (.ptr _ _ _ _ _ vs h1 h2)).1
 | ref _ _ _ _ h1=>exact (q8 (x:=_) hok (by simpa only [qv] using h) hsub (.ref _ _ _ _ h1)).1
 | ms _ _ _ _ _ _ _ _ _ _ h1 h2 h3 h4=>exact (q8 (x:=_) hok (by simpa only [qv] using h) hsub (.ms _ _ _ _ _ _ _ _ _ _ h1 h2 h3 h4)).1
 | msz _ _ _ _ _ h1=>exact (q8 (x:=_) hok (by simpa only [qv] using h) hsub (.msz _ _ _ _ _ h1)).1
 | fn _ _ _ _ _ _ h1 h2 h3 h4=>exact (q8 (x:=_) hok (by simpa only [qv] using h) hsub (.fn _ _ _ _ _ _ h1 h2 h3 h4)).1
 | mp=>simp [qv,qF,zk,Yu] at h
 | yl=>simp [qv,qF,zk,Yu] at h
 | mc _ _ _ _ _ _ _ _ _ _ h1 h2 h3 h4=>exact (q8 (x:=_) hok (by simpa only [qv] using h) hsub (.mc _ _ _ _ _ _ _ _ _ _ h1 h2 h3 h4)).1
 | mcz _ _ _ _ _ h1=>exact (q8 (x:=_) hok (by simpa only [qv] using h) hsub (.mcz _ _ _ _ _ h1)).1
theorem zV {hp g w} (hok : HeapOK hp g w) {ids : List Nat} : ∀ {xs ys : List AV} {is : List Nat},qh hp xs = some (ys,is) -> (∀ i ∈ is,i ∈ ids) -> ys.length = xs.length /\
 ∀ j (hj:j<xs.length) (hj':j<ys.length) v,Rep w g false xs[j] v->Rep w (g.pub (zK hp g ids)) true ys[j] v
 | [],ys,is,h,hsub=>by simp [qh] at h;obtain ⟨rfl,rfl⟩:=h;simp
 | x::xs, ys, is, h, hsub=>by
   simp only [qh] at h;split at h
   . rename_i y a ys' b h1 h2;simp only [Option.some.injEq,Prod.mk.injEq] at h;obtain ⟨rfl,rfl⟩:=h;obtain ⟨l1,l3⟩:=zV hok h2 (fun i hi=>hsub i (by simp [hi]));refine ⟨by simp [l1],fun j hj hj' v hr=>?_⟩;cases j with
     | zero=>exact jC hok h1 (fun i hi=>hsub i (by simp [hi])) hr
     | succ j=>exact l3 j (by simpa using hj) (by simpa using hj') v hr
   cases h
def RowA (w:World) (g:G) (p:Bool) (arr:Array Value) (cs:List AV):Prop:=arr.size=cs.length/\∀ i (h:i<cs.length),∃ x,arr[i]?=some x/\Rep w g p cs[i] x
theorem zW (z : List AV) : ∀ n,(zE n z).length = n * z.length
 | 0=>by simp [zE]
 | n+1=>by simp [zE,zW z n,Nat.add_mul];omega
theorem qcN (z : List AV) : ∀ n i (h : i < (zE n z).length),∃ h' : i % z.length < z.length,(zE n z)[i] = z[i % z.length]
 | 0,i,h=>by simp [zE] at h
 | n+1, i, h=>by
   have hz:0<z.length:=by
    rcases Nat.eq_zero_or_pos z.length with e | e
    . rw [zW,e] at h;simp at h
    exact e
   refine ⟨Nat.mod_lt _ hz,?_⟩;simp only [zE];by_cases hi:i<z.length
   . rw [List.getElem_append_left hi];simp [Nat.mod_eq_of_lt hi]
   rw [List.getElem_append_right (by omega)];have hl:i - z.length<(zE n z).length:=by rw [zW] at h ⊢;rw [Nat.add_mul] at h;omega
   obtain ⟨h1,h2⟩:=qcN z n (i - z.length) hl;rw [h2];congr 1;have e:=Nat.add_mod_right (i - z.length) z.length;rw [Nat.sub_add_cancel (by omega)] at e;exact e.symm
def zH (P:Program) (t:TypeId):Option (List AV):=((P.info? t).bind (·.zero)).map fun v=>v.cells.toList.map AV.ofCell
theorem QW {P:Program} {t z} (h:zH P t=some z) (w:World):∃ v:Value,(zeroValue t).run P w = .ok v w/\z=v.cells.toList.map AV.ofCell:=by simp only [zH,Option.map_eq_some_iff,Option.bind_eq_some_iff] at h;obtain ⟨v,⟨i,hi,hv⟩,rfl⟩:=h;exact ⟨v,by simp [zeroValue,typeInfo,hi,hv],rfl⟩
theorem jf {w g p} (v:Value):RowA w g p v.cells (v.cells.toList.map AV.ofCell):=by refine ⟨by simp,fun i hi=>?_⟩;simp at hi;exact ⟨v.cells[i],by simp [hi],by simp;exact Zz _ _ _ _⟩
theorem Yf {w g p} (v:Value) (n:Nat):RowA w g p ((Array.range (n*v.cells.size)).map fun i=>v.cells[i % v.cells.size]!) (zE n (v.cells.toList.map AV.ofCell)):=by
 refine ⟨by simp [zW],fun i hi=>?_⟩;obtain ⟨h1,h2⟩:=qcN _ n i hi;have hi':i<n*v.cells.size:=by simpa [zW] using hi
 have h1':i % v.cells.size<v.cells.size:=by simpa using h1
 refine ⟨v.cells[i % v.cells.size],by simp [hi',h1'],?_⟩;rw [h2];simp;exact Zz _ _ _ _
theorem VH (off : Nat) : ∀ (l : List Value) (k : Nat) (arr : Array Value),off + k + l.length <= arr.size -> ∀ i,
 ((l.zipIdx k).foldl (fun cs (x:Value × Nat)=>cs.setIfInBounds (off+x.2) x.1) arr)[i]?=if i<off+k then arr[i]? else if i<off+k+l.length then l[i - (off+k)]? else arr[i]?
 | [],k,arr,_,i=>by simp;omega
 | c::l, k, arr, h, i=>by
   simp only [List.zipIdx_cons,List.foldl_cons];simp at h;rw [VH off l (k+1) _ (by simp;omega) i];by_cases h1:i<off+k
   . rw [if_pos (by omega),if_pos h1,Array.getElem?_setIfInBounds_ne (by omega)]
   rw [if_neg h1];by_cases h2:i=off+k
   . subst h2;rw [if_pos (by omega),if_pos (by simp)];simp [show off+k<arr.size by omega]
   rw [if_neg (by omega)];by_cases h3:i<off+k+(l.length+1)
   . rw [if_pos (by omega),if_pos (by simpa using h3),show i - (off+k)=(i - (off+(k+1)))+1 by omega];simp
   rw [if_neg (by omega),if_neg (by simpa using h3),Array.getElem?_setIfInBounds_ne (by omega)]
theorem qdN (off : Nat) (vs : Array Value) (arr : Array Value) (h : off + vs.size <= arr.size) :
 vs.zipIdx.foldl (fun cs (x:Value × Nat)=>cs.setIfInBounds (off+x.2) x.1) arr=z7 arr off vs.toList:=by
 apply Array.ext_getElem?;intro i;rw [q9 _ _ _ (by simpa using h),<-Array.foldl_toList,Array.toList_zipIdx];rw [VH off vs.toList 0 arr (by simpa using h) i];simp
theorem RowA.splice {w g p arr cs} (h : RowA w g p arr cs) {off : Nat} {vs : List Value} {xs : List AV} (hlen : vs.length = xs.length) (hle : off + xs.length <= cs.length)
 (hr:∀ i (hi:i<xs.length),∃ u,vs[i]?=some u/\Rep w g p xs[i] u):RowA w g p (z7 arr off vs) (splice cs off xs):=by
 obtain ⟨h1,h2⟩:=h;have hsz:=Zj arr off vs (by omega);have hl:(AM.splice cs off xs).length=cs.length:=by simp [AM.splice];omega
 refine ⟨by omega,fun i hi=>?_⟩;rw [q9 _ _ _ (by omega)];have hk:(cs.take off).length=off:=by simp;omega
 by_cases a1:i<off
 . rw [if_pos a1];obtain ⟨x,hx,hx'⟩:=h2 i (by omega);refine ⟨x,hx,?_⟩;have : (AM.splice cs off xs)[i] = cs[i]'(by omega) := by simp only [AM.splice,List.append_assoc];rw [List.getElem_append_left (by omega)];simp
   rw [this];exact hx'
 rw [if_neg a1];by_cases a2:i<off+xs.length
 . rw [if_pos (by omega)];obtain ⟨u,hu,hu'⟩:=hr (i - off) (by omega);refine ⟨u,hu,?_⟩;have : (AM.splice cs off xs)[i] = xs[i - off]'(by omega) := by simp only [AM.splice,List.append_assoc];rw [List.getElem_append_right (by omega),List.getElem_append_left (by omega)];simp only [hk]
   rw [this];exact hu'
 rw [if_neg (by omega)];obtain ⟨x,hx,hx'⟩:=h2 i (by omega);refine ⟨x,hx,?_⟩;have:(AM.splice cs off xs)[i]=cs[i]'(by omega):=by simp only [AM.splice,List.append_assoc];rw [List.getElem_append_right (by omega),List.getElem_append_right (by omega),List.getElem_drop];congr 1;simp only [hk];omega
 rw [this];exact hx'
def Wi (cs : List AV) : List (Nat × AV) -> List AV
 | []=>cs
 | (off,x)::rest=>Wi (splice cs off x.cells) rest
theorem YK {w g p} (Qp : Nat -> Option (Nat × Nat)) : ∀ (l : List (Nat × Value)) (m : List (Nat × AV)) (arr : Array Value) (cs : List AV),l.length = m.length -> RowA w g p arr cs ->
 (∀ i (h:i<l.length) (h':i<m.length),∃ sz,Qp l[i].1=some (m[i].1,sz)/\m[i].2.cells.length=sz/\m[i].1+sz<=cs.length/\(m[i].2.cells.all AV.isCell)=true/\Rep w g p m[i].2 l[i].2) ->
 ∃ arr',Instr.fill Qp arr l=some arr'/\RowA w g p arr' (Wi cs m)
 | [],m,arr,cs,hl,hr,_=>by
   cases m with
   | nil=>exact ⟨arr,rfl,hr⟩
   | cons=>simp at hl
 | (i, v)::l, m, arr, cs, hl, hr, h=>by
   cases m with
   | nil=>simp at hl
   | cons mm m =>
     obtain ⟨off,x⟩:=mm;obtain ⟨sz,h1,h2,h3,h4,h5⟩:=h 0 (by simp) (by simp);simp only [List.getElem_cons_zero] at h1 h2 h3 h4 h5;obtain ⟨c1,c2,c3⟩:=Y3 h5 h4;have hsz:v.cells.size=sz:=by omega
     have hle:off+v.cells.size<=arr.size:=by have:=hr.1;omega
     have hrow:=hr.splice (off:=off) (vs:=v.cells.toList) (xs:=x.cells) (by simpa using c1) (by omega) (fun j hj=>by obtain ⟨u,hu,hu'⟩:=c3 j hj;exact ⟨u,by simpa using hu,hu'⟩)
     obtain ⟨arr',g1,g2⟩ := YK Qp l m _ _ (by simpa using hl) hrow (fun j hj hj' => by
      obtain ⟨sz,a1,a2,a3,a4,a5⟩:=h (j+1) (by simpa using hj) (by simpa using hj');simp only [List.getElem_cons_succ] at a1 a2 a3 a4 a5
      exact ⟨sz, a1, a2, by have : (AM.splice cs off x.cells).length = cs.length := by { simp [AM.splice]; omega }
                            omega,a4,a5⟩)
     refine ⟨arr',?_,g2⟩;unfold Instr.fill;simp only [h1];have hcond:(v.cells.size≠sz || off+v.cells.size>arr.size)=false:=by simp [hsz];omega
     rw [hcond,qdN off v.cells arr hle];simpa using g1
theorem qcm (sz : Nat) : ∀ (l : List (Nat × AV)) (cs : List AV),Qp cs sz l = Wi cs (l.map fun p => (p.1 * sz,p.2))
 | [],cs=>rfl
 | (i,x)::l,cs=>by simp [Qp,Wi,qcm sz l]
theorem Vr : ∀ (l : List (Nat × Nat × AV)) (cs : List AV),ZY cs l = Wi cs (l.map fun p => (p.1,p.2.2))
 | [],cs=>rfl
 | (i,n,x)::l,cs=>by simp [ZY,Wi,Vr l]
theorem VRun.of {P:Program} {o:Oper} {a:Act} {w w':World} {post:Value->World->Prop} {v:Value} (h:(execOp a.eval o).run P w = .ok (.value v) w') (hp:post v w'):VRun P o a w post:=⟨v,w',h,hp⟩
section
variable {P:Program} {o:Oper} {a:Act} {w:World} {g:G} {hp:Hp} {F:Nat->AV} {new:Nat} {r:AV} {ws:List (Nat × HObj)}
theorem Post.row (hok : HeapOK hp g w) (hn : hp new = none) {arr : Array Value} (ty : TypeId) {cs : List AV} (h : RowA w g false arr cs) :
 ∃ g',g'.ρ new=some (.blk w.heap.size 0)/\HeapOK (Hp.write hp [(new,.cells cs)]) g' (w.alloc (.cells arr ty))/\Upd hp g w (Hp.write hp [(new,.cells cs)]) g' (w.alloc (.cells arr ty)):=by
 obtain ⟨s2,s3⟩:=hok.alloc_priv hn arr ty cs (by have:=h.1;omega) h.2;exact ⟨_,by simp [G.home],s2,s3⟩
theorem qsi {t z} {d} (ho : o.op = .alloc t) (hz : zH P t = some z) (hok : HeapOK hp g w) (hn : hp new = none)
 (hs:(AOp.al d z).sem P (evF F) hp new r ws):VRun P o a w (Post hp g w r ws):=by
 obtain ⟨rfl,rfl⟩:=hs;obtain ⟨v,h1,rfl⟩:=QW hz w;obtain ⟨g',h2,h3,h4⟩:=Post.row hok hn t (jf (w:=w) (g:=g) (p:=false) v);refine .of (v := .pointer (some ⟨w.heap.size,0,none⟩)) (by simp [execOp,ho,Instr.alloc,h1,newVar,newRow]) ⟨g',?_,h3,h4⟩;have:=Rep.ref (w:=w.alloc (.cells v.cells t)) (g:=g') new 0 w.heap.size 0 h2;simpa using this
theorem X8 {α β:Type} (as:List α) (bs:List β) (i:Nat) (h:i<(as.zip bs).length):(as.zip bs)[i]=(as[i]'(by simp at h;omega),bs[i]'(by simp at h;omega)):=by simp
theorem qbJ {cs:List AV} {off:Nat} {xs:List AV} (h:off+xs.length<=cs.length):(splice cs off xs).length=cs.length:=by unfold splice;simp only [List.length_append,List.length_take,List.length_drop];omega
theorem Wj {sz : Nat} : ∀ {l : List (Nat × AV)} {cs : List AV},(∀ p ∈ l,p.1 * sz + p.2.cells.length <= cs.length) -> (Qp cs sz l).length = cs.length
 | [],cs,_=>rfl
 | (i,x)::l,cs,h=>by have h0:=qbJ (h (i,x) (by simp));rw [Qp,Wj (fun p hp=>by rw [h0];exact h p (by simp [hp])),h0]
theorem qnL {t e n} {parts : Array (Nat × Operand)} {qs : List (Nat × Opd)} {agg sz z} {d} (ho : o.op = .buildSlice t n parts) (hu : P.underlying t = some (.slice e)) (ht : qE P e = some (agg,sz))
 (hz:zH P e=some z) (hzl:z.length=sz) (hmax:n*sz<=2 ^ 24) (hql:qs.length=parts.size) (hq:∀ i (h:i<parts.size) (h':i<qs.length),parts[i].1=qs[i].1/\opd parts[i].2=some qs[i].2/\qs[i].1<n)
 (hF:FrOK w g F a) (hok:HeapOK hp g w) (hn:hp new=none)
 (hs:(AOp.bsl d n sz z qs).sem P (evF F) hp new r ws):VRun P o a w (Post hp g w r ws):=by
 obtain ⟨ys,is,h1,h2,hs⟩:=hs;obtain ⟨hok',hupd⟩:=hok.giveAll is (qA h1);obtain ⟨l1,l2⟩:=zV hok h1 (fun i h=>h);simp at l1;obtain ⟨zv,hzr,rfl⟩:=QW hz w;simp at hzl
 have hzero : ∃ arr0 : Array Value,(do
  let zero <-if n*sz=0 then pure #[] else do pure (<-zeroValue e).cells
  pure ((Array.range (n*sz)).map (zero[· % zero.size]!)):Sem (Array Value)).run P w = .ok arr0 w/\RowA w (g.pub (zK hp g is)) true arr0 (zE n (zv.cells.toList.map AV.ofCell)):=by
  by_cases h0:n*sz=0
  . refine ⟨#[],by simp [h0],?_⟩;have:(zE n (zv.cells.toList.map AV.ofCell))=[]:=List.eq_nil_of_length_eq_zero (by rw [zW];simpa [hzl] using h0);rw [this];exact ⟨rfl,fun i hi=>by simp at hi⟩
  refine ⟨_,by simp [h0,hzr];rfl,?_⟩;rw [<-hzl];exact Yf zv n
 obtain ⟨arr0,hz0,hrow0⟩:=hzero;have hzlen:(zE n (zv.cells.toList.map AV.ofCell)).length=n*sz:=by rw [zW];simp [hzl]
 obtain ⟨arr,hfill,hrow⟩ := YK (fun i => some (i * sz,sz)) (parts.toList.map fun x => (x.1,a.eval x.2)) (((qs.map (·.1)).zip ys).map fun p => (p.1 * sz,p.2)) arr0 _
  (by simp [hql, l1]) hrow0 (fun i hi hi' => by
   have hi1:i<parts.size:=by simpa using hi
   have hi2:i<qs.length:=by omega
   obtain ⟨q1,q2,q3⟩:=hq i hi1 hi2;have hc:=Qs h2 i (by omega);simp only [Bool.and_eq_true,beq_iff_eq] at hc;refine ⟨sz,by simp [q1],by simpa using hc.2,?_,by simpa using hc.1.1,?_⟩
   . rw [hzlen];simp
     calc qs[i].1 * sz + sz = (qs[i].1 + 1) * sz := by rw [Nat.add_mul]; omega
      _<=n*sz:=Nat.mul_le_mul_right _ q3
   have:=l2 i (by simpa using hi2) (by omega) (a.eval parts[i].2) (by simpa using qi hF q2);simpa using this)
 rw [<-qcm] at hrow
 have hrun:(execOp a.eval o).run P w = .ok (.value (.slice (some ⟨w.heap.size,0,none⟩) n n)) (w.alloc (.cells arr e)):=by
  have hmax':¬ (n*sz>16777216):=by have:n*sz<=16777216:=hmax;omega
  simp only [Sem.run_bind] at hz0;by_cases h0:n*sz=0
  . simp [h0] at hz0;subst hz0;simp [execOp,ho,Instr.buildSlice,run_underlying hu,qf ht,hmax',h0,hfill,newRow]
  simp [h0,hzr] at hz0;subst hz0;simp [execOp,ho,Instr.buildSlice,run_underlying hu,qf ht,hmax',h0,hzr,hfill,newRow]
 rcases hs with ⟨rfl,rfl⟩ | ⟨rfl,rfl⟩
 . obtain ⟨hok2,hupd2⟩ := hok'.alloc_pub arr e;refine .of (v := .slice (some ⟨w.heap.size,0,none⟩) n n) (w':=w.alloc (.cells arr e)) hrun ⟨_,?_,hok2,hupd.trans hupd2⟩;refine .sl _ _ _ _ _ _ (fun i=>arr.getD i undef) (Nat.le_refl _) (fun _=>rfl) (fun i hi=>?_) (fun i hi=>?_)
   . refine ⟨_,rfl,rfl,.inr ⟨rfl,by have := hrow.1; show 0 + i < _; omega⟩,?_⟩;have:i<arr.size:=by have:=hrow.1;omega
     simp [this]
   obtain ⟨x,hx,hr⟩:=hrow.2 i hi;have:arr.getD i undef=x:=by simp [hx]
   rw [this];exact hr.mono hupd2.tr
 have hnew:new∉is:=fun h=>by obtain ⟨cs,hcs⟩:=qA h1 new h;rw [hn] at hcs;cases hcs
 have hnA:Hp.write hp (gones is) new=none:=by rw [zw,if_neg hnew];exact hn
 have hrowF:RowA w (g.pub (zK hp g is)) false arr (Qp (zE n (zv.cells.toList.map AV.ofCell)) sz ((qs.map (·.1)).zip ys)):=⟨hrow.1,fun i hi=>by obtain ⟨x,hx,hr⟩:=hrow.2 i hi;exact ⟨x,hx,hr.of⟩⟩;obtain ⟨g',q1,q2,q3⟩:=Post.row hok' hnA e hrowF
 have we : ∀ (ws : List (Nat × HObj)) (h : Hp) (p : Nat × HObj),Hp.write h (ws ++ [p]) = Hp.write (Hp.write h ws) [p] := fun ws => by
  induction ws with
  | nil=>intro h p;rfl
  | cons a ws ih=>intro h p;exact ih _ p
 refine .of (v := .slice (some ⟨w.heap.size,0,none⟩) n n) (w':=w.alloc (.cells arr e)) hrun ⟨g',?_,by rw [we];exact q2,by rw [we];exact hupd.trans q3⟩
 have := Rep.mc (w := w.alloc (.cells arr e)) (g := g') new 0 n n sz w.heap.size 0 arr e (0,0) q1 (Nat.le_refl _) (qO _ _) (by
  have h3:=hrow.1;rw [Wj (fun p hp=>?_),hzlen] at h3
  . omega
  obtain ⟨i,hi,rfl⟩:=List.mem_iff_getElem.1 hp;rw [X8];simp only [List.length_zip,List.length_map] at hi;have hc:=Qs h2 i (by omega);simp only [Bool.and_eq_true,beq_iff_eq] at hc;have q3:=(hq i (by omega) (by omega)).2.2;rw [hzlen,hc.2];simp only [List.getElem_map]
  calc qs[i].1 * sz + sz = (qs[i].1 + 1) * sz := by rw [Nat.add_mul]; omega
   _<=n*sz:=Nat.mul_le_mul_right _ q3)
 simpa using this
theorem qnJ {t} {fields : Array Field} {parts : Array (Nat × Operand)} {qs : List (Nat × Nat × Opd)} {z} {places : Array (Nat × Nat)} {d} (ho : o.op = .build t parts)
 (hu:(P.underlying t=some (.struct fields)/\places.size=fields.size/\∀ i (h:i<fields.size) (h':i<places.size),places[i].1=fields[i].offset/\∃ agg,qE P fields[i].type=some (agg,places[i].2)))
 (hz:zH P t=some z) (hql:qs.length=parts.size) (hq:∀ i (h:i<parts.size) (h':i<qs.length),places[parts[i].1]?=some (qs[i].1,qs[i].2.1)/\opd parts[i].2=some qs[i].2.2/\qs[i].1+qs[i].2.1<=z.length)
 (hF:FrOK w g F a) (hok:HeapOK hp g w)
 (hs:(AOp.bld d z qs).sem P (evF F) hp new r ws):VRun P o a w (Post hp g w r ws):=by
 obtain ⟨h2,rfl,rfl⟩:=hs;obtain ⟨zv,hzr,rfl⟩:=QW hz w;obtain ⟨hu,hps,hpl⟩:=hu
 have hplaces : (fields.mapM (fun f => Prod.mk f.offset <$> sizeOf f.type) : Sem (Array (Nat × Nat))).run P w = .ok places w := by
  rw [Array.mapM_eq_mapM_toList]
  have : ∀ (l : List Field) (m : List (Nat × Nat)), l.length = m.length -> (∀ i (h : i < l.length) (h' : i < m.length), m[i].1 = l[i].offset /\ ∃ agg, qE P l[i].type = some (agg, m[i].2)) ->
   (l.mapM (fun f=>Prod.mk f.offset <$> sizeOf f.type):Sem (List (Nat × Nat))).run P w = .ok m w:=by
   intro l
   induction l with
   | nil=>intro m hm _;cases m <;> simp_all
   | cons f l ih =>
     intro m hm hh;cases m with
     | nil=>simp at hm
     | cons p m =>obtain ⟨e1,agg,e2⟩:=hh 0 (by simp) (by simp);have:=ih m (by simpa using hm) (fun i h h'=>by have:=hh (i+1) (by simpa using h) (by simpa using h');simp only [List.getElem_cons_succ] at this;exact this);simp at e1 e2;simp only [List.mapM_cons,Sem.run_bind,Sem.run_map,qf e2,Result.andThen_ok,Sem.run_pure,this];rw [<-e1]
  have:=this fields.toList places.toList (by simp [hps]) (fun i h h'=>by simpa using hpl i (by simpa using h) (by simpa using h'));simp [this]
 obtain ⟨arr,hfill,hrow⟩ := YK (w := w) (g := g) (p := false) (places[·]?) (parts.toList.map fun x => (x.1,a.eval x.2)) (qs.map fun p => (p.1,evF F p.2.2)) zv.cells _
  (by simp [hql]) (jf zv) (fun i hi hi' => by
   have hi1:i<parts.size:=by simpa using hi
   have hi2:i<qs.length:=by omega
   obtain ⟨q1,q2,q3⟩:=hq i hi1 hi2;have hc:=Qs h2 i hi2;simp only [Bool.and_eq_true,beq_iff_eq] at hc;refine ⟨qs[i].2.1,by simpa using q1,by simpa using hc.2,by simpa using q3,by simpa using hc.1,?_⟩;have:=qi hF q2;simpa using this)
 refine .of (v := .agg arr) (w':=w) ?_ (.nil hok ?_)
 . simp [execOp,ho,Instr.build,hzr,run_underlying hu,hplaces,hfill]
 rw [Vr];simp only [List.map_map]
 have := Rep.agg (w := w) (g := g) false _ arr.toList (by simpa using hrow.1) (fun i hi => by
  obtain ⟨x,hx,hr⟩:=hrow.2 i hi;have:arr.toList.getD i undef=x:=by simp [List.getD,hx]
  rw [this];exact hr)
 simpa [Function.comp_def] using this
theorem qjo {t} {ln : Nat} {e : TypeId} {agg : Bool} {sz : Nat} {parts : Array (Nat × Operand)} {qs : List (Nat × Nat × Opd)} {z} {d} (ho : o.op = .build t parts) (hu : P.underlying t = some (.array ln e)) (ht : qE P e = some (agg,sz))
 (hz:zH P t=some z) (hql:qs.length=parts.size) (hq:∀ i (h:i<parts.size) (h':i<qs.length),qs[i].1=parts[i].1*sz/\qs[i].2.1=sz/\opd parts[i].2=some qs[i].2.2/\qs[i].1+qs[i].2.1<=z.length)
 (hF:FrOK w g F a) (hok:HeapOK hp g w)
 (hs:(AOp.bld d z qs).sem P (evF F) hp new r ws):VRun P o a w (Post hp g w r ws):=by
 obtain ⟨h2,rfl,rfl⟩:=hs;obtain ⟨zv,hzr,rfl⟩:=QW hz w
 obtain ⟨arr,hfill,hrow⟩ := YK (w := w) (g := g) (p := false) (fun i => some (i * sz,sz)) (parts.toList.map fun x => (x.1,a.eval x.2)) (qs.map fun p => (p.1,evF F p.2.2)) zv.cells _
  (by simp [hql]) (jf zv) (fun i hi hi' => by
   have hi1:i<parts.size:=by simpa using hi
   have hi2:i<qs.length:=by omega
   obtain ⟨q0,q1,q2,q3⟩:=hq i hi1 hi2;have hc:=Qs h2 i hi2;simp only [Bool.and_eq_true,beq_iff_eq] at hc;refine ⟨qs[i].2.1,by simp [q0,q1],by simpa using hc.2,by simpa using q3,by simpa using hc.1,?_⟩;have:=qi hF q2;simpa using this)
 refine .of (v := .agg arr) (w':=w) ?_ (.nil hok ?_)
 . simp [execOp,ho,Instr.build,hzr,run_underlying hu,qf ht,hfill]
 rw [Vr];simp only [List.map_map]
 have := Rep.agg (w := w) (g := g) false _ arr.toList (by simpa using hrow.1) (fun i hi => by
  obtain ⟨x,hx,hr⟩:=hrow.2 i hi;have:arr.toList.getD i undef=x:=by simp [List.getD,hx]
  rw [this];exact hr)
 simpa [Function.comp_def] using this
theorem qnY {at_ : TypeId} {c : Call} {x} {y1 : Opd} {d} {e} (ho : o.op = .call c) (hc : c = { callee := .builtin .len,args := #[x],argTypes := #[at_] }) (hu : P.underlying at_ = some (.slice e))
 (h1:opd x=some y1) (hF:FrOK w g F a) (hok:HeapOK hp g w) (hs:(AOp.len d y1).sem P (evF F) hp new r ws):VRun P o a w (Post hp g w r ws):=by
 have e1:=qi hF h1;subst hc;simp only [AOp.sem] at hs;split at hs
 . rename_i full n cs hy;obtain ⟨rfl,rfl⟩:=hs;rw [hy] at e1;generalize hv:a.eval x=v at e1;cases e1 with
   | sl _ _ _ _ ad cap vs=>exact .of (by simp [execOp,ho,resolve,invoke,builtin,hv,Builtin.len_,run_underlying hu];rfl) (.nil hok (.v _ _))
 . rename_i id off n sz hy;obtain ⟨rfl,rfl⟩:=hs;rw [hy] at e1;generalize hv:a.eval x=v at e1;cases e1 with
   | ms=>exact .of (by simp [execOp,ho,resolve,invoke,builtin,hv,Builtin.len_,run_underlying hu];rfl) (.nil hok (.v _ _))
   | msz=>exact .of (by simp [execOp,ho,resolve,invoke,builtin,hv,Builtin.len_,run_underlying hu];rfl) (.nil hok (.v _ _))
 . rename_i id off n c' sz hy;obtain ⟨rfl,rfl⟩:=hs;rw [hy] at e1;generalize hv:a.eval x=v at e1;cases Xb e1 with
   | ms=>exact .of (by simp [execOp,ho,resolve,invoke,builtin,hv,Builtin.len_,run_underlying hu];rfl) (.nil hok (.v _ _))
   | msz=>exact .of (by simp [execOp,ho,resolve,invoke,builtin,hv,Builtin.len_,run_underlying hu];rfl) (.nil hok (.v _ _))
 exact hs.elim
theorem qn1 {at_ : TypeId} {c : Call} {x} {y1 : Opd} {d} (ho : o.op = .call c) (hc : c = { callee := .builtin .len,args := #[x],argTypes := #[at_] }) (hu : P.underlying at_ = some .string)
 (h1:opd x=some y1) (hF:FrOK w g F a) (hok:HeapOK hp g w) (hs:(AOp.lns d y1).sem P (evF F) hp new r ws):VRun P o a w (Post hp g w r ws):=by
 have e1:=qi hF h1;subst hc;simp only [AOp.sem] at hs;split at hs
 . rename_i s hy;obtain ⟨rfl,rfl⟩:=hs;rw [hy] at e1;have e1':=zu e1;exact .of (by simp [execOp,ho,resolve,invoke,builtin,e1',Builtin.len_,run_underlying hu];rfl) (.nil hok (.v _ _))
 exact hs.elim
theorem qn0 {at_ : TypeId} {c : Call} {x} {y1 : Opd} {d} {k e} (ho : o.op = .call c) (hc : c = { callee := .builtin .len,args := #[x],argTypes := #[at_] }) (hu : P.underlying at_ = some (.map k e))
 (h1:opd x=some y1) (hF:FrOK w g F a) (hok:HeapOK hp g w) (hs:(AOp.lnm d y1).sem P (evF F) hp new r ws):VRun P o a w (Post hp g w r ws):=by
 have e1:=qi hF h1;subst hc;simp only [AOp.sem] at hs;split at hs
 . rename_i id hy;split at hs
   . rename_i es clk hes;obtain ⟨rfl,rfl⟩:=hs;rw [hy] at e1;generalize hv:a.eval x=v at e1;cases e1 with
     | mp _ c dd hl =>obtain ⟨l,e1,e2⟩:=hok.rep id _ hes;rw [hl] at e1;cases e1;obtain ⟨ents,g1,g2,_⟩:=e2;refine .of (v := .int .i64 es.length) (w':=w) ?_ (.nil hok (.v _ _));simp [execOp,ho,resolve,invoke,builtin,hv,Builtin.len_,run_underlying hu,getObj,Sem.run,g1,g2,goInt]
   exact hs.elim
 exact hs.elim
end
theorem qhv {P:Program} {y m:Nat} (h:m<=y) (code:BoundsCode) (w:World):(Instr.sliceBound (.int .i64 (m:Int)) y code).run P w = .ok m w:=by simp [Instr.sliceBound,asIntOf,show (m:Int)<=y by omega]
def VM : Option Operand -> Option Opd -> Prop
 | none,none=>True
 | some x,some y=>opd x=some y
 | _,_=>False
section
variable {P:Program} {o:Oper} {a:Act} {w:World} {g:G} {hp:Hp} {F:Nat->AV} {new:Nat} {r:AV} {ws:List (Nat × HObj)}
theorem qQ {lo : Option Operand} {lo' : Option Opd} (hlo : VM lo lo') (hF : FrOK w g F a) {l dflt : Nat}
 (h:match lo'.map (evF F) with | none=>l=dflt | some y=>y=I l):(lo.map a.eval=none/\l=dflt/\lo'=none)\/(lo.map a.eval=some (.int .i64 l)/\lo'.isSome=true):=by
 cases lo with
 | none=>cases lo' with
   | none=>exact .inl ⟨rfl,h,rfl⟩
   | some y=>exact hlo.elim
 | some x=>cases lo' with
   | none=>exact hlo.elim
   | some y =>simp at h;have:=qi hF hlo;rw [h] at this;exact .inr ⟨by simp [zu this],rfl⟩
theorem Qx {lo hi mx : Option Value} {isS : Bool} {len cap l h m : Nat} (hl : (lo = none /\ l = 0) \/ lo = some (.int .i64 l)) (hh : (hi = none /\ h = len /\ mx = none) \/ hi = some (.int .i64 h))
 (hm:(mx=none/\m=cap)\/mx=some (.int .i64 m)) (h1:l<=h) (h2:h<=m) (h3:m<=cap) :
 (Instr.sliceBounds isS len cap lo hi mx).run P w = .ok (l,h,m) w:=by
 rcases hm with ⟨rfl,rfl⟩ | rfl <;> rcases hl with ⟨rfl,rfl⟩ | rfl <;> rcases hh with ⟨rfl,rfl,hx⟩ | rfl <;> (try (cases hx)) <;> simp_all [Instr.sliceBounds,qhv]
theorem qn9 {t x e lo hi mx} {lo' hi' mx' : Option Opd} {agg sz} {y1 : Opd} {d} (ho : o.op = .slice t x lo hi mx) (hu : P.underlying t = some (.slice e)) (ht : qE P e = some (agg, sz))
 (h1:opd x=some y1) (hlo:VM lo lo') (hhi:VM hi hi')
 (hmx:VM mx mx') (hF:FrOK w g F a) (hok:HeapOK hp g w)
 (hs:(AOp.slc d sz y1 lo' hi' mx').sem P (evF F) hp new r ws):VRun P o a w (Post hp g w r ws):=by
 have e1:=qi hF h1
 have key : ∀ b n cap l h m,a.eval x = .slice b n cap -> (Instr.sliceBounds true n cap (lo.map a.eval) (hi.map a.eval) (mx.map a.eval)).run P w = .ok (l,h,m) w ->
  (execOp a.eval o).run P w = .ok (.value (.slice (if m=l then b else b.map (·.add (l*sz))) (h - l) (m - l))) w:=fun b n cap l h m hv hb=>by
  simp [execOp,ho,hv,Instr.sliceAt,Instr.slice,run_underlying hu,qf ht,hb]
 simp only [AOp.sem,YA] at hs;split at hs
 . rename_i full n cs hy;obtain ⟨l,h,hl,hh,hlh,hhn,hlen,hr,rfl⟩:=hs;rw [hy] at e1;have L:=qQ hlo hF hl;have H:=qQ hhi hF hh;generalize hv:a.eval x=v at e1;cases e1 with
   | sl _ _ _ _ ad cap vs hn hf hc hrr =>
     have part : ∀ (m : Nat) (f' : Bool),h <= m -> m <= cap -> (f' = true -> m = h) ->
      Rep w g false (.sl f' (h - l) (qy cs (l*sz) ((h - l)*sz))) (.slice (if m=l then ad else ad.map (·.add (l*sz))) (h - l) (m - l)):=fun m f' hm1 hm2 hf'=>by
      have hbnd:l*sz+(h - l)*sz<=cs.length:=by rw [hlen,<-Nat.add_mul];exact Nat.mul_le_mul_right _ (by omega)
      refine .sl _ _ _ _ _ _ (fun i=>vs (l*sz+i)) (by omega) (fun e=>by have:=hf' e;omega) (fun i hi=>?_) (fun i hi=>?_)
      . rw [qD hbnd] at hi;obtain ⟨ad',rfl,hsp,hS,hcell⟩:=hc (l*sz+i) (by omega);obtain ⟨b,q,sp⟩:=ad';simp at hsp;subst hsp
        have hml : ¬ m = l := fun e => by
         have:h - l=0:=by omega
         rw [this] at hi;simp at hi
        rw [if_neg hml];exact ⟨⟨b,q+l*sz,none⟩,by simp [qG],rfl,by simpa [Nat.add_assoc] using hS,by simpa [Nat.add_assoc] using hcell⟩
      have hi':=hi;rw [qD hbnd] at hi';rw [QT hi];exact hrr _ (by omega)
     cases hmx':mx' with
     | none =>
       rw [hmx'] at hr hmx;cases hmx'':mx with
       | some z=>rw [hmx''] at hmx;exact hmx.elim
       | none =>
         simp at hr;subst hr;refine .of (key _ _ _ l h cap hv ?_) (.nil hok (part cap _ (by omega) (Nat.le_refl _) (fun e=>?_)))
         . refine Qx ?_ ?_ (.inl ⟨by simp [hmx''],rfl⟩) hlh (by omega) (Nat.le_refl _)
           . rcases L with ⟨a1,a2,_⟩ | ⟨a1,_⟩
             . exact .inl ⟨a1,a2⟩
             exact .inr a1
           rcases H with ⟨a1,a2,_⟩ | ⟨a1,_⟩
           . exact .inl ⟨a1,a2,by simp [hmx'']⟩
           exact .inr a1
         simp at e;obtain ⟨e2,this⟩:=e;have:=hf e2;omega
     | some y =>
       rw [hmx'] at hr;obtain ⟨hy',hsome,rfl⟩:=hr;have M:=qQ (l:=h) (dflt:=0) hmx hF (by rw [hmx'];simpa using hy');refine .of (key _ _ _ l h h hv ?_) (.nil hok (part h true (Nat.le_refl _) (by omega) (fun _=>rfl)));refine Qx ?_ ?_ ?_ hlh (Nat.le_refl _) (by omega)
       . rcases L with ⟨a1,a2,_⟩ | ⟨a1,_⟩
         . exact .inl ⟨a1,a2⟩
         exact .inr a1
       . rcases H with ⟨a1,a2,a3⟩ | ⟨a1,_⟩
         . rw [a3] at hsome;simp at hsome
         exact .inr a1
       rcases M with ⟨a1,a2,a3⟩ | ⟨a1,_⟩
       . rw [hmx'] at a3;cases a3
       exact .inr a1
 . rename_i id off n sz' hy;obtain ⟨l,h,hl,hh,hlh,hhn,hszz,hmxr,hr,rfl⟩:=hs;subst hszz;rw [hy] at e1;have L:=qQ hlo hF hl;have H:=qQ hhi hF hh
   have M:∃ m':Nat->Nat, ∀ cap, n<=cap->((mx.map a.eval=none/\m' cap=cap)\/mx.map a.eval=some (.int .i64 (m' cap:Nat)))/\h<=m' cap/\m' cap<=cap/\(hi.map a.eval=none->mx.map a.eval=none)/\∀ m:Nat, mx'.map (evF F)=some (I m)->m' cap=m:=by
    cases hmx':mx' with
    | none =>
      rw [hmx'] at hmx;cases hmx'':mx with
      | some z=>rw [hmx''] at hmx;exact hmx.elim
      | none=>exact ⟨fun cap=>cap,fun cap hc=>⟨.inl ⟨by simp,rfl⟩,by show h<=cap;omega,Nat.le_refl _,fun _=>by simp,fun m h=>by cases h⟩⟩
    | some y =>
      rw [hmx'] at hmxr;obtain ⟨m,hy',hm1,hm2,hsome⟩:=hmxr;have M:=qQ (l:=m) (dflt:=0) hmx hF (by rw [hmx'];simpa using hy');refine ⟨fun _=>m,fun cap hc=>⟨?_,hm1,by show m<=cap;omega,fun e=>?_,fun m2 h2=>?_⟩⟩
      . rcases M with ⟨a1,a2,a3⟩ | ⟨a1,_⟩
        . rw [hmx'] at a3;cases a3
        exact .inr a1
      . rcases H with ⟨a1,a2,a3⟩ | ⟨a1,_⟩
        . rw [a3] at hsome;simp at hsome
        rw [e] at a1;cases a1
      simp only [Option.map_some,Option.some.injEq] at h2;have h3:(I m:AV)=I m2:=hy'.symm.trans h2;simp only [I,AV.v.injEq,Value.int.injEq,true_and] at h3;show m=m2;omega
   obtain ⟨m',M⟩:=M
   have bnds : ∀ cap,n <= cap -> (Instr.sliceBounds true n cap (lo.map a.eval) (hi.map a.eval) (mx.map a.eval)).run P w = .ok (l,h,m' cap) w := fun cap hc => by
    obtain ⟨m1,m2,m3,m4,m5⟩:=M cap hc;refine Qx ?_ ?_ m1 hlh m2 m3
    . rcases L with ⟨a1,a2,_⟩ | ⟨a1,_⟩
      . exact .inl ⟨a1,a2⟩
      exact .inr a1
    rcases H with ⟨a1,a2,a3⟩ | ⟨a1,_⟩
    . exact .inl ⟨a1,a2,m4 a1⟩
    exact .inr a1
   generalize hv:a.eval x=v at e1;cases e1 with
   | ms _ _ _ _ c dd cap arr ty fz hl' hn hb hs =>
     obtain ⟨m1,m2,m3,m4,m5⟩:=M cap hn;refine .of (key _ _ _ _ _ _ hv (bnds cap hn)) (.nil hok ?_);rcases hr with rfl | ⟨mm,hmm,rfl⟩
     rotate_left
     . have e0 := m5 mm hmm;rw [e0] at m2 m3 ⊢;by_cases e:mm=l
       . have z1 : h - l = 0 := by omega
         have z2:mm - l=0:=by omega
         rw [if_pos e,z1,z2];exact .mcz _ _ _ _ _ hl'
       rw [if_neg e];simp only [Option.map_some,qG,Nat.add_assoc];refine .mc _ _ _ _ _ c dd arr ty fz hl' (by omega) hb ?_;have:(l+(mm - l))*_<=cap*_:=Nat.mul_le_mul_right sz' (by omega);rw [Nat.add_mul] at this;omega
     by_cases e:m' cap=l
     . have z1 : h - l = 0 := by omega
       have z2:m' cap - l=0:=by omega
       rw [if_pos e,z1,z2];exact .msz _ _ _ _ _ hl'
     rw [if_neg e];simp only [Option.map_some,qG,Nat.add_assoc];refine .ms _ _ _ _ c dd _ arr ty fz hl' (by omega) hb ?_;have:(l+(m' cap - l))*_<=cap*_:=Nat.mul_le_mul_right sz' (by omega);rw [Nat.add_mul] at this;omega
   | msz _ _ _ ad l' hl' =>
     obtain ⟨m1,m2,m3,m4,m5⟩:=M 0 (Nat.le_refl _);refine .of (key _ _ _ _ _ _ hv (bnds 0 (Nat.le_refl _))) (.nil hok ?_);rcases hr with rfl | ⟨mm,hmm,rfl⟩
     rotate_left
     . have e0 := m5 mm hmm;rw [e0] at m2 m3 ⊢;have e:mm=l:=by omega
       have z1:h - l=0:=by omega
       have z2:mm - l=0:=by omega
       rw [if_pos e,z1,z2];exact .mcz _ _ _ _ _ hl'
     have e:m' 0=l:=by omega
     have z1:h - l=0:=by omega
     have z2:m' 0 - l=0:=by omega
     rw [if_pos e,z1,z2];exact .msz _ _ _ _ _ hl'
 . rename_i id off n c sz' hy;obtain ⟨l,h,m,hl,hh,hm,hlh,hhm,hmc,hszz,rfl,rfl⟩:=hs;subst hszz;rw [hy] at e1;have L:=qQ hlo hF hl;have H:=qQ hhi hF hh
   have bnds:(Instr.sliceBounds true n c (lo.map a.eval) (hi.map a.eval) (mx.map a.eval)).run P w = .ok (l, h, m) w:=by
    have M:(mx.map a.eval=none/\m=c)\/(mx.map a.eval=some (.int .i64 m)/\hi'.isSome=true):=by
     cases hmx':mx' with
     | none =>
       rw [hmx'] at hm hmx;cases hmx'':mx with
       | some z=>rw [hmx''] at hmx;exact hmx.elim
       | none=>exact .inl ⟨by simp,hm⟩
     | some y =>
       rw [hmx'] at hm;obtain ⟨hy',hsome⟩:=hm;have M:=qQ (l:=m) (dflt:=0) hmx hF (by rw [hmx'];simpa using hy');rcases M with ⟨a1,a2,a3⟩ | ⟨a1,_⟩
       . rw [hmx'] at a3;cases a3
       exact .inr ⟨a1,by simpa using hsome⟩
    refine Qx ?_ ?_ (M.imp (fun h=>h) And.left) hlh hhm hmc
    . rcases L with ⟨a1,a2,_⟩ | ⟨a1,_⟩
      . exact .inl ⟨a1,a2⟩
      exact .inr a1
    rcases H with ⟨a1,a2,a3⟩ | ⟨a1,_⟩
    . rcases M with ⟨m1,_⟩ | ⟨_,m2⟩
      . exact .inl ⟨a1,a2,m1⟩
      rw [a3] at m2;simp at m2
    exact .inr a1
   generalize hv:a.eval x=v at e1;cases e1 with
   | mc _ _ _ _ _ b dd arr ty fz hl' hn hb hs =>
     refine .of (key _ _ _ _ _ _ hv bnds) (.nil hok ?_);by_cases e:m=l
     . have z1 : h - l = 0 := by omega
       have z2:m - l=0:=by omega
       rw [if_pos e,z1,z2];exact .mcz _ _ _ _ _ hl'
     rw [if_neg e];simp only [Option.map_some,qG,Nat.add_assoc];refine .mc _ _ _ _ _ b dd arr ty fz hl' (by omega) hb ?_;have:(l+(m - l))*_<=c*_:=Nat.mul_le_mul_right sz' (by omega);rw [Nat.add_mul] at this;omega
   | mcz _ _ _ ad l' hl' =>
     refine .of (key _ _ _ _ _ _ hv bnds) (.nil hok ?_);have e:m=l:=by omega
     have z1:h - l=0:=by omega
     have z2:m - l=0:=by omega
     rw [if_pos e,z1,z2];exact .mcz _ _ _ _ _ hl'
 exact hs.elim
theorem qoa {t x lo hi} {lo' hi' : Option Opd} {y1 : Opd} {d} (ho : o.op = .slice t x lo hi none) (hu : P.underlying t = some .string)
 (h1:opd x=some y1) (hlo:VM lo lo') (hhi:VM hi hi')
 (hF:FrOK w g F a) (hok:HeapOK hp g w)
 (hs:(AOp.sls d y1 lo' hi').sem P (evF F) hp new r ws):VRun P o a w (Post hp g w r ws):=by
 have e1:=qi hF h1;simp only [AOp.sem] at hs;split at hs
 . rename_i s hy;obtain ⟨l,h,hl,hh,hlh,hhn,rfl,rfl⟩:=hs;rw [hy] at e1;have e1':=zu e1;have L:=qQ hlo hF hl;have H:=qQ hhi hF hh
   have hb:(Instr.sliceBounds false s.size s.size (lo.map a.eval) (hi.map a.eval) none).run P w = .ok (l,h,s.size) w:=by
    refine Qx ?_ ?_ (.inl ⟨rfl,rfl⟩) hlh hhn (Nat.le_refl _)
    . rcases L with ⟨a1,a2,_⟩ | ⟨a1,_⟩
      . exact .inl ⟨a1,a2⟩
      exact .inr a1
    rcases H with ⟨a1,a2,a3⟩ | ⟨a1,_⟩
    . exact .inl ⟨a1,a2,rfl⟩
    exact .inr a1
   exact .of (by simp [execOp,ho,e1',Instr.sliceAt,Instr.slice,run_underlying hu,hb]) (.nil hok (.v _ _))
 exact hs.elim
theorem qn2 {f} {fs cs : Array Operand} {fs' cs' : List Opd} {d} (ho : o.op = .makeFunc f fs cs) (hl1 : fs'.length = fs.size) (hl2 : cs'.length = cs.size)
 (h1:∀ i (h:i<fs.size) (h':i<fs'.length),opd fs[i]=some fs'[i]) (h2:∀ i (h:i<cs.size) (h':i<cs'.length),opd cs[i]=some cs'[i]) (hF:FrOK w g F a) (hok:HeapOK hp g w)
 (hs:(AOp.mkf d f fs' cs').sem P (evF F) hp new r ws):VRun P o a w (Post hp g w r ws):=by
 obtain ⟨rfl,rfl⟩:=hs;have q1:(fs.toList.map a.eval).toArray=fs.map a.eval:=by rw [<-Array.toList_map]
 have q2:(cs.toList.map a.eval).toArray=cs.map a.eval:=by rw [<-Array.toList_map]
 refine .of (by simp [execOp,ho,Instr.makeFunc];rfl) (.nil hok ?_);rw [<-q1,<-q2]
 have := Rep.fn (w := w) (g := g) false f (fs'.map (evF F)) (cs'.map (evF F)) (fs.toList.map a.eval) (cs.toList.map a.eval) (by simp [hl1]) (by simp [hl2])
  (fun i hi=>by simp at hi;have:=qi hF (h1 i (by omega) hi);simpa [List.getD,show i<fs.size by omega] using this)
  (fun i hi=>by simp at hi;have:=qi hF (h2 i (by omega) hi);simpa [List.getD,show i<cs.size by omega] using this)
 exact this
theorem qk1 {mxm : Bool} {c : Call} {x y} {ats : Array TypeId} {y1 y2 : Opd} {d} (ho : o.op = .call c) (hc : c = { callee := .builtin (if mxm then .max else .min),args := #[x,y],argTypes := ats })
 (h1:opd x=some y1) (h2:opd y=some y2) (hF:FrOK w g F a) (hok:HeapOK hp g w)
 (hs:(AOp.mx d mxm y1 y2).sem P (evF F) hp new r ws):VRun P o a w (Post hp g w r ws):=by
 have e1:=qi hF h1;have e2:=qi hF h2;subst hc;simp only [AOp.sem] at hs;split at hs
 . rename_i k m k' n hy hy2;obtain ⟨rfl,rfl⟩:=hs;rw [hy] at e1;rw [hy2] at e2;have e1':=zu e1;have e2':=zu e2;cases mxm with
   | true=>exact .of (by simp [execOp,ho,resolve,invoke,builtin,e1',e2',Builtin.max_,Builtin.max2]) (.nil hok (.v _ _))
   | false=>exact .of (by simp [execOp,ho,resolve,invoke,builtin,e1',e2',Builtin.min_,Builtin.min2]) (.nil hok (.v _ _))
 exact hs.elim
theorem qn4 {t e ln cp} {y1 y2 : Opd} {agg sz bytes z i} {d} (ho : o.op = .makeSlice t ln cp) (hu : P.underlying t = some (.slice e)) (ht : qE P e = some (agg,sz)) (hi : P.info? e = some i) (hib : i.bytes = bytes)
 (hz:zH P e=some z) (h1:opd ln=some y1) (h2:opd cp=some y2) (hF:FrOK w g F a) (hok:HeapOK hp g w) (hn:hp new=none)
 (hs:(AOp.mks d sz bytes z y1 y2).sem P (evF F) hp new r ws):VRun P o a w (Post hp g w r ws):=by
 have e1:=qi hF h1;have e2:=qi hF h2;obtain ⟨k,hk1,hk2,hb1,hb2,hzl,rfl,rfl⟩:=hs;rw [hk1] at e1;rw [hk2] at e2;have e1':=zu e1;have e2':=zu e2;obtain ⟨v,hzr,rfl⟩:=QW hz w;simp at hzl
 have hw:IntKind.i64.wrap (k:Int)=k:=by
  simp only [IntKind.wrap,IntKind.bits,IntKind.signed];have:(k:Int) % 2 ^ 64=k:=Int.emod_eq_of_lt (by omega) (by omega);simp only [this];have:¬ ((k:Int)≥2 ^ 63):=by omega
  simp;omega
 have hk0:¬ ((k:Int)<0):=by omega
 have hk3:(0:Int)<=k:=by omega
 have hrow:∃ arr0:Array Value, RowA w g false arr0 (zE k (v.cells.toList.map AV.ofCell))/\(execOp a.eval o).run P w = .ok (.value (.slice (some ⟨w.heap.size, 0, none⟩) k k)) (w.alloc (.cells arr0 e)):=by
  have hbig:¬ ((i.bytes:Int)*k>281474976710656):=by
   have:((i.bytes*k:Nat):Int)=(i.bytes:Int)*k:=by simp
   rw [<-this,hib,Nat.mul_comm];omega
  by_cases h0:k*sz=0
  . refine ⟨#[],?_,?_⟩
    . have:(zE k (v.cells.toList.map AV.ofCell))=[]:=List.eq_nil_of_length_eq_zero (by rw [zW];simpa [hzl] using h0);rw [this];exact ⟨rfl,fun i hi=>by simp at hi⟩
    simp [execOp,ho,e1',e2',Instr.makeSlice,run_underlying hu,asInt,asIntOf,typeInfo,hi,hw,hk0,hk3,hbig,qf ht,h0,newRow];congr 2;apply Array.ext';simp
  refine ⟨(Array.range (k*v.cells.size)).map fun i=>v.cells[i % v.cells.size]!,Yf v k,?_⟩;simp [execOp,ho,e1',e2',Instr.makeSlice,run_underlying hu,asInt,asIntOf,typeInfo,hi,hw,hk0,hk3,hbig,qf ht,h0,hzr,newRow,hzl]
 obtain ⟨arr0,hr0,hrun⟩:=hrow;obtain ⟨g',g1,g2,g3⟩:=Post.row hok hn e hr0;refine .of hrun ⟨g',?_,g2,g3⟩;have:=Rep.ms (w:=w.alloc (.cells arr0 e)) (g:=g') new 0 k sz w.heap.size 0 k arr0 e (0,0) g1 (Nat.le_refl _) (qO _ _) (by have:=hr0.1;rw [zW] at this;simp [hzl] at this;simp;omega);simpa using this
end
theorem Hp.set_set (hp:Hp) (id:Nat) (x y:HObj):Hp.set (Hp.set hp id x) id y=Hp.set hp id y:=by funext i;simp only [Hp.set];split <;> rfl
theorem Hp.set_self (hp:Hp) {id:Nat} {x:HObj} (h:hp id=some x):Hp.set hp id x=hp:=by
 funext i;simp only [Hp.set];split
 . rename_i e;subst e;exact h.symm
 rfl
theorem Wd {need cap bytes:Nat} (h:cap<need) (hb:need*bytes<=140737488355328):¬ (Builtin.nextslicecap need cap*bytes>281474976710656):=by have:Builtin.nextslicecap need cap*bytes<=2*need*bytes:=Nat.mul_le_mul_right _ (nextslicecap_le h);rw [Nat.mul_assoc] at this;omega
theorem J4 {x:AV} (h:x.isPC=true):x.isPure=true:=by
 cases x with
 | v y=>rfl
 | sl=>rfl
 | ptr=>rfl
 | _=>simp [AV.isPC] at h
theorem qku {w g p x v} (hr:Rep w g p x v) (h:x.isPC=true):v.oneCell'=true:=by
 cases hr with
 | v=>cases v <;> simp_all [AV.isPC,Value.oneCell']
 | sl=>rfl
 | ptr=>rfl
 | _=>simp [AV.isPC] at h
theorem JS {P : Program} {hp g w} (hok : HeapOK hp g w) {sz m : Nat} {y : AV} {ys : List AV} {v : Value} (h : elems hp sz y = some (m,ys)) (q : Nat) (hp' : ((ys.take q).all AV.isPC) = true) (hr : Rep w g false y v) :
 ∃ ad cap,v = .slice ad m cap /\ ys.length = m * sz /\ ∃ vs : List Value,vs.length = m * sz /\ (∀ k,k <= m -> (Builtin.firstCells sz k v).run P w = .ok (vs.take (k * sz)).toArray w) /\
   (∀ u∈vs.take q,u.oneCell'=true)/\∀ i (hi:i<ys.length),i<q->∃ u,vs[i]?=some u/\Rep w g true ys[i] u:=by
 have pc:∀ i (hi:i<ys.length),i<q->(ys[i]).isPC=true:=fun i hi hq=>by have:=Qs hp' i (by simp;omega);simpa using this
 have fin : ∀ (b q0 : Nat) (us : Nat -> Value),ys.length = m * sz -> (∀ i (h : i < ys.length),w.cell? ⟨b,q0 + i,none⟩ = some (us i) /\ Rep w g false ys[i] (us i)) -> ∀ cap,
  ∃ vs:List Value,vs.length=m*sz/\(∀ k,k<=m->(Builtin.firstCells sz k (.slice (some ⟨b,q0,none⟩) m cap)).run P w = .ok (vs.take (k*sz)).toArray w) /\
  (∀ u∈vs.take q,u.oneCell'=true)/\∀ i (hi:i<ys.length),i<q->∃ u,vs[i]?=some u/\Rep w g true ys[i] u:=fun b q0 us hl hh cap=>by
  refine ⟨(List.range (m*sz)).map us,by simp,fun k hk=>?_,fun u hu=>?_,fun i hi hq=>⟨us i,by simp [show i<m*sz by omega],zU (J4 (pc i hi hq)) (hh i hi).2⟩⟩
  . have hk':k*sz<=m*sz:=Nat.mul_le_mul_right _ hk;simp only [Builtin.firstCells];rw [run_loadCells w _ (k*sz) us (fun j hj=>by rw [qG];exact (hh j (by omega)).1)];rw [<-List.map_take,List.take_range,Nat.min_eq_left hk']
  obtain ⟨i,hi,e⟩:=List.mem_take_iff_getElem.1 hu;simp at hi;have hi':i<ys.length:=by omega
  rw [<-e];simp only [List.getElem_map,List.getElem_range];exact qku (hh i hi').2 (pc i hi' (by omega))
 cases hr with
 | sl _ full n cs ad cap vs hn hf hc hrr =>
   simp only [elems] at h;split at h
   . rename_i hl;simp only [Option.some.injEq,Prod.mk.injEq] at h;obtain ⟨rfl,rfl⟩:=h;by_cases h0:cs.length=0
     . refine ⟨ad,cap,rfl,hl,[],by simp; omega,fun k hk => ?_,by simp,fun i hi _ => by omega⟩;have hk0:k*sz=0:=by have:k*sz<=n*sz:=Nat.mul_le_mul_right _ hk;omega
       cases ad with
       | none=>simp [Builtin.firstCells]
       | some b =>simp only [Builtin.firstCells];rw [run_loadCells w _ (k*sz) (fun _=>undef) (fun j hj=>by omega)];simp [hk0]
     obtain ⟨ad',rfl,hsp,_⟩:=hc 0 (by omega);obtain ⟨b,q1,sp⟩:=ad';simp at hsp;subst hsp;refine ⟨_,cap,rfl,hl,fin b q1 vs hl (fun i hi=>?_) cap⟩;obtain ⟨_,e,_,_,h5⟩:=hc i hi;cases e;exact ⟨h5,(hrr i hi).of⟩
   cases h
 | ms id off n sz' c d cap arr ty fz hl hn hb hs =>
   simp only [elems] at h;split at h
   . rename_i cs hcs;split at h
     . rename_i hcond;obtain ⟨rfl,hle⟩:=hcond;simp only [Option.some.injEq,Prod.mk.injEq] at h;obtain ⟨rfl,rfl⟩:=h;obtain ⟨l,e1,e2⟩:=hok.rep id _ hcs;rw [hl] at e1;cases e1;obtain ⟨arr',ty',fz',g1,g2,g3,g4,g5⟩:=e2;refine ⟨_,cap,rfl,qD hle,fin c (d+off) (fun i=>arr'.getD (d+off+i) undef) (qD hle) (fun i hi=>?_) cap⟩;have hi':=hi;rw [qD hle] at hi';obtain ⟨x,hx,hrx⟩:=g5 (off+i) (by omega);rw [<-Nat.add_assoc] at hx;refine ⟨by simp [World.cell?,g1,show d+off+i<arr'.size by omega],?_⟩;have:arr'.getD (d+off+i) undef=x:=by simp [hx]
       rw [this,QT hi];exact hrx
     cases h
   cases h
 | msz id off sz' a l hl =>
   simp only [elems] at h;split at h
   . rename_i cs hcs;split at h
     . rename_i hcond;obtain ⟨rfl,hle⟩:=hcond;simp only [Option.some.injEq,Prod.mk.injEq] at h;obtain ⟨rfl,rfl⟩:=h;refine ⟨_,0,rfl,by simp [qy],[],by simp,fun k hk=>?_,by simp,fun i hi _=>by simp [qy] at hi⟩;have:k=0:=by omega
       subst this;cases a with
       | none=>simp [Builtin.firstCells]
       | some b =>simp only [Builtin.firstCells];rw [run_loadCells w _ (0*sz') (fun _=>undef) (fun j hj=>by omega)];simp
     cases h
   cases h
 | mc id off n cap sz' c d arr ty fz hl hn hb hs =>
   simp only [elems] at h;split at h
   . rename_i cs hcs;split at h
     . rename_i hcond;obtain ⟨rfl,hle⟩:=hcond;simp only [Option.some.injEq,Prod.mk.injEq] at h;obtain ⟨rfl,rfl⟩:=h;obtain ⟨l,e1,e2⟩:=hok.rep id _ hcs;rw [hl] at e1;cases e1;obtain ⟨arr',ty',fz',g1,g2,g3,g4,g5⟩:=e2;refine ⟨_,cap,rfl,qD hle,fin c (d+off) (fun i=>arr'.getD (d+off+i) undef) (qD hle) (fun i hi=>?_) cap⟩;have hi':=hi;rw [qD hle] at hi';obtain ⟨x,hx,hrx⟩:=g5 (off+i) (by omega);rw [<-Nat.add_assoc] at hx;refine ⟨by simp [World.cell?,g1,show d+off+i<arr'.size by omega],?_⟩;have:arr'.getD (d+off+i) undef=x:=by simp [hx]
       rw [this,QT hi];exact hrx
     cases h
   cases h
 | mcz id off sz' a l hl =>
   simp only [elems] at h;split at h
   . rename_i cs hcs;split at h
     . rename_i hcond;obtain ⟨rfl,hle⟩:=hcond;simp only [Option.some.injEq,Prod.mk.injEq] at h;obtain ⟨rfl,rfl⟩:=h;refine ⟨_,0,rfl,by simp [qy],[],by simp,fun k hk=>?_,by simp,fun i hi _=>by simp [qy] at hi⟩;have:k=0:=by omega
       subst this;cases a with
       | none=>simp [Builtin.firstCells]
       | some b =>simp only [Builtin.firstCells];rw [run_loadCells w _ (0*sz') (fun _=>undef) (fun j hj=>by omega)];simp
     cases h
   cases h
 | _=>simp [elems] at h
theorem Y7 {P : Program} {hp g w} (hok : HeapOK hp g w) {sz m : Nat} {y : AV} {ys : List AV} {v : Value} (h : elems hp sz y = some (m,ys)) (hp' : (ys.all AV.isPC) = true) (hr : Rep w g false y v) :
 ∃ ad cap,v = .slice ad m cap /\ ys.length = m * sz /\ ∃ vs : List Value,vs.length = m * sz /\ (∀ k,k <= m -> (Builtin.firstCells sz k v).run P w = .ok (vs.take (k * sz)).toArray w) /\
   (∀ u∈vs,u.oneCell'=true)/\∀ i (hi:i<ys.length),∃ u,vs[i]?=some u/\Rep w g true ys[i] u:=by
 obtain ⟨ad,cap,h1,h2,vs,h3,h4,h5,h6⟩:=JS (P:=P) hok h ys.length (by rw [List.take_of_length_le (Nat.le_refl _)];exact hp') hr;exact ⟨ad,cap,h1,h2,vs,h3,h4,fun u hu=>h5 u (by rw [List.take_of_length_le (by omega)];exact hu),fun i hi=>h6 i hi hi⟩
section
variable {P:Program} {o:Oper} {a:Act} {w:World} {g:G} {hp:Hp} {F:Nat->AV} {new:Nat} {r:AV} {ws:List (Nat × HObj)}
theorem jc {w : World} {g : G} {old vs : List Value} {cs ys : List AV} (h1 : old.length = cs.length) (h2 : vs.length = ys.length)
 (r1:∀ i (hi:i<cs.length),∃ u,old[i]?=some u/\Rep w g false cs[i] u) (r2:∀ i (hi:i<ys.length),∃ u,vs[i]?=some u/\Rep w g false ys[i] u) (rest:Array Value) :
 ∀ i (hi:i<(cs++ys).length),∃ x,(old.toArray++vs.toArray++rest)[i]?=some x/\Rep w g false (cs++ys)[i] x:=by
 intro i hi;simp at hi;by_cases a1:i<cs.length
 . obtain ⟨u,hu,hr⟩:=r1 i a1;refine ⟨u,?_,by rw [List.getElem_append_left a1];exact hr⟩;rw [Array.getElem?_append_left (by simp;omega),Array.getElem?_append_left (by simp;omega)];simpa using hu
 obtain ⟨u,hu,hr⟩:=r2 (i - cs.length) (by omega);refine ⟨u,?_,by rw [List.getElem_append_right (by omega)];exact hr⟩;rw [Array.getElem?_append_left (by simp;omega),Array.getElem?_append_right (by simp;omega)];simpa [h1] using hu
theorem QH {ts tx e ty : TypeId} {ex : TypeId} {sz : Nat} (hu : P.underlying ts = some (.slice e)) (hux : P.underlying tx = some (.slice ex) \/ P.underlying tx = some .string) {agg} (ht : qE P e = some (agg,sz))
 {base:Option Addr} {n m cap:Nat} {yv:Value} {vs:List Value} (hlen:(Builtin.lenOf yv).run P w = .ok m w) (hf:(Builtin.firstCells sz m yv).run P w = .ok vs.toArray w) (hle:n+m<=cap) {w':World}
 (hst:match base with | some b=>(storeCells (b.add (n*sz)) vs).run P w = .ok () w' | none=>w'=w) :
 (Builtin.append_ #[ts,tx] ty #[.slice base n cap,yv]).run P w = .ok (.slice base (n+m) cap) w':=by
 rcases hux with hux | hux <;> cases base with
 | none =>subst hst;simp [Builtin.append_,run_underlying hu,run_underlying hux,qf ht,hlen,hle,hf]
 | some b =>simp only at hst;simp [Builtin.append_,run_underlying hu,run_underlying hux,qf ht,hlen,hle,hf,hst]
theorem Zh {ts tx e ty : TypeId} {ex : TypeId} {sz : Nat} (hu : P.underlying ts = some (.slice e)) (hux : P.underlying tx = some (.slice ex) \/ P.underlying tx = some .string) {agg} (ht : qE P e = some (agg,sz)) {i : TypeInfo} (hi : P.info? e = some i) {zv : Value}
 (hz:∀ w,(zeroValue e).run P w = .ok zv w)
 {base:Option Addr} {n m cap:Nat} {yv:Value} {old vs:List Value} (hlen:(Builtin.lenOf yv).run P w = .ok m w) (hf:(Builtin.firstCells sz m yv).run P w.drew = .ok vs.toArray w.drew) (ho:(Builtin.firstCells sz n (.slice base n cap)).run P w.drew = .ok old.toArray w.drew)
 (hlt:cap<n+m) (hb:(n+m)*i.bytes<=140737488355328) (hb2:n+m<=140737488355328) :
 ∃ newCap,n + m <= newCap /\ (Builtin.append_ #[ts,tx] ty #[.slice base n cap,yv]).run P w =
   .ok (.slice (some ⟨w.heap.size,0,none⟩) (n+m) newCap) (w.drew.alloc (.cells (old.toArray++vs.toArray++Builtin.zeroCells zv.cells (newCap - (n+m))) e)):=by
 have hnle:¬ (n+m<=cap):=by omega
 have hfit:=Wd hlt hb;have h63:¬ ((n:Int)+m>IntKind.i64.max/\i.bytes=0):=fun ⟨h,_⟩=>by have:IntKind.i64.max=9223372036854775807:=rfl;rw [this] at h;omega
 have h63':¬ (9223372036854775807<(n:Int)+m/\i.bytes=0):=h63;refine ⟨(Question.appendCap (n+m) cap e).cut (w.tape w.drawn (Question.appendCap (n+m) cap e)),by simp [Question.cut],?_⟩;rcases hux with hux | hux
 all_goals
  simp [Builtin.append_,run_underlying hu,run_underlying hux,qf ht,hlen,hnle,hf,ho,typeInfo,hi,hfit,Question.forced,hz,newRow];rw [if_neg h63',<-Array.append_assoc,show old.toArray++vs.toArray=(old++vs).toArray by simp]
theorem YB {c : Call} {x y} {ts tx e : TypeId} {ex : TypeId} {agg sz bytes z i} {y1 : Opd} (ho : o.op = .call c) (hc : c = { callee := .builtin .append, args := #[x, y], argTypes := #[ts, tx] })
 (hu:P.underlying ts=some (.slice e)) (hux:P.underlying tx=some (.slice ex)\/P.underlying tx=some .string) (ht:qE P e=some (agg,sz)) (hi:P.info? e=some i) (hib:i.bytes=bytes) (hz:zH P e=some z) (hzl:z.length=sz)
 (h1:opd x=some y1) (hF:FrOK w g F a) (hok:HeapOK hp g w) (hn:hp new=none)
 {m:Nat} {ys:List AV} (hylen:ys.length=m*sz) {vs vs':List Value} (hvlen:vs.length=m*sz) (hvlen':vs'.length=m*sz)
 (hlen:(Builtin.lenOf (a.eval y)).run P w = .ok m w)
 (hfirst':(Builtin.firstCells sz m (a.eval y)).run P w = .ok vs.toArray w) (hfirst2':(Builtin.firstCells sz m (a.eval y)).run P w.drew = .ok vs'.toArray w.drew)
 (hone:∀ u∈vs,u.oneCell'=true) (hvr:∀ i (hi:i<ys.length),∃ u,vs[i]?=some u/\Rep w g true ys[i] u) (hvr':∀ i (hi:i<ys.length),∃ u,vs'[i]?=some u/\Rep w.drew g true ys[i] u)
 (hs:zl hp new r ws sz bytes (evF F y1) m ys):VRun P o a w (Post hp g w r ws):=by
 have e1:=qi hF h1;subst hc;obtain ⟨hokd,hupdd⟩:=hok.drew;obtain ⟨zv,hzr0,rfl⟩:=QW hz w
 have hzr:∀ w,(zeroValue e).run P w = .ok zv w:=by
  simp only [zH,Option.map_eq_some_iff,Option.bind_eq_some_iff] at hz;obtain ⟨v,⟨i',hi',hv⟩,_⟩:=hz;intro w';have h3:∀ w,(zeroValue e).run P w = .ok v w:=fun w=>by simp [zeroValue,typeInfo,hi',hv]
  have h4:=h3 w;rw [h4] at hzr0;cases hzr0;exact h3 w'
 simp at hzl;have run:∀ (base:Option Addr) (n cap:Nat) v w',a.eval x = .slice base n cap->(Builtin.append_ #[ts,tx] o.type #[.slice base n cap,a.eval y]).run P w = .ok v w'->(execOp a.eval o).run P w = .ok (.value v) w':=fun base n cap v w' hx hrun=>by simp [execOp,ho,resolve,invoke,builtin,hx,hrun]
 have arrsz:∀ (old:List Value) (n newCap:Nat),old.length=n*sz->n+m<=newCap->(old.toArray++vs'.toArray++Builtin.zeroCells zv.cells (newCap - (n+m))).size=newCap*sz:=fun old n newCap h hle=>by simp [Builtin.zeroCells,h,hvlen',hzl];rw [<-Nat.add_mul,<-Nat.add_mul];congr 1;omega
 simp only [zl] at hs;split at hs
 . rename_i full n cs hy;obtain ⟨rfl,hcl,hb1,hb2,hnm,rfl,rfl⟩:=hs;rw [hy] at e1;generalize hv:a.eval x=v at e1;cases e1 with
   | sl _ _ _ _ ad cap us hn' hf hc hrr =>
     have hcap:=hf rfl;subst hcap;by_cases hm:m=0
     . -- nothing is appended to an empty slice
       subst hm;have hn0:cap=0:=by omega
       subst hn0;have hvs:vs=[]:=List.eq_nil_of_length_eq_zero (by omega);subst hvs;have hcs:cs=[]:=List.eq_nil_of_length_eq_zero (by omega);have hys:ys=[]:=List.eq_nil_of_length_eq_zero (by omega);subst hcs hys;obtain ⟨s1,s2⟩:=hok.virgin hn;refine .of (run ad 0 0 (.slice ad 0 0) w hv ?_) ⟨_,.msz new 0 sz ad .virg (by simp [G.home]),s1,s2⟩;exact QH (cap:=0) hu hux ht hlen hfirst' (Nat.le_refl _) (by cases ad <;> rfl)
     have hold:∃ old:List Value, old.length=cap*sz/\(Builtin.firstCells sz cap (.slice ad cap cap)).run P w.drew = .ok old.toArray w.drew/\∀ i (hi:i<cs.length), ∃ u, old[i]?=some u/\Rep w.drew g false cs[i] u:=by
      by_cases h0:cs.length=0
      . refine ⟨[],by simp; omega,?_,fun i hi => by omega⟩;have hk0:cap*sz=0:=by omega
        cases ad with
        | none=>simp [Builtin.firstCells]
        | some b =>simp only [Builtin.firstCells];rw [run_loadCells w.drew _ (cap*sz) (fun _=>undef) (fun j hj=>by omega)];simp [hk0]
      obtain ⟨ad',rfl,hsp,_⟩:=hc 0 (by omega);obtain ⟨b,q,sp⟩:=ad';simp at hsp;subst hsp;refine ⟨(List.range (cap*sz)).map us,by simp,?_,fun i hi=>⟨us i,by simp [show i<cap*sz by omega],((hrr i hi).of).mono hupdd.tr⟩⟩;simp only [Builtin.firstCells];rw [run_loadCells w.drew _ (cap*sz) us (fun j hj=>by obtain ⟨_,e,_,_,h5⟩:=hc j (by omega);cases e;rw [qG];exact h5)]
     obtain ⟨old,hol,hof,hor⟩:=hold;obtain ⟨newCap,hnc,hrun⟩:=Zh (ty:=o.type) hu hux ht hi hzr hlen hfirst2' hof (by omega) (by rw [hib];exact hb1) hb2
     obtain ⟨s1,s2⟩ := hokd.alloc_priv hn (old.toArray ++ vs'.toArray ++ Builtin.zeroCells zv.cells (newCap - (cap + m))) e (cs ++ ys) (by rw [arrsz old cap newCap hol hnc]; simp [hcl,hylen]; rw [<- Nat.add_mul]; exact Nat.mul_le_mul_right _ hnc)
      (jc (by omega) (by omega) hor (fun i hi=>by obtain ⟨u,hu,hr⟩:=hvr' i hi;exact ⟨u,hu,hr.of⟩) _)
     refine .of (run ad cap cap _ _ hv hrun) ⟨_,?_,s1,hupdd.trans s2⟩;have:=Rep.ms (w:=w.drew.alloc (.cells (old.toArray++vs'.toArray++Builtin.zeroCells zv.cells (newCap - (cap+m))) e)) (g:=g.home new (.blk w.drew.heap.size 0)) new 0 (cap+m) sz w.heap.size 0 newCap _ e (0,0) (by simp [G.home]) hnc (qO _ _) (by rw [arrsz old cap newCap hol hnc];omega);simpa using this
 . rename_i id off n sz' hy;split at hs
   . rename_i cs hcs;obtain ⟨rfl,hle,hb1,hb2,rfl,rfl⟩:=hs;have hne:id≠new:=fun e=>by subst e;rw [hcs] at hn;cases hn
     rw [hy] at e1;generalize hv:a.eval x=v at e1;cases e1 with
     | ms _ _ _ _ cb dd cap arr ty fz hl hn' hb hsz =>
       obtain ⟨l,q1,q2⟩:=hok.rep id _ hcs;rw [hl] at q1;cases q1;obtain ⟨arr',ty',fz',g1,g2,g3,g4,g5⟩:=q2;rw [hb] at g1;cases g1;by_cases hroom:n+m<=cap
       . -- in its Qp
         have hcapsz:(n+m)*sz'<=cap*sz':=Nat.mul_le_mul_right _ hroom;rw [Nat.add_mul] at hcapsz;have hst:=QC (P:=P) (c:=cb) (ty:=ty) (fz:=fz) (dd+off+n*sz') vs 0 arr w hb (by omega) (fun q hq hq'=>g4 q (by omega) (by omega)) hone;simp only [Nat.add_zero] at hst;have hszA:=Zj arr (dd+off+n*sz') vs (by omega)
         obtain ⟨s1,s2⟩ := hok.rewrite hcs hl hb (arr' := z7 arr (dd + off + n * sz') vs) hszA (cs' := cs.take (off + n * sz') ++ ys) (fun q hq => by rw [q9 _ _ _ (by omega),if_pos (by omega)])
          ⟨by rw [hszA]; simp; omega,fun j hj => by
           rw [q9 _ _ _ (by omega)];simp at hj;have hk:(cs.take (off+n*sz')).length=off+n*sz':=by simp;omega
           by_cases a1:j<off+n*sz'
           . rw [if_pos (by omega)];obtain ⟨x,hx,hr⟩:=g5 j (by omega);exact ⟨x,hx,by rw [List.getElem_append_left (by omega)];simpa using hr⟩
           rw [if_neg (by omega),if_pos (by omega)];obtain ⟨u,hu,hr⟩:=hvr (j - (off+n*sz')) (by omega);refine ⟨u,by rw [show dd+j - (dd+off+n*sz')=j - (off+n*sz') by omega];exact hu,?_⟩;rw [List.getElem_append_right (by omega)];simp only [hk];exact hr.of⟩
         obtain ⟨s3,s4⟩:=s1.rename (id:=id) (new:=new) (off:=off) (Hp.set_same _ _ _) hl (by rw [Hp.set_other _ _ (Ne.symm hne)];exact hn) (by simp;omega);rw [Hp.set_set] at s3 s4;have hview:List.drop off (cs.take (off+n*sz')++ys)=qy cs off (n*sz')++ys:=by rw [List.drop_append_of_le_length (by simp;omega),List.drop_take];simp [qy]
         rw [hview] at s3 s4;refine .of (run (some ⟨cb,dd+off,none⟩) n cap (.slice (some ⟨cb,dd+off,none⟩) (n+m) cap) (World.setArr w cb (z7 arr (dd+off+n*sz') vs) ty fz) hv ?_) ⟨_,?_,s3,s2.trans s4⟩
         . exact QH hu hux ht hlen hfirst' hroom (by simp only [qG];exact hst)
         have := Rep.ms (w := World.setArr w cb (z7 arr (dd + off + n * sz') vs) ty fz) (g := g.home new (.blk cb (dd + off))) new 0 (n + m) sz' cb (dd + off) cap _ ty fz (by simp [G.home]) hroom
          (Qh w _ ty fz (Array.getElem?_eq_some_iff.1 hb).1) (by rw [hszA];omega)
         simpa using this
       -- it grows
       have hold:(Builtin.firstCells sz' n (.slice (some ⟨cb,dd+off,none⟩) n cap)).run P w.drew = .ok ((List.range (n*sz')).map fun j=>arr.getD (dd+off+j) undef).toArray w.drew:=by simp only [Builtin.firstCells];rw [run_loadCells w.drew _ (n*sz') (fun j=>arr.getD (dd+off+j) undef) (fun j hj=>by rw [qG];show World.cell? w _=_;simp [World.cell?,hb,show dd+off+j<arr.size by omega])]
       obtain ⟨newCap,hnc,hrun⟩:=Zh (ty:=o.type) hu hux ht hi hzr hlen hfirst2' hold (by omega) (by rw [hib];exact hb1) hb2;obtain ⟨s1,s2⟩:=hokd.drop hcs
       obtain ⟨s3,s4⟩ := s1.alloc_priv (id := new) (by rw [Hp.set_other _ _ (Ne.symm hne)]; exact hn) (((List.range (n * sz')).map fun j => arr.getD (dd + off + j) undef).toArray ++ vs'.toArray ++ Builtin.zeroCells zv.cells (newCap - (n + m))) e (qy cs off (n * sz') ++ ys)
        (by rw [arrsz _ n newCap (by simp) hnc];simp [qD hle,hylen];rw [<-Nat.add_mul];exact Nat.mul_le_mul_right _ hnc)
        (jc (by simp [qD hle]) (by omega) (fun j hj=>by have hj':=hj;rw [qD hle] at hj';obtain ⟨x,hx,hr⟩:=g5 (off+j) (by omega);rw [<-Nat.add_assoc] at hx;refine ⟨x,by simp [hj',hx],by rw [QT hj];exact hr.mono hupdd.tr⟩) (fun i hi=>by obtain ⟨u,hu,hr⟩:=hvr' i hi;exact ⟨u,hu,hr.of⟩) _)
       refine .of (run _ n cap _ _ hv hrun) ⟨_,?_,s3,(hupdd.trans s2).trans s4⟩;have:=Rep.ms (w:=w.drew.alloc (.cells (((List.range (n*sz')).map fun j=>arr.getD (dd+off+j) undef).toArray++vs'.toArray++Builtin.zeroCells zv.cells (newCap - (n+m))) e)) (g:=g.home new (.blk w.drew.heap.size 0)) new 0 (n+m) sz' w.heap.size 0 newCap _ e (0,0) (by simp [G.home]) hnc (qO _ _) (by rw [arrsz _ n newCap (by simp) hnc];omega);simpa using this
     | msz _ _ _ ad l hl =>
       by_cases hm:m=0
       . subst hm;have hvs:vs=[]:=List.eq_nil_of_length_eq_zero (by omega);subst hvs;have hys:ys=[]:=List.eq_nil_of_length_eq_zero (by omega);subst hys;obtain ⟨s1,s2⟩:=hok.drop hcs;obtain ⟨s3,s4⟩:=s1.virgin (id:=new) (by rw [Hp.set_other _ _ (Ne.symm hne)];exact hn);have hview:qy cs off (0*sz')++[]=[]:=by simp [qy]
         simp only [hview];refine .of (run ad 0 0 (.slice ad 0 0) w hv ?_) ⟨_,.msz new 0 sz' ad .virg (by simp [G.home]),s3,s2.trans s4⟩;exact QH (cap:=0) hu hux ht hlen hfirst' (Nat.le_refl _) (by cases ad <;> rfl)
       have hold:(Builtin.firstCells sz' 0 (.slice ad 0 0)).run P w.drew = .ok ([]:List Value).toArray w.drew:=by
        cases ad with
        | none=>simp [Builtin.firstCells]
        | some b =>simp only [Builtin.firstCells];rw [run_loadCells w.drew _ (0*sz') (fun _=>undef) (fun j hj=>by omega)];simp
       obtain ⟨newCap,hnc,hrun⟩:=Zh (ty:=o.type) hu hux ht hi hzr hlen hfirst2' hold (by omega) (by rw [hib];exact hb1) hb2;obtain ⟨s1,s2⟩:=hokd.drop hcs;have hview:qy cs off (0*sz')++ys=ys:=by simp [qy]
       simp only [hview]
       obtain ⟨s3,s4⟩ := s1.alloc_priv (id := new) (by rw [Hp.set_other _ _ (Ne.symm hne)]; exact hn) ((([] : List Value)).toArray ++ vs'.toArray ++ Builtin.zeroCells zv.cells (newCap - (0 + m))) e ys
        (by rw [arrsz _ 0 newCap (by simp) hnc,hylen];exact Nat.mul_le_mul_right _ (by omega))
        (by have:=jc (w:=w.drew) (g:=g) (old:=[]) (vs:=vs') (cs:=[]) (ys:=ys) rfl (by omega) (fun i hi=>by simp at hi) (fun i hi=>by obtain ⟨u,hu,hr⟩:=hvr' i hi;exact ⟨u,hu,hr.of⟩) (Builtin.zeroCells zv.cells (newCap - (0+m)));simpa using this)
       refine .of (run _ 0 0 _ _ hv hrun) ⟨_,?_,s3,(hupdd.trans s2).trans s4⟩;have:=Rep.ms (w:=w.drew.alloc (.cells (([]:List Value).toArray++vs'.toArray++Builtin.zeroCells zv.cells (newCap - (0+m))) e)) (g:=g.home new (.blk w.drew.heap.size 0)) new 0 (0+m) sz' w.heap.size 0 newCap _ e (0,0) (by simp [G.home]) hnc (qO _ _) (by rw [arrsz _ 0 newCap (by simp) hnc];omega);simpa using this
   exact hs.elim
 . rename_i id off n c sz' hy;split at hs
   . rename_i cs hcs;obtain ⟨rfl,hle,hb1,hb2,hs⟩:=hs;have hne:id≠new:=fun e=>by subst e;rw [hcs] at hn;cases hn
     rw [hy] at e1;rcases hs with ⟨hroom,hle2,rfl,rfl⟩ | ⟨hlt,rfl,rfl⟩
     . generalize hv:a.eval x=v at e1;cases e1 with
       | mc _ _ _ _ _ cb dd arr ty fz hl hn' hb hsz =>
         obtain ⟨l,q1,q2⟩:=hok.rep id _ hcs;rw [hl] at q1;cases q1;obtain ⟨arr',ty',fz',g1,g2,g3,g4,g5⟩:=q2;rw [hb] at g1;cases g1;have hsum:(n+m)*sz'=n*sz'+m*sz':=Nat.add_mul _ _ _;obtain ⟨w',s1,s2,s3⟩:=hok.store (P:=P) hcs hl (off+n*sz') vs ys (by omega) (by omega) hone (fun i hi=>by obtain ⟨u,hu,hr⟩:=hvr i hi;exact ⟨u,hu,hr.of⟩);refine .of (run (some ⟨cb,dd+off,none⟩) n c (.slice (some ⟨cb,dd+off,none⟩) (n+m) c) w' hv ?_) ⟨g,?_,s2,s3⟩
         . exact QH hu hux ht hlen hfirst' hroom (by simp only [qG,Nat.add_assoc];exact s1)
         obtain ⟨arr2,k1,k2⟩:=s3.tr.shp _ _ _ _ hb;exact .mc _ _ _ _ _ cb dd arr2 ty fz hl hroom k1 (by omega)
       | mcz _ _ _ ad l hl =>
         have hm:m=0:=by omega
         subst hm;have hvs:vs=[]:=List.eq_nil_of_length_eq_zero (by omega);subst hvs;have hys:ys=[]:=List.eq_nil_of_length_eq_zero (by omega);subst hys
         have hw0:Hp.write hp [(id,.cells (splice cs (off+0*sz') []))]=hp:=by
          have:splice cs (off+0*sz') []=cs:=by simp [splice]
          rw [this];exact Hp.set_self hp hcs
         refine .of (run ad 0 0 (.slice ad 0 0) w hv ?_) ⟨g,.mcz _ _ _ _ _ hl,by rw [hw0];exact hok,by rw [hw0];exact .refl _ _ _⟩;exact QH (cap:=0) hu hux ht hlen hfirst' (Nat.le_refl _) (by cases ad <;> rfl)
     have grows : ∀ (ad : Option Addr) (old : List Value), a.eval x = .slice ad n c -> n <= c -> old.length = n * sz' -> (Builtin.firstCells sz' n (.slice ad n c)).run P w.drew = .ok old.toArray w.drew ->
      (∀ i (hi:i<(qy cs off (n*sz')).length),∃ u,old[i]?=some u/\Rep w.drew g false (qy cs off (n*sz'))[i] u) ->
      VRun P o a w (Post hp g w (.ms new 0 (n+m) sz') [(new,.cells (qy cs off (n*sz')++ys))]):=fun ad old hv hnc0 hol hof hor=>by
      obtain ⟨newCap,hnc,hrun⟩:=Zh (ty:=o.type) hu hux ht hi hzr hlen hfirst2' hof (by omega) (by rw [hib];exact hb1) hb2
      obtain ⟨s3,s4⟩ := hokd.alloc_priv (id := new) hn (old.toArray ++ vs'.toArray ++ Builtin.zeroCells zv.cells (newCap - (n + m))) e (qy cs off (n * sz') ++ ys)
       (by rw [arrsz _ n newCap hol hnc];simp [qD hle,hylen];rw [<-Nat.add_mul];exact Nat.mul_le_mul_right _ hnc)
       (jc (by simp [qD hle,hol]) (by omega) hor (fun i hi=>by obtain ⟨u,hu,hr⟩:=hvr' i hi;exact ⟨u,hu,hr.of⟩) _)
      refine .of (run _ n c _ _ hv hrun) ⟨_,?_,s3,hupdd.trans s4⟩;have:=Rep.ms (w:=w.drew.alloc (.cells (old.toArray++vs'.toArray++Builtin.zeroCells zv.cells (newCap - (n+m))) e)) (g:=g.home new (.blk w.drew.heap.size 0)) new 0 (n+m) sz' w.heap.size 0 newCap _ e (0,0) (by simp [G.home]) hnc (qO _ _) (by rw [arrsz _ n newCap hol hnc];omega);simpa using this
     generalize hv:a.eval x=v at e1;cases e1 with
     | mc _ _ _ _ _ cb dd arr ty fz hl hn' hb hsz =>
       obtain ⟨l,q1,q2⟩:=hok.rep id _ hcs;rw [hl] at q1;cases q1;obtain ⟨arr',ty',fz',g1,g2,g3,g4,g5⟩:=q2;rw [hb] at g1;cases g1;refine grows (some ⟨cb,dd+off,none⟩) ((List.range (n*sz')).map fun j=>arr.getD (dd+off+j) undef) hv hn' (by simp) ?_ (fun j hj=>?_)
       . simp only [Builtin.firstCells];rw [run_loadCells w.drew _ (n*sz') (fun j=>arr.getD (dd+off+j) undef) (fun j hj=>by rw [qG];show World.cell? w _=_;simp [World.cell?,hb,show dd+off+j<arr.size by omega])]
       have hj':=hj;rw [qD hle] at hj';obtain ⟨x,hx,hr⟩:=g5 (off+j) (by omega);rw [<-Nat.add_assoc] at hx;exact ⟨x,by simp [hj',hx],by rw [QT hj];exact hr.mono hupdd.tr⟩
     | mcz _ _ _ ad l hl =>
       refine grows ad [] hv (Nat.le_refl _) (by simp) ?_ (fun j hj=>by simp [qy] at hj);cases ad with
       | none=>simp [Builtin.firstCells]
       | some b =>simp only [Builtin.firstCells];rw [run_loadCells w.drew _ (0*sz') (fun _=>undef) (fun j hj=>by omega)];simp
   exact hs.elim
 exact hs.elim
theorem qnH {c : Call} {x y} {ts tx e : TypeId} {ex : TypeId} {agg sz bytes z i} {y1 y2 : Opd} {d} (ho : o.op = .call c) (hc : c = { callee := .builtin .append,args := #[x,y],argTypes := #[ts,tx] })
 (hu:P.underlying ts=some (.slice e)) (hux:P.underlying tx=some (.slice ex)) (ht:qE P e=some (agg,sz)) (hi:P.info? e=some i) (hib:i.bytes=bytes) (hz:zH P e=some z) (hzl:z.length=sz)
 (h1:opd x=some y1) (h2:opd y=some y2) (hF:FrOK w g F a) (hok:HeapOK hp g w) (hn:hp new=none)
 (hs:(AOp.app d sz bytes y1 y2).sem P (evF F) hp new r ws):VRun P o a w (Post hp g w r ws):=by
 have e2:=qi hF h2;obtain ⟨m,ys,hel,hpc,hs⟩:=hs;obtain ⟨ad2,cap2,hv2,hylen,vs,hvlen,hfirst,hone,hvr⟩:=Y7 (P:=P) hok hel hpc e2;have hfirst':=hfirst m (Nat.le_refl _);rw [List.take_of_length_le (by omega)] at hfirst';obtain ⟨hokd,hupdd⟩:=hok.drew;obtain ⟨_,_,hvd,_,vs',hvlen',hfirst2,_,hvr'⟩:=Y7 (P:=P) hokd hel hpc (e2.mono hupdd.tr);have hfirst2':=hfirst2 m (Nat.le_refl _);rw [List.take_of_length_le (by omega)] at hfirst2';exact YB ho hc hu (.inl hux) ht hi hib hz hzl h1 hF hok hn hylen hvlen hvlen' (by rw [hv2];simp [Builtin.lenOf]) hfirst' hfirst2' hone hvr hvr' hs
theorem qaT (s:ByteArray):(s.data.map fun b=>Value.int .u8 b.toNat)=(s.data.toList.map fun b:UInt8=>Value.int .u8 b.toNat).toArray:=by rw [<-Array.toList_map]
theorem X2 {P:Program} (s:ByteArray) (w:World):(Builtin.firstCells 1 s.size (.string s)).run P w = .ok (s.data.toList.map fun b:UInt8=>Value.int .u8 b.toNat).toArray w:=by
 have:s.extract 0 s.size=s:=by apply ByteArray.ext;simp
 simp [Builtin.firstCells,this];exact qaT s
theorem VU {w g} {p:Bool} (l:List UInt8) (i:Nat) (hi:i<(Qk l).length):∃ u,(l.map fun b:UInt8=>Value.int .u8 b.toNat)[i]?=some u/\Rep w g p (Qk l)[i] u:=by
 have hi':i<l.length:=by simpa [Qk] using hi
 refine ⟨.int .u8 l[i].toNat,by simp [hi'],?_⟩;simp only [Qk,List.getElem_map];exact .v _ _
theorem qjl {c : Call} {x y} {ts tx e : TypeId} {agg bytes z i} {y1 y2 : Opd} {d} (ho : o.op = .call c) (hc : c = { callee := .builtin .append,args := #[x,y],argTypes := #[ts,tx] })
 (hu:P.underlying ts=some (.slice e)) (hux:P.underlying tx=some .string) (ht:qE P e=some (agg,1)) (hi:P.info? e=some i) (hib:i.bytes=bytes) (hz:zH P e=some z) (hzl:z.length=1)
 (h1:opd x=some y1) (h2:opd y=some y2) (hF:FrOK w g F a) (hok:HeapOK hp g w) (hn:hp new=none)
 (hs:(AOp.apps d bytes y1 y2).sem P (evF F) hp new r ws):VRun P o a w (Post hp g w r ws):=by
 have e2:=qi hF h2;simp only [AOp.sem] at hs;split at hs
 . rename_i s hy;rw [hy] at e2;have e2':=zu e2;have hl:(Qk s.data.toList).length=s.size*1:=by rw [Qk,List.length_map,Nat.mul_one];rfl
   have hl2:(s.data.toList.map fun b:UInt8=>Value.int .u8 b.toNat).length=s.size*1:=by rw [List.length_map,Nat.mul_one];rfl
   refine YB (ex:=0) ho hc hu (.inr hux) ht hi hib hz hzl h1 hF hok hn hl hl2 hl2 (by rw [e2'];simp [Builtin.lenOf]) (by rw [e2'];exact X2 s w) (by rw [e2'];exact X2 s w.drew) (fun u hu=>?_) (VU _) (VU _) hs;obtain ⟨b,_,rfl⟩:=List.mem_map.1 hu;rfl
 exact hs.elim
end
abbrev W (ro:Option Nat):Fence:={ Fence.wide with round:=ro }
def OpRun (ro:Option Nat) (n:Nat) (P:Program) (o:Oper) (a:Act) (w:World) (post:Value->World->Prop):Prop :=
 ∀ (next:Act->World->Prop) (Q:Exit->Act->World->Prop),(∀ v w',post v w'->next (a.put o.dst v) w')->o.wpIn (W ro) n P a w next Q
section
variable {P:Program} {o:Oper} {a:Act} {w:World} {g:G} {hp:Hp} {F:Nat->AV} {new:Nat} {r:AV} {ws:List (Nat × HObj)} {ro:Option Nat} {n:Nat}
theorem OpRun.of_value {post:Value->World->Prop} (hd:∀ c,o.op≠.defer c) (h:VRun P o a w post):OpRun ro n P o a w post:=by
 obtain ⟨v,w',h1,h2⟩:=h;intro next Q hn
 refine ⟨fun _ _=>trivial,?_⟩;rw [Oper.semAt_eq _ _ _ hd,h1];exact hn v w' h2
theorem OpRun.of_skip {post:Value->World->Prop} (hd:∀ c,o.op≠.defer c) (h:∃ w',(execOp a.eval o).run P w = .ok .skip w'/\post undef w'):OpRun ro n P o a w post:=by
 obtain ⟨w',h1,h2⟩:=h;intro next Q hn
 refine ⟨fun _ _=>trivial,?_⟩;rw [Oper.semAt_eq _ _ _ hd,h1];exact hn undef w' h2
theorem qnP {c : Call} {x y} {ts e : TypeId} {ats : Array TypeId} {agg sz} {y1 y2 : Opd} {d} (ho : o.op = .call c) (hc : c = { callee := .builtin .copy,args := #[x,y],argTypes := ats }) (hats : ats[0]? = some ts)
 (hu:P.underlying ts=some (.slice e)) (ht:qE P e=some (agg,sz))
 (h1:opd x=some y1) (h2:opd y=some y2) (hF:FrOK w g F a) (hok:HeapOK hp g w)
 (hs:(AOp.cpy d sz y1 y2).sem P (evF F) hp new r ws):VRun P o a w (Post hp g w r ws):=by
 have e1:=qi hF h1;have e2:=qi hF h2;subst hc;simp only [AOp.sem] at hs;split at hs
 . rename_i id off n sz' hy;obtain ⟨m,ys,cs,hel,hpc,hcs,rfl,hle,rfl,rfl⟩:=hs;obtain ⟨ad2,cap2,hv2,hylen,vs,hvlen,hfirst,hone,hvr⟩:=JS (P:=P) hok hel _ hpc e2;have hmin:Nat.min m n<=m:=Nat.min_le_left _ _;have hf:=hfirst (Nat.min m n) hmin;rw [hv2] at hf;have hmsz:Nat.min m n*sz'<=m*sz':=Nat.mul_le_mul_right _ hmin;have hnsz:Nat.min m n*sz'<=n*sz':=Nat.mul_le_mul_right _ (Nat.min_le_right _ _);rw [hy] at e1;generalize hv:a.eval x=v at e1;cases e1 with
   | ms _ _ _ _ cb dd cap arr ty fz hl hn hb hsz =>obtain ⟨w',s1,s2,s3⟩:=hok.store (P:=P) hcs hl off (vs.take (Nat.min m n*sz')) (ys.take (Nat.min m n*sz')) (by simp;omega) (by simp;omega) hone (fun i hi=>by rw [List.length_take] at hi;obtain ⟨u,hu,hr⟩:=hvr i (by omega) (by omega);exact ⟨u,by rw [List.getElem?_take_of_lt (by omega)];exact hu,by simpa using hr.of⟩);refine .of (v := .int .i64 (Nat.min m n:Nat)) (w':=w') ?_ ⟨g,.v _ _,s2,s3⟩;simp [execOp,ho,resolve,invoke,builtin,hv,hv2,Builtin.copy_,hats,run_underlying hu,qf ht,Builtin.lenOf,goInt];rw [hf];simp [s1]
   | msz _ _ _ ad l hl =>
     have hz:Nat.min m 0=0:=by simp
     have hsp:splice cs off (List.take (Nat.min m 0*sz') ys)=cs:=by simp [splice]
     rw [hsp];have hw0:Hp.write hp [(id,.cells cs)]=hp:=Hp.set_self hp hcs;refine .of (v := .int .i64 (Nat.min m 0:Nat)) (w':=w) ?_ ⟨g,.v _ _,by rw [hw0];exact hok,by rw [hw0];exact .refl _ _ _⟩;simp [execOp,ho,resolve,invoke,builtin,hv,hv2,Builtin.copy_,hats,run_underlying hu,qf ht,Builtin.lenOf,goInt];rw [hz] at hf;rw [hf];cases ad <;> first | rfl | (simp [storeCells];done)
 . rename_i id off n c0 sz' hy;obtain ⟨m,ys,cs,hel,hpc,hcs,rfl,hle,rfl,rfl⟩:=hs;obtain ⟨ad2,cap2,hv2,hylen,vs,hvlen,hfirst,hone,hvr⟩:=JS (P:=P) hok hel _ hpc e2;have hmin:Nat.min m n<=m:=Nat.min_le_left _ _;have hf:=hfirst (Nat.min m n) hmin;rw [hv2] at hf;have hmsz:Nat.min m n*sz'<=m*sz':=Nat.mul_le_mul_right _ hmin;have hnsz:Nat.min m n*sz'<=n*sz':=Nat.mul_le_mul_right _ (Nat.min_le_right _ _);rw [hy] at e1;generalize hv:a.eval x=v at e1;cases Xb e1 with
   | ms _ _ _ _ cb dd cap arr ty fz hl hn hb hsz =>obtain ⟨w',s1,s2,s3⟩:=hok.store (P:=P) hcs hl off (vs.take (Nat.min m n*sz')) (ys.take (Nat.min m n*sz')) (by simp;omega) (by simp;omega) hone (fun i hi=>by rw [List.length_take] at hi;obtain ⟨u,hu,hr⟩:=hvr i (by omega) (by omega);exact ⟨u,by rw [List.getElem?_take_of_lt (by omega)];exact hu,by simpa using hr.of⟩);refine .of (v := .int .i64 (Nat.min m n:Nat)) (w':=w') ?_ ⟨g,.v _ _,s2,s3⟩;simp [execOp,ho,resolve,invoke,builtin,hv,hv2,Builtin.copy_,hats,run_underlying hu,qf ht,Builtin.lenOf,goInt];rw [hf];simp [s1]
   | msz _ _ _ ad l hl =>
     have hz:Nat.min m 0=0:=by simp
     have hsp:splice cs off (List.take (Nat.min m 0*sz') ys)=cs:=by simp [splice]
     rw [hsp];have hw0:Hp.write hp [(id,.cells cs)]=hp:=Hp.set_self hp hcs;refine .of (v := .int .i64 (Nat.min m 0:Nat)) (w':=w) ?_ ⟨g,.v _ _,by rw [hw0];exact hok,by rw [hw0];exact .refl _ _ _⟩;simp [execOp,ho,resolve,invoke,builtin,hv,hv2,Builtin.copy_,hats,run_underlying hu,qf ht,Builtin.lenOf,goInt];rw [hz] at hf;rw [hf];cases ad <;> first | rfl | (simp [storeCells];done)
 exact hs.elim
theorem qbF {w w' g g' p p' x v} (hx:x.sc1=true) (h:Rep w g p x v):Rep w' g' p' x v:=by
 unfold AV.sc1 at hx;split at hx
 . rw [zu h];exact .v _ _
 . cases h with
   | sl _ _ _ _ a cap vs hn hf hc hr=>exact .sl _ _ _ _ a cap vs hn hf (fun i hi=>absurd hi (by simp)) (fun i hi=>absurd hi (by simp))
 cases hx
theorem qdE {w w' g g' p p' x v} (hx:x.scalar=true) (h:Rep w g p x v):Rep w' g' p' x v:=by
 unfold AV.scalar at hx;split at hx
 . rw [zu h];exact .v _ _
 . exact qbF rfl h
 . cases h with
   | tup _ cs vs hl hr=>exact .tup _ _ _ hl (fun i hi=>qbF (Qs hx i hi) (hr i hi))
 . cases h with
   | agg _ cs vs hl hr=>exact .agg _ _ _ hl (fun i hi=>qbF (Qs hx i hi) (hr i hi))
 cases hx
theorem Y1 {f : FuncId} {xs ys : List AV} {is : List Nat} {vs : Array Value} (hok : HeapOK hp g w) (hp1 : qh hp xs = some (ys,is)) (hvs : vs.size = xs.length) (hr : ∀ i (h : i < xs.length),Rep w g false xs[i] (vs.getD i undef))
 (hpure:z8 P f ys r):CallsIn (W ro) n P f vs w fun e w'=>∃ v,e = .returned v/\Post hp g w r (bif r.scalar then [] else gones is) v w':=by
 obtain ⟨hokA,updA⟩:=hok.giveAll is (qA hp1);obtain ⟨l1,l2⟩:=zV hok hp1 (fun i h=>h);have hok0:HeapOK (fun _=>none) { (g.pub (zK hp g is)) with ρ:=fun _=>none } w:=⟨fun _ _=>rfl,(fun _ _ h=>nomatch h),(fun _ _ _ _ _ _ _ h=>nomatch h),hokA.ex,hokA.tab⟩;refine (hpure ro n w { (g.pub (zK hp g is)) with ρ:=fun _=>none } vs hok0 (by omega) (fun i hi=>(l2 i (by omega) hi _ (hr i (by omega))).pure rfl _)).mono ?_;rintro e w' ⟨v,g1,rfl,hr1,hok1,upd1⟩;refine ⟨v,rfl,?_⟩;have keep:∀ b,b<w.heap.size->w'.heap[b]?=w.heap[b]?:=fun b hb=>upd1.keep b hb (fun ⟨_,_,_,h,_⟩=>by cases h)
 have newS : ∀ b q,g1.S b q -> (g.pub (zK hp g is)).S b q \/ w.heap.size <= b := fun b q h => by
  rcases upd1.S b q h with h | ⟨_,_,_,h,_⟩ | h
  . exact .inl h
  . cases h
  exact .inr h
 cases hsc:r.scalar with
 | true =>
   have hcell:∀ b q,g.S b q->w'.cell? ⟨b,q,none⟩=w.cell? ⟨b,q,none⟩:=fun b q h=>upd1.tr.cell b q (.inl h)
   have tr:Trans w g w' { S:=fun b q=>g1.S b q/\(g.S b q\/w.heap.size<=b),ρ:=g.ρ } :=
    ⟨fun b q h=>⟨upd1.tr.S b q (.inl h),.inl h⟩,hcell,fun _ _ h=>h,upd1.tr.shp,upd1.tr.os,upd1.tr.tape,upd1.tr.output,upd1.tr.size,upd1.tr.drawn⟩
   refine ⟨_,qdE hsc hr1,?_,tr,fun c hc => .inl hc,fun b q h=>?_,fun b hb _=>keep b hb⟩
   . refine hok.change (fun _ => False) tr (fun _ _ => rfl) (fun _ _ => rfl) (fun i o c d hi ho hl hr' => keep c (hok.lt ho hl hr')) (fun i o c d hi ho hl hr' q hq => ?_) (fun _ h => h.elim) (fun _ _ _ _ _ _ _ h => h.elim) (fun b q h => hok1.ex b q h.1);rcases hq.2 with h | h
     . exact h
     have:=hok.lt ho hl hr';omega
   rcases h.2 with h | h
   . exact .inl h
   exact .inr (.inr h)
 | false =>
   have tr:Trans w (g.pub (zK hp g is)) w' { S:=g1.S,ρ:=g.ρ } :=
    ⟨fun b q h=>upd1.tr.S b q h,fun b q h=>upd1.tr.cell b q h,fun _ _ h=>h,upd1.tr.shp,upd1.tr.os,upd1.tr.tape,upd1.tr.output,upd1.tr.size,upd1.tr.drawn⟩
   refine ⟨_,(hr1.pure rfl g.ρ).of,?_,updA.trans ⟨tr,fun c hc => .inl hc,fun b q h=>?_,fun b hb _=>keep b hb⟩⟩
   . refine hokA.change (fun _ => False) tr (fun _ _ => rfl) (fun _ _ => rfl) (fun i o c d hi ho hl hr' => keep c (hokA.lt ho hl hr')) (fun i o c d hi ho hl hr' q hq => ?_) (fun _ h => h.elim) (fun _ _ _ _ _ _ _ h => h.elim) (fun b q h => hok1.ex b q h);rcases newS c q hq with h | h
     . exact h
     have:=hokA.lt ho hl hr';omega
   rcases newS b q h with h | h
   . exact .inl h
   exact .inr (.inr h)
theorem ZA (hp : Hp) : ∀ (ws : List (Nat × HObj)) (id : Nat) (o : HObj),Hp.write hp (ws ++ [(id,o)]) = Hp.set (Hp.write hp ws) id o
 | [],id,o=>rfl
 | (i,x)::ws,id,o=>ZA (Hp.set hp i x) ws id o
theorem XW {f : FuncId} {xs ys : List AV} {is : List Nat} {vs : Array Value} {m sz : Nat} {cs : List AV} (hok : HeapOK hp g w) (hn : hp new = none) (hp1 : qh hp xs = some (ys,is)) (hvs : vs.size = xs.length)
 (hr:∀ i (h:i<xs.length),Rep w g false xs[i] (vs.getD i undef)) (hmade:jK P f ys m sz cs) :
 CallsIn (W ro) n P f vs w fun e w'=>∃ v,e = .returned v/\Post hp g w (.ms new 0 m sz) (gones is++[(new,.cells cs)]) v w':=by
 obtain ⟨hpc,hm⟩:=hmade;obtain ⟨hokA,updA⟩:=hok.giveAll is (qA hp1);obtain ⟨l1,l2⟩:=zV hok hp1 (fun i h=>h);have hnew:new∉is:=fun h=>by obtain ⟨cs,hcs⟩:=qA hp1 new h;rw [hn] at hcs;cases hcs
 have hnA:Hp.write hp (gones is) new=none:=by rw [zw,if_neg hnew];exact hn
 have hok0:HeapOK (fun _=>none) { (g.pub (zK hp g is)) with ρ:=fun _=>none } w:=⟨fun _ _=>rfl,(fun _ _ h=>nomatch h),(fun _ _ _ _ _ _ _ h=>nomatch h),hokA.ex,hokA.tab⟩;refine (hm ro n w { (g.pub (zK hp g is)) with ρ:=fun _=>none } vs hok0 (by omega) (fun i hi=>(l2 i (by omega) hi _ (hr i (by omega))).pure rfl _)).mono ?_;rintro e w' ⟨v,g1,rfl,hr1,hok1,upd1⟩;refine ⟨v,rfl,?_⟩;have keep:∀ b,b<w.heap.size->w'.heap[b]?=w.heap[b]?:=fun b hb=>upd1.keep b hb (fun ⟨_,_,_,h,_⟩=>by cases h)
 have newS : ∀ b q,g1.S b q -> (g.pub (zK hp g is)).S b q \/ w.heap.size <= b := fun b q h => by
  rcases upd1.S b q h with h | ⟨_,_,_,h,_⟩ | h
  . exact .inl h
  . cases h
  exact .inr h
 obtain ⟨l,hl,hrep⟩:=hok1.rep 0 (.cells cs) rfl
 have newB : ∀ c d,l = .blk c d -> w.heap.size <= c := fun c d e => by
  rcases upd1.live c ⟨0,.cells cs,d,rfl,rfl,by rw [hl,e]⟩ with ⟨_,_,_,h,_⟩ | h
  . cases h
  exact h
 have tr:Trans w (g.pub (zK hp g is)) w' (G.home { S:=g1.S,ρ:=g.ρ } new l) :=
  ⟨fun b q h => upd1.tr.S b q h,fun b q h => upd1.tr.cell b q h,fun id l' h => by
   have:id≠new:=fun e=>by subst e;have:=hokA.dom id hnA;rw [this] at h;cases h
   simp only [G.home,if_neg this];exact h,upd1.tr.shp,upd1.tr.os,upd1.tr.tape,upd1.tr.output,upd1.tr.size,upd1.tr.drawn⟩
 have hrv:Rep w' (G.home { S:=g1.S,ρ:=g.ρ } new l) false (.ms new 0 m sz) v:=by
  cases hr1 with
  | ms _ _ _ _ c d cap arr ty fz h1 h2 h3 h4=>rw [hl] at h1;cases h1;exact .ms _ _ _ _ c d cap arr ty fz (by simp [G.home]) h2 h3 h4
  | msz _ _ _ a l' h1=>rw [hl] at h1;cases h1;exact .msz _ _ _ a l (by simp [G.home])
 refine ⟨G.home { S:=g1.S,ρ:=g.ρ } new l,hrv,?_,?_⟩
 . rw [ZA];refine hokA.change (fun i=>i=new) tr (fun i hi=>Hp.set_other _ _ hi) (fun i hi=>by simp [G.home,hi,G.pub]) (fun i o c d hi ho hl' hr'=>keep c (hokA.lt ho hl' hr')) (fun i o c d hi ho hl' hr' q hq=>?_) ?_ ?_ (fun b q h=>hok1.ex b q h)
   . rcases newS c q hq with h | h
     . exact h
     have:=hokA.lt ho hl' hr';omega
   . rintro i rfl;refine ⟨_,l,Hp.set_same _ _ _,by simp [G.home],?_⟩;cases l with
     | virg=>exact hrep
     | base L=>exact hrep
     | blk c d =>obtain ⟨arr,ty,fz,a1,a2,a3,a4,a5⟩:=hrep;refine ⟨arr,ty,fz,a1,a2,a3,a4,fun j hj=>?_⟩;obtain ⟨x,b1,b2⟩:=a5 j hj;exact ⟨x,b1,((zU (J4 (Qs hpc j hj)) b2).pure rfl _).of⟩
   rintro i i' o o' c d d' rfl ho ho' hl1 hl2 hr1 hr2;simp only [G.home] at hr1 hr2;simp at hr1;by_cases e:i'=i
   . exact e.symm
   rw [Hp.set_other _ _ e] at ho';simp [e] at hr2;have h1:=hokA.lt ho' hl2 hr2;have h2:=newB c d hr1;omega
 rw [ZA];refine updA.trans ⟨tr,?_,fun b q h=>?_,fun b hb _=>keep b hb⟩
 . rintro c ⟨i,o,d,ho,hl1,hr1⟩;by_cases e:i=new
   . subst e;simp [G.home] at hr1;exact .inr (newB c d hr1)
   rw [Hp.set_other _ _ e] at ho;simp [G.home,e] at hr1;exact .inl ⟨i,o,d,ho,hl1,hr1⟩
 rcases newS b q h with h | h
 . exact .inl h
 exact .inr (.inr h)
theorem qc6 {f : FuncId} {xs ys : List AV} {is : List Nat} {vs : Array Value} {m sz : Nat} {cs : List AV} (hok : HeapOK hp g w) (hn : hp new = none) (hp1 : qh hp xs = some (ys,is)) (hvs : vs.size = xs.length)
 (hr:∀ i (h:i<xs.length),Rep w g false xs[i] (vs.getD i undef)) (hmade:jK P f ys m sz cs) (hcs:cs.all AV.isV=true) :
 CallsIn (W ro) n P f vs w fun e w'=>∃ v,e = .returned v/\Post hp g w (.ms new 0 m sz) [(new,.cells cs)] v w':=by
 obtain ⟨hpc,hm⟩:=hmade;obtain ⟨hokA,updA⟩:=hok.giveAll is (qA hp1);obtain ⟨l1,l2⟩:=zV hok hp1 (fun i h=>h);have hok0:HeapOK (fun _=>none) { (g.pub (zK hp g is)) with ρ:=fun _=>none } w:=⟨fun _ _=>rfl,(fun _ _ h=>nomatch h),(fun _ _ _ _ _ _ _ h=>nomatch h),hokA.ex,hokA.tab⟩;refine (hm ro n w { (g.pub (zK hp g is)) with ρ:=fun _=>none } vs hok0 (by omega) (fun i hi=>(l2 i (by omega) hi _ (hr i (by omega))).pure rfl _)).mono ?_;rintro e w' ⟨v,g1,rfl,hr1,hok1,upd1⟩;refine ⟨v,rfl,?_⟩;have keep:∀ b,b<w.heap.size->w'.heap[b]?=w.heap[b]?:=fun b hb=>upd1.keep b hb (fun ⟨_,_,_,h,_⟩=>by cases h);obtain ⟨l,hl,hrep⟩:=hok1.rep 0 (.cells cs) rfl
 have newB : ∀ c d,l = .blk c d -> w.heap.size <= c := fun c d e => by
  rcases upd1.live c ⟨0,.cells cs,d,rfl,rfl,by rw [hl,e]⟩ with ⟨_,_,_,h,_⟩ | h
  . cases h
  exact h
 have tr:Trans w g w' (G.home { S:=fun b q=>g1.S b q/\(g.S b q\/w.heap.size<=b),ρ:=g.ρ } new l) :=
  ⟨fun b q h => ⟨upd1.tr.S b q (.inl h),.inl h⟩,fun b q h => upd1.tr.cell b q (.inl h),fun id l' h => by
   have:id≠new:=fun e=>by subst e;have:=hok.dom id hn;rw [this] at h;cases h
   simp only [G.home,if_neg this];exact h,upd1.tr.shp,upd1.tr.os,upd1.tr.tape,upd1.tr.output,upd1.tr.size,upd1.tr.drawn⟩
 have hrv : Rep w' (G.home { S := fun b q => g1.S b q /\ (g.S b q \/ w.heap.size <= b),ρ := g.ρ } new l) false (.ms new 0 m sz) v := by
  cases hr1 with
  | ms _ _ _ _ c d cap arr ty fz h1 h2 h3 h4=>rw [hl] at h1;cases h1;exact .ms _ _ _ _ c d cap arr ty fz (by simp [G.home]) h2 h3 h4
  | msz _ _ _ a l' h1=>rw [hl] at h1;cases h1;exact .msz _ _ _ a l (by simp [G.home])
 refine ⟨_,hrv,?_,?_⟩
 . refine hok.change (fun i => i = new) tr (fun i hi => Hp.set_other _ _ hi) (fun i hi => by simp [G.home,hi]) (fun i o c d hi ho hl' hr' => keep c (hok.lt ho hl' hr')) (fun i o c d hi ho hl' hr' q hq => ?_) ?_ ?_ (fun b q h => hok1.ex b q h.1)
   . rcases hq.2 with h | h
     . exact h
     have:=hok.lt ho hl' hr';omega
   . rintro i rfl;refine ⟨_,l,Hp.set_same _ _ _,by simp [G.home],?_⟩;cases l with
     | virg=>exact hrep
     | base L=>exact hrep
     | blk c d =>
       obtain ⟨arr,ty,fz,a1,a2,a3,a4,a5⟩:=hrep;refine ⟨arr,ty,fz,a1,a2,fun o ho h=>a3 o ho h.1,a4,fun j hj=>?_⟩;obtain ⟨x,b1,b2⟩:=a5 j hj;have hv:=Qs hcs j hj;refine ⟨x,b1,?_⟩;generalize cs[j]=y at hv b2;cases y with
       | v z=>rw [zu b2];exact .v _ _
       | _=>cases hv
   rintro i i' o o' c d d' rfl ho ho' hl1 hl2 hr1 hr2;simp only [G.home] at hr1 hr2;simp at hr1;by_cases e:i'=i
   . exact e.symm
   rw [show Hp.write hp [(i,HObj.cells cs)]=Hp.set hp i (.cells cs) from rfl,Hp.set_other _ _ e] at ho';simp [e] at hr2;have h1:=hok.lt ho' hl2 hr2;have h2:=newB c d hr1;omega
 refine ⟨tr,?_,fun b q h=>?_,fun b hb _=>keep b hb⟩
 . rintro c ⟨i,o,d,ho,hl1,hr1⟩;by_cases e:i=new
   . subst e;simp [G.home] at hr1;exact .inr (newB c d hr1)
   rw [show Hp.write hp [(new,HObj.cells cs)]=Hp.set hp new (.cells cs) from rfl,Hp.set_other _ _ e] at ho;simp [G.home,e] at hr1;exact .inl ⟨i,o,d,ho,hl1,hr1⟩
 rcases h.2 with h | h
 . exact .inl h
 exact .inr (.inr h)
theorem VZ {f : FuncId} {xs ys : List AV} {is : List Nat} {vs : Array Value} {m sz : Nat} {cs : List AV} (hok : HeapOK hp g w) (hn : hp new = none) (hp1 : qh hp xs = some (ys,is)) (hvs : vs.size = xs.length)
 (hr:∀ i (h:i<xs.length),Rep w g false xs[i] (vs.getD i undef)) (hmade:jK P f ys m sz cs) :
 CallsIn (W ro) n P f vs w fun e w'=>∃ v,e = .returned v/\Post hp g w (.ms new 0 m sz) (JH cs is++[(new,.cells cs)]) v w':=by
 unfold JH;cases e:cs.all AV.isV with
 | true=>exact qc6 hok hn hp1 hvs hr hmade e
 | false=>exact XW hok hn hp1 hvs hr hmade
theorem qbX {f : FuncId} {xs ys : List AV} {is : List Nat} {vs : Array Value} {Φ : List (Value × Nat × AV) -> Nat -> Prop} (hok : HeapOK hp g w) (hn : hp new = none) (hp1 : qh hp xs = some (ys, is)) (hvs : vs.size = xs.length)
 (hr:∀ i (h:i<xs.length),Rep w g false xs[i] (vs.getD i undef)) (hmade:Wt P f ys Φ) :
 CallsIn (W ro) n P f vs w fun e w'=>∃ v,e = .returned v/\Post hp g w (.mp new) (gones is++[(new,.mpp Φ)]) v w':=by
 obtain ⟨hpc,hm⟩:=hmade;obtain ⟨hokA,updA⟩:=hok.giveAll is (qA hp1);obtain ⟨l1,l2⟩:=zV hok hp1 (fun i h=>h);have hnew:new∉is:=fun h=>by obtain ⟨cs,hcs⟩:=qA hp1 new h;rw [hn] at hcs;cases hcs
 have hnA:Hp.write hp (gones is) new=none:=by rw [zw,if_neg hnew];exact hn
 have hok0:HeapOK (fun _=>none) { (g.pub (zK hp g is)) with ρ:=fun _=>none } w:=⟨fun _ _=>rfl,(fun _ _ h=>nomatch h),(fun _ _ _ _ _ _ _ h=>nomatch h),hokA.ex,hokA.tab⟩;refine (hm ro n w { (g.pub (zK hp g is)) with ρ:=fun _=>none } vs hok0 (by omega) (fun i hi=>(l2 i (by omega) hi _ (hr i (by omega))).pure rfl _)).mono ?_;rintro e w' ⟨v,g1,rfl,hr1,hok1,upd1⟩;refine ⟨v,rfl,?_⟩;have keep:∀ b,b<w.heap.size->w'.heap[b]?=w.heap[b]?:=fun b hb=>upd1.keep b hb (fun ⟨_,_,_,h,_⟩=>by cases h)
 have newS : ∀ b q,g1.S b q -> (g.pub (zK hp g is)).S b q \/ w.heap.size <= b := fun b q h => by
  rcases upd1.S b q h with h | ⟨_,_,_,h,_⟩ | h
  . exact .inl h
  . cases h
  exact .inr h
 obtain ⟨l,hl,hrep⟩:=hok1.rep 0 (.mpp Φ) rfl
 have newB : ∀ c d,l = .blk c d -> w.heap.size <= c := fun c d e => by
  rcases upd1.live c ⟨0,.mpp Φ,d,rfl,rfl,by rw [hl,e]⟩ with ⟨_,_,_,h,_⟩ | h
  . cases h
  exact h
 have tr:Trans w (g.pub (zK hp g is)) w' (G.home { S:=g1.S,ρ:=g.ρ } new l) :=
  ⟨fun b q h => upd1.tr.S b q h,fun b q h => upd1.tr.cell b q h,fun id l' h => by
   have:id≠new:=fun e=>by subst e;have:=hokA.dom id hnA;rw [this] at h;cases h
   simp only [G.home,if_neg this];exact h,upd1.tr.shp,upd1.tr.os,upd1.tr.tape,upd1.tr.output,upd1.tr.size,upd1.tr.drawn⟩
 have hrv:Rep w' (G.home { S:=g1.S,ρ:=g.ρ } new l) false (.mp new) v:=by
  cases hr1 with
  | mp _ c d h1=>rw [hl] at h1;cases h1;exact .mp _ c d (by simp [G.home])
 refine ⟨G.home { S:=g1.S,ρ:=g.ρ } new l,hrv,?_,?_⟩
 . rw [ZA];refine hokA.change (fun i=>i=new) tr (fun i hi=>Hp.set_other _ _ hi) (fun i hi=>by simp [G.home,hi,G.pub]) (fun i o c d hi ho hl' hr'=>keep c (hokA.lt ho hl' hr')) (fun i o c d hi ho hl' hr' q hq=>?_) ?_ ?_ (fun b q h=>hok1.ex b q h)
   . rcases newS c q hq with h | h
     . exact h
     have:=hokA.lt ho hl' hr';omega
   . rintro i rfl;refine ⟨_,l,Hp.set_same _ _ _,by simp [G.home],?_⟩;cases l with
     | virg=>exact hrep
     | base L=>exact hrep
     | blk c d =>obtain ⟨es,clk,hΦ,ents,a1,a2,a3,a4,a5⟩:=hrep;refine ⟨es,clk,hΦ,ents,a1,a2,a3,a4,fun j hj=>?_⟩;obtain ⟨x,b1,b2,b3,b4⟩:=a5 j hj;exact ⟨x,b1,b2,b3,((zU (J4 (by have:=List.all_eq_true.1 (hpc es clk hΦ) es[j] (List.getElem_mem hj);exact this)) b4).pure rfl _).of⟩
   rintro i i' o o' c d d' rfl ho ho' hl1 hl2 hr1 hr2;simp only [G.home] at hr1 hr2;simp at hr1;by_cases e:i'=i
   . exact e.symm
   rw [Hp.set_other _ _ e] at ho';simp [e] at hr2;have h1:=hokA.lt ho' hl2 hr2;have h2:=newB c d hr1;omega
 rw [ZA];refine updA.trans ⟨tr,?_,fun b q h=>?_,fun b hb _=>keep b hb⟩
 . rintro c ⟨i,o,d,ho,hl1,hr1⟩;by_cases e:i=new
   . subst e;simp [G.home] at hr1;exact .inr (newB c d hr1)
   rw [Hp.set_other _ _ e] at ho;simp [G.home,e] at hr1;exact .inl ⟨i,o,d,ho,hl1,hr1⟩
 rcases newS b q h with h | h
 . exact .inl h
 exact .inr (.inr h)
def opds : List Operand -> Option (List Opd)
 | []=>some []
 | x::xs=>match opd x,opds xs with
   | some y,some ys=>some (y::ys)
   | _,_=>none
theorem QR : ∀ {xs : List Operand} {ys : List Opd},opds xs = some ys -> ys.length = xs.length /\ ∀ i (h : i < xs.length) (h' : i < ys.length),opd xs[i] = some ys[i]
 | [],ys,h=>by simp [opds] at h;subst h;simp
 | x::xs, ys, h=>by
   simp only [opds] at h;split at h
   . rename_i y ys' h1 h2;simp only [Option.some.injEq] at h;subst h;obtain ⟨l1,l2⟩:=QR h2;refine ⟨by simp [l1],fun i hi hi'=>?_⟩;cases i with
     | zero=>simpa using h1
     | succ i=>simpa using l2 i (by simpa using hi) (by simpa using hi')
   cases h
theorem zo {f:FuncId} (h:ja P f=true) (args:Array Value) (w:World):(callFunc f args).run P w = .ok (.enter f args) w:=by
 unfold ja at h;cases hf:P.funcs[f]? with
 | none=>simp [hf] at h
 | some fn =>
   simp [hf] at h;obtain ⟨h1,h2⟩:=h;have h3:fn.body.isNone=false:=by cases hb:fn.body <;> simp_all
   have h5:¬ fn.body=none:=by cases hb:fn.body <;> simp_all
   simp [callFunc,hf,h1,h5]
theorem qjp {c : Call} {f : FuncId} {args : Array Operand} {ats : Array TypeId} {qs : List Opd} {d} (ho : o.op = .call c) (hc : c = { callee := .value (.func f),args := args,argTypes := ats }) (hf : ja P f = true)
 (hq:opds args.toList=some qs) (hF:FrOK w g F a) (hok:HeapOK hp g w) (hnw:hp new=none)
 (hs:(AOp.call d f qs).sem P (evF F) hp new r ws):OpRun ro n P o a w (Post hp g w r ws):=by
 subst hc;obtain ⟨ys,is,hp1,hs⟩:=hs;obtain ⟨l1,l2⟩:=QR hq;intro next Q hn
 refine ⟨fun _ _=>trivial,?_⟩;rw [Oper.semAt_eq _ _ _ (by rw [ho];simp)];have hrun:(execOp a.eval o).run P w = .ok (.enter f (args.map a.eval)) w:=by simp [execOp,ho,resolve,Act.eval,Deferred.ofValue,invoke,zo hf]
 rw [hrun];refine ⟨fun h=>by simp [Fence.wide] at h,?_⟩;have hargs:∀ i (hi:i<(qs.map (evF F)).length),Rep w g false (qs.map (evF F))[i] ((args.map a.eval).getD i undef):=fun i hi=>by simp at hi;have:=qi hF (l2 i (by omega) hi);simpa [show i<args.size by simp at l1;omega] using this
 rcases hs with ⟨hpure,rfl⟩ | ⟨m,sz,cs,hmade,rfl,rfl⟩ | ⟨Φ,hmade,rfl,rfl⟩
 . refine (Y1 hok hp1 (vs:=args.map a.eval) (by simp [l1]) hargs hpure).mono ?_;rintro e w' ⟨v,rfl,hpst⟩;exact hn v w' hpst
 . refine (VZ hok hnw hp1 (vs:=args.map a.eval) (by simp [l1]) hargs hmade).mono ?_;rintro e w' ⟨v,rfl,hpst⟩;exact hn v w' hpst
 refine (qbX hok hnw hp1 (vs:=args.map a.eval) (by simp [l1]) hargs hmade).mono ?_;rintro e w' ⟨v,rfl,hpst⟩;exact hn v w' hpst
theorem qgD {c : Call} {x : Operand} {args : Array Operand} {ats : Array TypeId} {y : Opd} {qs : List Opd} {d} (ho : o.op = .call c) (hc : c = { callee := .value x, args := args, argTypes := ats })
 (hx:opd x=some y) (hq:opds args.toList=some qs) (hF:FrOK w g F a) (hok:HeapOK hp g w) (hnw:hp new=none)
 (hs:(AOp.callv d y qs).sem P (evF F) hp new r ws):OpRun ro n P o a w (Post hp g w r ws):=by
 subst hc;simp only [AOp.sem] at hs;split at hs
 . rename_i f first caps hy
   obtain ⟨⟨hf,_⟩,zs,is,hp1,hs⟩:=hs;obtain ⟨l1,l2⟩:=QR hq;have ex:=qi hF hx;rw [hy] at ex;generalize hv:a.eval x=v at ex;cases ex with
   | fn _ _ _ _ xs ys hl hl' hr hr' =>
     intro next Q hn
     refine ⟨fun _ _=>trivial,?_⟩;rw [Oper.semAt_eq _ _ _ (by rw [ho];simp)];have hrun:(execOp a.eval o).run P w = .ok (.enter f (xs.toArray++args.map a.eval++ys.toArray)) w:=by simp [execOp,ho,resolve,hv,Deferred.ofValue,invoke,zo hf]
     rw [hrun];refine ⟨fun h=>by simp [Fence.wide] at h,?_⟩;have hsz:(xs.toArray++args.map a.eval++ys.toArray).size=(first++qs.map (evF F)++caps).length:=by simp [l1,hl,hl']
     have hargs : ∀ i (hi : i < (first ++ qs.map (evF F) ++ caps).length), Rep w g false (first ++ qs.map (evF F) ++ caps)[i] ((xs.toArray ++ args.map a.eval ++ ys.toArray).getD i undef) := fun i hi => by
      have hargs:args.size=qs.length:=by simpa using l1.symm
      have hi':i<first.length+qs.length+caps.length:=by simpa [Nat.add_assoc] using hi
      by_cases c1:i<first.length
      . rw [List.getElem_append_left (by simp;omega),List.getElem_append_left c1];have:=hr i c1;simp only [Array.getD_eq_getD_getElem?,List.getD_eq_getElem?_getD] at this ⊢;rw [Array.getElem?_append_left (by simp;omega),Array.getElem?_append_left (by simp;omega)];simpa using this
      by_cases c2:i<first.length+qs.length
      . rw [List.getElem_append_left (by simp; omega),List.getElem_append_right (by omega)];have:=qi hF (l2 (i - first.length) (by omega) (by omega))
        simp only [Array.getD_eq_getD_getElem?];rw [Array.getElem?_append_left (by simp;omega),Array.getElem?_append_right (by simp;omega)];have hlt':i - xs.length<args.size:=by omega
        simp only [List.size_toArray,Array.getElem?_map];simp only [hl];rw [hl] at hlt';simpa [hlt'] using this
      rw [List.getElem_append_right (by simp;omega)];have hlen:i - (first++qs.map (evF F)).length<caps.length:=by simp;omega
      have:=hr' _ hlen;simp only [Array.getD_eq_getD_getElem?,List.getD_eq_getElem?_getD] at this ⊢;rw [Array.getElem?_append_right (by simp;omega)];have e:i - (xs.toArray++args.map a.eval).size=i - (first++qs.map (evF F)).length:=by simp [hl,hargs]
      rw [e];simpa using this
     rcases hs with ⟨hpure,rfl⟩ | ⟨m,sz,cs,hmade,rfl,rfl⟩
     . refine (Y1 hok hp1 hsz hargs hpure).mono ?_;rintro e w' ⟨v,rfl,hpst⟩;exact hn v w' hpst
     refine (VZ hok hnw hp1 hsz hargs hmade).mono ?_;rintro e w' ⟨v,rfl,hpst⟩;exact hn v w' hpst
 exact hs.elim
end
section
variable {P:Program} {o:Oper} {a:Act} {w:World} {g:G} {hp:Hp} {F:Nat->AV} {new:Nat} {r:AV} {ws:List (Nat × HObj)} {ro:Option Nat} {n:Nat}
theorem qnM {c : Call} {x} {ts e : TypeId} {y1 : Opd} {d} (ho : o.op = .call c) (hc : c = { callee := .builtin .cap,args := #[x],argTypes := #[ts] }) (hu : P.underlying ts = some (.slice e))
 (h1:opd x=some y1) (hF:FrOK w g F a) (hok:HeapOK hp g w) (hs:(AOp.cap d y1).sem P (evF F) hp new r ws):VRun P o a w (Post hp g w r ws):=by
 have e1:=qi hF h1;subst hc;simp only [AOp.sem] at hs;split at hs
 . rename_i full n cs hy;obtain ⟨rfl,rfl,rfl⟩:=hs;rw [hy] at e1;generalize hv:a.eval x=v at e1;cases e1 with
   | sl _ _ _ _ ad cap vs hn hf =>have:=hf rfl;subst this;exact .of (by simp [execOp,ho,resolve,invoke,builtin,hv,Builtin.cap_,run_underlying hu];rfl) (.nil hok (.v _ _))
 . rename_i id off n c sz hy;obtain ⟨rfl,rfl⟩:=hs;rw [hy] at e1;generalize hv:a.eval x=v at e1;cases e1 with
   | mc=>exact .of (by simp [execOp,ho,resolve,invoke,builtin,hv,Builtin.cap_,run_underlying hu];rfl) (.nil hok (.v _ _))
   | mcz=>exact .of (by simp [execOp,ho,resolve,invoke,builtin,hv,Builtin.cap_,run_underlying hu];rfl) (.nil hok (.v _ _))
 exact hs.elim
theorem zC (zv:Value) (n:Nat):(Builtin.zeroCells zv.cells n).toList.length=n*zv.cells.size:=by simp [Builtin.zeroCells]
theorem VG {P:Program} {e:TypeId} {zv:Value} {sz:Nat} (hone:(zv.cells.toList.map AV.ofCell).all AV.isPC=true) (n:Nat):∀ u∈(Builtin.zeroCells zv.cells n).toList,u.oneCell'=true:=by
 intro u hu;simp [Builtin.zeroCells] at hu;obtain ⟨i,hi,rfl⟩:=hu
 have hlt : i % zv.cells.size < zv.cells.size := Nat.mod_lt _ (by
  rcases Nat.eq_zero_or_pos zv.cells.size with h | h
  . rw [h] at hi;simp at hi
  exact h)
 rw [getElem!_pos zv.cells _ hlt];have:=List.all_eq_true.1 hone (AV.ofCell zv.cells[i % zv.cells.size]) (by simp;exact ⟨_,by simp,rfl⟩);exact qku (Zz (World.settled P default) ⟨fun _ _=>False,fun _=>none⟩ true _) this
theorem JF {w g p} (zv:Value) (n:Nat):∀ i (hi:i<(zE n (zv.cells.toList.map AV.ofCell)).length),∃ u,(Builtin.zeroCells zv.cells n).toList[i]?=some u/\Rep w g p (zE n (zv.cells.toList.map AV.ofCell))[i] u:=by intro i hi;obtain ⟨x,h1,h2⟩:=(Yf (w:=w) (g:=g) (p:=p) zv n).2 i hi;exact ⟨x,by rw [Array.getElem?_toList];exact h1,h2⟩
theorem Wq {e:TypeId} {z:List AV} (hz:zH P e=some z):∃ zv:Value,(∀ w,(zeroValue e).run P w = .ok zv w)/\z=zv.cells.toList.map AV.ofCell:=by simp only [zH,Option.map_eq_some_iff,Option.bind_eq_some_iff] at hz;obtain ⟨v,⟨i,hi,hv⟩,rfl⟩:=hz;exact ⟨v,fun w=>by simp [zeroValue,typeInfo,hi,hv],rfl⟩
theorem qnN {c : Call} {x} {ts e : TypeId} {agg sz} {z : List AV} {y1 : Opd} (ho : o.op = .call c) (hc : c = { callee := .builtin .clear,args := #[x],argTypes := #[ts] }) (hu : P.underlying ts = some (.slice e))
 (ht:qE P e=some (agg,sz)) (hz:zH P e=some z) (hzl:z.length=sz) (hpc:(z.all AV.isPC)=true) (h1:opd x=some y1) (hF:FrOK w g F a) (hok:HeapOK hp g w)
 (hs:(AOp.clr sz z y1).sem P (evF F) hp new r ws):VRun P o a w (Post hp g w r ws):=by
 have e1:=qi hF h1;subst hc;obtain ⟨zv,hzr,rfl⟩:=Wq hz;simp at hzl
 have main : ∀ {id off n sz'}, Rep w g false (.ms id off n sz') (a.eval x) -> (∃ cs, hp id = some (.cells cs) /\ sz' = sz /\ off + n * sz <= cs.length /\ r = .any /\ ws = [(id, .cells (splice cs off (zE n (zv.cells.toList.map AV.ofCell))))]) ->
  VRun P o a w (Post hp g w r ws):=fun {id off n sz'} e1 hs=>by
  obtain ⟨cs,hcs,rfl,hle,rfl,rfl⟩:=hs;have hzn:(zE n (zv.cells.toList.map AV.ofCell)).length=n*sz':=by rw [zW];simp [hzl]
  generalize hv:a.eval x=v at e1;cases e1 with
  | ms _ _ _ _ cb dd cap arr ty fz hl hn hb hsz =>
    obtain ⟨w',s1,s2,s3⟩:=hok.store (P:=P) hcs hl off (Builtin.zeroCells zv.cells n).toList (zE n (zv.cells.toList.map AV.ofCell)) (by rw [zC,hzn,hzl]) (by omega) (VG (P:=P) (e:=e) (sz:=sz') hpc n) (JF zv n);refine .of (v := .tuple #[]) (w':=w') ?_ ⟨g,.any _ _,s2,s3⟩;by_cases h0:n=0
    . subst h0;have:(Builtin.zeroCells zv.cells 0).toList=[]:=by simp [Builtin.zeroCells]
      rw [this] at s1;simp [storeCells] at s1;subst s1;simp [execOp,ho,resolve,invoke,builtin,hv,Builtin.clear_,run_underlying hu]
    cases n with
    | zero=>exact absurd rfl h0
    | succ n=>simp [execOp,ho,resolve,invoke,builtin,hv,Builtin.clear_,run_underlying hu,hzr,s1]
  | msz _ _ _ ad l hl =>
    have hsp:splice cs off (zE 0 (zv.cells.toList.map AV.ofCell))=cs:=by simp [splice,zE]
    rw [hsp];have hw0:Hp.write hp [(id,.cells cs)]=hp:=Hp.set_self hp hcs;refine .of (v := .tuple #[]) (w':=w) ?_ ⟨g,.any _ _,by rw [hw0];exact hok,by rw [hw0];exact .refl _ _ _⟩;cases ad <;> simp [execOp,ho,resolve,invoke,builtin,hv,Builtin.clear_,run_underlying hu]
 simp only [AOp.sem] at hs;split at hs
 . rename_i id off n sz' hy;rw [hy] at e1;exact main e1 hs
 . rename_i id off n c0 sz' hy;rw [hy] at e1;exact main (Xb e1) hs
 exact hs.elim
theorem Qq {ts e ty t2 : TypeId} {k : IntKind} {sz : Nat} (hu : P.underlying ts = some (.slice e)) (hu2 : P.underlying t2 = some (.int k)) {agg} (ht : qE P e = some (agg,sz)) {i : TypeInfo} (hi : P.info? e = some i) {zv : Value}
 (hz:∀ w,(zeroValue e).run P w = .ok zv w) (hzl:zv.cells.size=sz)
 {base:Option Addr} {n m cap:Nat} {w':World} (hle:n+m<=cap) (hb:m*i.bytes<=140737488355328) (hb2:m<=140737488355328)
 (hst:match base with | none=>w'=w | some b=>(storeCells (b.add (n*sz)) (Builtin.zeroCells zv.cells m).toList).run P w = .ok () w') :
 (Builtin.append_ #[ts,t2] ty #[.slice base n cap,.int .i64 (m:Int)]).run P w = .ok (.slice base (n+m) cap) w':=by
 have hw:IntKind.i64.wrap (m:Int)=m:=by
  simp only [IntKind.wrap,IntKind.bits,IntKind.signed];have:(m:Int) % 2 ^ 64=m:=Int.emod_eq_of_lt (by omega) (by omega);simp only [this];have:¬ ((m:Int)≥2 ^ 63):=by omega
  simp;omega
 have hneg:¬ ((m:Int)<0):=by omega
 have hbig:¬ ((m:Int)*i.bytes>281474976710656):=by
  have:((m*i.bytes:Nat):Int)=(m:Int)*i.bytes:=by simp
  rw [<-this];omega
 have key : ∀ b w',(storeCells (Addr.add b (n * sz)) (Builtin.zeroCells zv.cells m).toList).run P w = .ok () w' -> m * sz = 0 -> w' = w := fun b w' h h0 => by
  have:(Builtin.zeroCells zv.cells m).toList=[]:=by apply List.eq_nil_of_length_eq_zero;rw [zC,hzl,h0]
  rw [this] at h;simp [storeCells] at h;exact h.symm
 by_cases h0:m*sz=0
 . cases base with
   | none =>subst hst;simp [Builtin.append_,run_underlying hu,run_underlying hu2,qf ht,asInt,asIntOf,hw,hneg,typeInfo,hi,hbig,hle,h0]
   | some b =>have:=key b w' hst h0;subst this;simp [Builtin.append_,run_underlying hu,run_underlying hu2,qf ht,asInt,asIntOf,hw,hneg,typeInfo,hi,hbig,hle,h0,storeCells]
 cases base with
 | none =>subst hst;simp [Builtin.append_,run_underlying hu,run_underlying hu2,qf ht,asInt,asIntOf,hw,hneg,typeInfo,hi,hbig,hle,h0,hz]
 | some b =>simp only at hst;simp [Builtin.append_,run_underlying hu,run_underlying hu2,qf ht,asInt,asIntOf,hw,hneg,typeInfo,hi,hbig,hle,h0,hz,hst]
theorem Xq {ts e ty t2 : TypeId} {k : IntKind} {sz : Nat} (hu : P.underlying ts = some (.slice e)) (hu2 : P.underlying t2 = some (.int k)) {agg} (ht : qE P e = some (agg,sz)) {i : TypeInfo} (hi : P.info? e = some i) {zv : Value}
 (hz:∀ w,(zeroValue e).run P w = .ok zv w) (hzl:zv.cells.size=sz)
 {base:Option Addr} {n m cap:Nat} {old:List Value} (ho:(Builtin.firstCells sz n (.slice base n cap)).run P w.drew = .ok old.toArray w.drew)
 (hlt:cap<n+m) (hb:(n+m)*i.bytes<=140737488355328) (hb2:n+m<=140737488355328) :
 ∃ newCap,n + m <= newCap /\ (Builtin.append_ #[ts,t2] ty #[.slice base n cap,.int .i64 (m : Int)]).run P w =
   .ok (.slice (some ⟨w.heap.size,0,none⟩) (n+m) newCap) (w.drew.alloc (.cells (old.toArray++Builtin.zeroCells zv.cells m++Builtin.zeroCells zv.cells (newCap - (n+m))) e)):=by
 have hw:IntKind.i64.wrap (m:Int)=m:=by
  simp only [IntKind.wrap,IntKind.bits,IntKind.signed];have:(m:Int) % 2 ^ 64=m:=Int.emod_eq_of_lt (by omega) (by omega);simp only [this];have:¬ ((m:Int)≥2 ^ 63):=by omega
  simp;omega
 have hneg:¬ ((m:Int)<0):=by omega
 have hmb:m*i.bytes<=(n+m)*i.bytes:=Nat.mul_le_mul_right _ (by omega)
 have hbig:¬ ((m:Int)*i.bytes>281474976710656):=by
  have:((m*i.bytes:Nat):Int)=(m:Int)*i.bytes:=by simp
  rw [<-this];omega
 have hnle:¬ (n+m<=cap):=by omega
 have hfit:=Wd hlt hb;have h63:¬ ((n:Int)+m>IntKind.i64.max):=by have:IntKind.i64.max=9223372036854775807:=rfl;rw [this];omega
 have h63':¬ (9223372036854775807<(n:Int)+m):=by omega
 refine ⟨(Question.appendCap (n+m) cap e).cut (w.tape w.drawn (Question.appendCap (n+m) cap e)),by simp [Question.cut],?_⟩;by_cases h0:m*sz=0
 . have hz0 : Builtin.zeroCells zv.cells m = #[] := by simp [Builtin.zeroCells,hzl,h0]
   simp [Builtin.append_,run_underlying hu,run_underlying hu2,qf ht,asInt,asIntOf,hw,hneg,typeInfo,hi,hbig,hnle,h0,ho,hfit,h63',Question.forced,hz,newRow,hz0]
   try (intro h;omega)
 simp [Builtin.append_,run_underlying hu,run_underlying hu2,qf ht,asInt,asIntOf,hw,hneg,typeInfo,hi,hbig,hnle,h0,ho,hfit,h63',Question.forced,hz,newRow]
 try (intro h;omega)
theorem qjm {c : Call} {x y} {ts t2 e : TypeId} {k : IntKind} {agg sz bytes i} {z : List AV} {y1 y2 : Opd} {d} (ho : o.op = .call c) (hc : c = { callee := .builtin .append, args := #[x, y], argTypes := #[ts, t2] })
 (hu:P.underlying ts=some (.slice e)) (hu2:P.underlying t2=some (.int k)) (ht:qE P e=some (agg,sz)) (hi:P.info? e=some i) (hib:i.bytes=bytes) (hz:zH P e=some z) (hzl:z.length=sz) (hpc:(z.all AV.isPC)=true)
 (h1:opd x=some y1) (h2:opd y=some y2) (hF:FrOK w g F a) (hok:HeapOK hp g w) (hn:hp new=none)
 (hs:(AOp.appz d sz bytes z y1 y2).sem P (evF F) hp new r ws):VRun P o a w (Post hp g w r ws):=by
 have e1:=qi hF h1;have e2:=qi hF h2;subst hc;obtain ⟨zv,hzr,rfl⟩:=Wq hz;simp at hzl;obtain ⟨m,hm,hs⟩:=hs;rw [hm] at e2;have e2':=zu e2;obtain ⟨hokd,hupdd⟩:=hok.drew;have hzn:(zE m (zv.cells.toList.map AV.ofCell)).length=m*sz:=by rw [zW];simp [hzl]
 have hlist:(Builtin.zeroCells zv.cells m)=(Builtin.zeroCells zv.cells m).toList.toArray:=by simp
 have run:∀ (base:Option Addr) (n cap:Nat) v w',a.eval x = .slice base n cap->(Builtin.append_ #[ts,t2] o.type #[.slice base n cap,.int .i64 (m:Int)]).run P w = .ok v w'->(execOp a.eval o).run P w = .ok (.value v) w':=fun base n cap v w' hx hrun=>by simp [execOp,ho,resolve,invoke,builtin,hx,e2',hrun]
 have arrsz:∀ (old:List Value) (n newCap:Nat),old.length=n*sz->n+m<=newCap->(old.toArray++Builtin.zeroCells zv.cells m++Builtin.zeroCells zv.cells (newCap - (n+m))).size=newCap*sz:=fun old n newCap h hle=>by simp [Builtin.zeroCells,h,hzl];rw [<-Nat.add_mul,<-Nat.add_mul];congr 1;omega
 have grows : ∀ {hp1 : Hp} {wn : List (Nat × HObj)} (ad : Option Addr) (n cap : Nat) (old : List Value) (cs : List AV),a.eval x = .slice ad n cap -> n <= cap -> cap < n + m -> (n + m) * bytes <= 140737488355328 -> n + m <= 140737488355328 ->
  HeapOK hp1 g w.drew->Upd hp g w.drew hp1 g w.drew->hp1 new=none->Hp.write hp wn=Hp.set hp1 new (.cells (cs++zE m (zv.cells.toList.map AV.ofCell)))->cs.length=n*sz->old.length=n*sz ->
  (Builtin.firstCells sz n (.slice ad n cap)).run P w.drew = .ok old.toArray w.drew->(∀ i (hi:i<cs.length),∃ u,old[i]?=some u/\Rep w.drew g false cs[i] u) ->
  VRun P o a w (Post hp g w (.ms new 0 (n+m) sz) wn):=fun {hp1 wn} ad n cap old cs hv hnc0 hlt hb1 hb2 s1 s2 hn1 hwn hcl hol hof hor=>by
  obtain ⟨newCap,hnc,hrun⟩:=Xq (ty:=o.type) hu hu2 ht hi hzr hzl hof hlt (by rw [hib];exact hb1) hb2
  obtain ⟨s3,s4⟩ := s1.alloc_priv (id := new) hn1 (old.toArray ++ Builtin.zeroCells zv.cells m ++ Builtin.zeroCells zv.cells (newCap - (n + m))) e (cs ++ zE m (zv.cells.toList.map AV.ofCell))
   (by rw [arrsz _ n newCap hol hnc];simp [hcl,hzn];rw [<-Nat.add_mul];exact Nat.mul_le_mul_right _ hnc)
   (by rw [hlist];exact jc (by omega) (by rw [zC,hzn,hzl]) hor (fun i hi=>by obtain ⟨u,h1,h2⟩:=JF (w:=w.drew) (g:=g) (p:=false) zv m i hi;exact ⟨u,h1,h2⟩) _)
  refine .of (run _ n cap _ _ hv hrun) ⟨_,?_,by rw [hwn];exact s3,by rw [hwn];exact (hupdd.trans s2).trans s4⟩;have:=Rep.ms (w:=w.drew.alloc (.cells (old.toArray++Builtin.zeroCells zv.cells m++Builtin.zeroCells zv.cells (newCap - (n+m))) e)) (g:=g.home new (.blk w.drew.heap.size 0)) new 0 (n+m) sz w.heap.size 0 newCap _ e (0,0) (by simp [G.home]) hnc (qO _ _) (by rw [arrsz _ n newCap hol hnc];omega);simpa using this
 simp only [zl] at hs;split at hs
 . rename_i full n cs hy;obtain ⟨rfl,hcl,hb1,hb2,hnm,rfl,rfl⟩:=hs;rw [hy] at e1;generalize hv:a.eval x=v at e1;cases e1 with
   | sl _ _ _ _ ad cap us hn' hf hc hrr =>
     have hcap:=hf rfl;subst hcap;by_cases hm0:m=0
     . subst hm0;have hn0:cap=0:=by omega
       subst hn0;have hcs:cs=[]:=List.eq_nil_of_length_eq_zero (by omega);subst hcs;obtain ⟨s1,s2⟩:=hok.virgin hn;refine .of (run ad 0 0 (.slice ad 0 0) w hv ?_) ⟨_,.msz new 0 sz ad .virg (by simp [G.home]),s1,s2⟩;refine Qq (n:=0) (m:=0) (cap:=0) hu hu2 ht hi hzr hzl (Nat.le_refl _) (by omega) (by omega) ?_;cases ad with
       | none=>rfl
       | some b=>simp [Builtin.zeroCells,storeCells]
     have hold:∃ old:List Value, old.length=cap*sz/\(Builtin.firstCells sz cap (.slice ad cap cap)).run P w.drew = .ok old.toArray w.drew/\∀ i (hi:i<cs.length), ∃ u, old[i]?=some u/\Rep w.drew g false cs[i] u:=by
      by_cases h0:cs.length=0
      . refine ⟨[],by simp; omega,?_,fun i hi => by omega⟩;have hk0:cap*sz=0:=by omega
        cases ad with
        | none=>simp [Builtin.firstCells]
        | some b =>simp only [Builtin.firstCells];rw [run_loadCells w.drew _ (cap*sz) (fun _=>undef) (fun j hj=>by omega)];simp [hk0]
      obtain ⟨ad',rfl,hsp,_⟩:=hc 0 (by omega);obtain ⟨b,q,sp⟩:=ad';simp at hsp;subst hsp;refine ⟨(List.range (cap*sz)).map us,by simp,?_,fun i hi=>⟨us i,by simp [show i<cap*sz by omega],((hrr i hi).of).mono hupdd.tr⟩⟩;simp only [Builtin.firstCells];rw [run_loadCells w.drew _ (cap*sz) us (fun j hj=>by obtain ⟨_,e,_,_,h5⟩:=hc j (by omega);cases e;rw [qG];exact h5)]
     obtain ⟨old,hol,hof,hor⟩:=hold;exact grows (hp1:=hp) ad cap cap old cs hv (Nat.le_refl _) (by omega) hb1 hb2 hokd (.refl _ _ _) hn rfl hcl hol hof hor
 . rename_i id off n sz' hy;split at hs
   . rename_i cs hcs;obtain ⟨rfl,hle,hb1,hb2,rfl,rfl⟩:=hs;have hne:id≠new:=fun e=>by subst e;rw [hcs] at hn;cases hn
     rw [hy] at e1;generalize hv:a.eval x=v at e1;cases e1 with
     | ms _ _ _ _ cb dd cap arr ty fz hl hn' hb hsz =>
       obtain ⟨l,q1,q2⟩:=hok.rep id _ hcs;rw [hl] at q1;cases q1;obtain ⟨arr',ty',fz',g1,g2,g3,g4,g5⟩:=q2;rw [hb] at g1;cases g1;by_cases hroom:n+m<=cap
       . have hcapsz : (n + m) * sz' <= cap * sz' := Nat.mul_le_mul_right _ hroom;rw [Nat.add_mul] at hcapsz;have hmb:m*i.bytes<=(n+m)*i.bytes:=Nat.mul_le_mul_right _ (by omega);have hst:=QC (P:=P) (c:=cb) (ty:=ty) (fz:=fz) (dd+off+n*sz') (Builtin.zeroCells zv.cells m).toList 0 arr w hb (by rw [zC,hzl];omega) (fun q hq hq'=>g4 q (by omega) (by rw [zC,hzl] at hq';omega)) (VG (P:=P) (e:=e) (sz:=sz') hpc m);simp only [Nat.add_zero] at hst;have hszA:=Zj arr (dd+off+n*sz') (Builtin.zeroCells zv.cells m).toList (by rw [zC,hzl];omega)
         obtain ⟨s1,s2⟩ := hok.rewrite hcs hl hb (arr' := z7 arr (dd + off + n * sz') (Builtin.zeroCells zv.cells m).toList) hszA (cs' := cs.take (off + n * sz') ++ zE m (zv.cells.toList.map AV.ofCell)) (fun q hq => by rw [q9 _ _ _ (by rw [zC,hzl]; omega),if_pos (by omega)])
          ⟨by rw [hszA]; simp [hzn]; omega,fun j hj => by
           rw [q9 _ _ _ (by rw [zC,hzl];omega)];simp [hzn] at hj;have hk:(cs.take (off+n*sz')).length=off+n*sz':=by simp;omega
           by_cases a1:j<off+n*sz'
           . rw [if_pos (by omega)];obtain ⟨x,hx,hr⟩:=g5 j (by omega);exact ⟨x,hx,by rw [List.getElem_append_left (by omega)];simpa using hr⟩
           rw [if_neg (by omega),if_pos (by rw [zC,hzl];omega)];obtain ⟨u,hu,hr⟩:=JF (w:=w) (g:=g) (p:=false) zv m (j - (off+n*sz')) (by omega);refine ⟨u,by rw [show dd+j - (dd+off+n*sz')=j - (off+n*sz') by omega];exact hu,?_⟩;rw [List.getElem_append_right (by omega)];simp only [hk];exact hr⟩
         obtain ⟨s3,s4⟩:=s1.rename (id:=id) (new:=new) (off:=off) (Hp.set_same _ _ _) hl (by rw [Hp.set_other _ _ (Ne.symm hne)];exact hn) (by simp [hzn];omega);rw [Hp.set_set] at s3 s4;have hview:List.drop off (cs.take (off+n*sz')++zE m (zv.cells.toList.map AV.ofCell))=qy cs off (n*sz')++zE m (zv.cells.toList.map AV.ofCell):=by rw [List.drop_append_of_le_length (by simp;omega),List.drop_take];simp [qy]
         rw [hview] at s3 s4;refine .of (run (some ⟨cb,dd+off,none⟩) n cap (.slice (some ⟨cb,dd+off,none⟩) (n+m) cap) (World.setArr w cb (z7 arr (dd+off+n*sz') (Builtin.zeroCells zv.cells m).toList) ty fz) hv ?_) ⟨_,?_,s3,s2.trans s4⟩
         . exact Qq hu hu2 ht hi hzr hzl hroom (by rw [<-hib] at hb1;omega) (by omega) (by simp only [qG];exact hst)
         have := Rep.ms (w := World.setArr w cb (z7 arr (dd + off + n * sz') (Builtin.zeroCells zv.cells m).toList) ty fz) (g := g.home new (.blk cb (dd + off))) new 0 (n + m) sz' cb (dd + off) cap _ ty fz (by simp [G.home]) hroom
          (Qh w _ ty fz (Array.getElem?_eq_some_iff.1 hb).1) (by rw [hszA];omega)
         simpa using this
       have hold:(Builtin.firstCells sz' n (.slice (some ⟨cb,dd+off,none⟩) n cap)).run P w.drew = .ok ((List.range (n*sz')).map fun j=>arr.getD (dd+off+j) undef).toArray w.drew:=by simp only [Builtin.firstCells];rw [run_loadCells w.drew _ (n*sz') (fun j=>arr.getD (dd+off+j) undef) (fun j hj=>by rw [qG];show World.cell? w _=_;simp [World.cell?,hb,show dd+off+j<arr.size by omega])]
       obtain ⟨s1,s2⟩:=hokd.drop hcs;refine grows _ n cap _ (qy cs off (n*sz')) hv hn' (by omega) hb1 hb2 s1 s2 (by rw [Hp.set_other _ _ (Ne.symm hne)];exact hn) rfl (qD hle) (by simp) hold (fun j hj=>?_);have hj':=hj;rw [qD hle] at hj';obtain ⟨x,hx,hr⟩:=g5 (off+j) (by omega);rw [<-Nat.add_assoc] at hx;exact ⟨x,by simp [hj',hx],by rw [QT hj];exact hr.mono hupdd.tr⟩
     | msz _ _ _ ad l hl =>
       by_cases hm0:m=0
       . subst hm0;obtain ⟨s1,s2⟩:=hok.drop hcs;obtain ⟨s3,s4⟩:=s1.virgin (id:=new) (by rw [Hp.set_other _ _ (Ne.symm hne)];exact hn);have hview:qy cs off (0*sz')++zE 0 (zv.cells.toList.map AV.ofCell)=[]:=by simp [qy,zE]
         simp only [hview];refine .of (run ad 0 0 (.slice ad 0 0) w hv ?_) ⟨_,.msz new 0 sz' ad .virg (by simp [G.home]),s3,s2.trans s4⟩;refine Qq (n:=0) (m:=0) (cap:=0) hu hu2 ht hi hzr hzl (Nat.le_refl _) (by omega) (by omega) ?_;cases ad with
         | none=>rfl
         | some b=>simp [Builtin.zeroCells,storeCells]
       obtain ⟨s1,s2⟩:=hokd.drop hcs;refine grows ad 0 0 [] (qy cs off (0*sz')) hv (Nat.le_refl _) (by omega) hb1 hb2 s1 s2 (by rw [Hp.set_other _ _ (Ne.symm hne)];exact hn) rfl (qD hle) (by simp) ?_ (fun j hj=>by simp [qy] at hj);cases ad with
       | none=>simp [Builtin.firstCells]
       | some b =>simp only [Builtin.firstCells];rw [run_loadCells w.drew _ (0*sz') (fun _=>undef) (fun j hj=>by omega)];simp
   exact hs.elim
 . rename_i id off n c sz' hy;split at hs
   . rename_i cs hcs;obtain ⟨rfl,hle,hb1,hb2,hs⟩:=hs;have hne:id≠new:=fun e=>by subst e;rw [hcs] at hn;cases hn
     rw [hy] at e1;rcases hs with ⟨hroom,hle2,rfl,rfl⟩ | ⟨hlt,rfl,rfl⟩
     . generalize hv:a.eval x=v at e1;have hmb:m*i.bytes<=(n+m)*i.bytes:=Nat.mul_le_mul_right _ (by omega);rw [<-hib] at hb1;cases e1 with
       | mc _ _ _ _ _ cb dd arr ty fz hl hn' hb hsz =>
         obtain ⟨l,q1,q2⟩:=hok.rep id _ hcs;rw [hl] at q1;cases q1;obtain ⟨arr',ty',fz',g1,g2,g3,g4,g5⟩:=q2;rw [hb] at g1;cases g1;have hsum:(n+m)*sz'=n*sz'+m*sz':=Nat.add_mul _ _ _;obtain ⟨w',s1,s2,s3⟩:=hok.store (P:=P) hcs hl (off+n*sz') (Builtin.zeroCells zv.cells m).toList (zE m (zv.cells.toList.map AV.ofCell)) (by rw [zC,hzn,hzl]) (by omega) (VG (P:=P) (e:=e) (sz:=sz') hpc m) (JF zv m);refine .of (run (some ⟨cb,dd+off,none⟩) n c (.slice (some ⟨cb,dd+off,none⟩) (n+m) c) w' hv ?_) ⟨g,?_,s2,s3⟩
         . exact Qq hu hu2 ht hi hzr hzl hroom (by omega) (by omega) (by simp only [qG,Nat.add_assoc];exact s1)
         obtain ⟨arr2,k1,k2⟩:=s3.tr.shp _ _ _ _ hb;exact .mc _ _ _ _ _ cb dd arr2 ty fz hl hroom k1 (by omega)
       | mcz _ _ _ ad l hl =>
         have hm0:m=0:=by omega
         subst hm0
         have hw0:Hp.write hp [(id,.cells (splice cs (off+0*sz') (zE 0 (zv.cells.toList.map AV.ofCell))))]=hp:=by
          have:splice cs (off+0*sz') (zE 0 (zv.cells.toList.map AV.ofCell))=cs:=by simp [splice,zE]
          rw [this];exact Hp.set_self hp hcs
         refine .of (run ad 0 0 (.slice ad 0 0) w hv ?_) ⟨g,.mcz _ _ _ _ _ hl,by rw [hw0];exact hok,by rw [hw0];exact .refl _ _ _⟩;refine Qq (n:=0) (m:=0) (cap:=0) hu hu2 ht hi hzr hzl (Nat.le_refl _) (by omega) (by omega) ?_;cases ad with
         | none=>rfl
         | some b=>simp [Builtin.zeroCells,storeCells]
     generalize hv:a.eval x=v at e1;cases e1 with
     | mc _ _ _ _ _ cb dd arr ty fz hl hn' hb hsz =>
       obtain ⟨l,q1,q2⟩:=hok.rep id _ hcs;rw [hl] at q1;cases q1;obtain ⟨arr',ty',fz',g1,g2,g3,g4,g5⟩:=q2;rw [hb] at g1;cases g1;refine grows (some ⟨cb,dd+off,none⟩) n c ((List.range (n*sz')).map fun j=>arr.getD (dd+off+j) undef) (qy cs off (n*sz')) hv hn' hlt hb1 hb2 hokd (.refl _ _ _) hn rfl (qD hle) (by simp) ?_ (fun j hj=>?_)
       . simp only [Builtin.firstCells];rw [run_loadCells w.drew _ (n*sz') (fun j=>arr.getD (dd+off+j) undef) (fun j hj=>by rw [qG];show World.cell? w _=_;simp [World.cell?,hb,show dd+off+j<arr.size by omega])]
       have hj':=hj;rw [qD hle] at hj';obtain ⟨x,hx,hr⟩:=g5 (off+j) (by omega);rw [<-Nat.add_assoc] at hx;exact ⟨x,by simp [hj',hx],by rw [QT hj];exact hr.mono hupdd.tr⟩
     | mcz _ _ _ ad l hl =>
       refine grows ad 0 0 [] (qy cs off (0*sz')) hv (Nat.le_refl _) hlt hb1 hb2 hokd (.refl _ _ _) hn rfl (qD hle) (by simp) ?_ (fun j hj=>by simp [qy] at hj);cases ad with
       | none=>simp [Builtin.firstCells]
       | some b =>simp only [Builtin.firstCells];rw [run_loadCells w.drew _ (0*sz') (fun _=>undef) (fun j hj=>by omega)];simp
   exact hs.elim
 exact hs.elim
theorem qgJ {t x tp e lo hi mx} {lo' hi' mx' : Option Opd} {agg sz ln} {y1 : Opd} {d} (ho : o.op = .slice t x lo hi mx) (hu : (P.underlying t = some (.pointer tp) /\ P.underlying tp = some (.array ln e)) \/ P.underlying t = some (.array ln e)) (ht : qE P e = some (agg, sz))
 (h1:opd x=some y1) (hlo:VM lo lo') (hhi:VM hi hi') (hmx:VM mx mx') (hF:FrOK w g F a) (hok:HeapOK hp g w)
 (hs:(AOp.slp d sz ln y1 lo' hi' mx').sem P (evF F) hp new r ws):VRun P o a w (Post hp g w r ws):=by
 have e1:=qi hF h1
 have key : ∀ b q l h m,a.eval x = .pointer (some ⟨b,q,none⟩) -> (Instr.sliceBounds false ln ln (lo.map a.eval) (hi.map a.eval) (mx.map a.eval)).run P w = .ok (l,h,m) w ->
  (execOp a.eval o).run P w = .ok (.value (.slice (some (if m=l then ⟨b,q,none⟩ else ⟨b,q+l*sz,none⟩)) (h - l) (m - l))) w:=fun b q l h m hv hb=>by
  rcases hu with ⟨hu,hup⟩ | hu
  . simp [execOp,ho,hv,Instr.sliceAt,Instr.slice,run_underlying hu,run_underlying hup,qf ht,hb,asAddr,qG]
  simp [execOp,ho,hv,Instr.sliceAt,run_underlying hu,qf ht,hb,Instr.sureAddr,qG]
 simp only [AOp.sem] at hs;split at hs
 . rename_i id off hy;split at hs
   . rename_i cs hcs;obtain ⟨l,h,m,hl,hh,hm,hlh,hhm,hmc,hle,rfl,rfl⟩:=hs;rw [hy] at e1;have L:=qQ hlo hF hl;have H:=qQ hhi hF hh
     have bnds:(Instr.sliceBounds false ln ln (lo.map a.eval) (hi.map a.eval) (mx.map a.eval)).run P w = .ok (l, h, m) w:=by
      have M:(mx.map a.eval=none/\m=ln)\/(mx.map a.eval=some (.int .i64 m)/\hi'.isSome=true):=by
       cases hmx':mx' with
       | none =>
         rw [hmx'] at hm hmx;cases hmx'':mx with
         | some z=>rw [hmx''] at hmx;exact hmx.elim
         | none=>exact .inl ⟨by simp,hm⟩
       | some y =>
         rw [hmx'] at hm;obtain ⟨hy',hsome⟩:=hm;have M:=qQ (l:=m) (dflt:=0) hmx hF (by rw [hmx'];simpa using hy');rcases M with ⟨a1,a2,a3⟩ | ⟨a1,_⟩
         . rw [hmx'] at a3;cases a3
         exact .inr ⟨a1,by simpa using hsome⟩
      refine Qx ?_ ?_ (M.imp (fun h=>h) And.left) hlh hhm hmc
      . rcases L with ⟨a1,a2,_⟩ | ⟨a1,_⟩
        . exact .inl ⟨a1,a2⟩
        exact .inr a1
      rcases H with ⟨a1,a2,a3⟩ | ⟨a1,_⟩
      . rcases M with ⟨m1,_⟩ | ⟨_,m2⟩
        . exact .inl ⟨a1,a2,m1⟩
        rw [a3] at m2;simp at m2
      exact .inr a1
     generalize hv:a.eval x=v at e1;cases e1 with
     | ref _ _ c dd hl' =>
       obtain ⟨l0,q1,q2⟩:=hok.rep id _ hcs;rw [hl'] at q1;cases q1;obtain ⟨arr,ty,fz,g1,g2,_⟩:=q2;refine .of (key _ _ _ _ _ hv bnds) (.nil hok ?_);by_cases e:m=l
       . have z1 : h - l = 0 := by omega
         have z2:m - l=0:=by omega
         rw [if_pos e,z1,z2];exact .mcz _ _ _ _ _ hl'
       rw [if_neg e];have hml:l*sz+(m - l)*sz=m*sz:=by rw [<-Nat.add_mul];congr 1;omega
       have hmln:m*sz<=ln*sz:=Nat.mul_le_mul_right _ hmc;have:=Rep.mc (w:=w) (g:=g) id (off+l*sz) (h - l) (m - l) sz c dd arr ty fz hl' (by omega) g1 (by omega);rw [<-Nat.add_assoc] at this;exact this
   exact hs.elim
 . rename_i cs off hy;obtain ⟨l,h,hl,hh,hmn,hlh,hhl,hle,rfl,rfl⟩:=hs;subst hmn
   have hmx0:mx=none:=by cases mx with
    | none=>rfl
    | some z=>exact hmx.elim
   subst hmx0;rw [hy] at e1;have L:=qQ hlo hF hl;have H:=qQ hhi hF hh
   have bnds:(Instr.sliceBounds false ln ln (lo.map a.eval) (hi.map a.eval) (Option.map a.eval none)).run P w = .ok (l,h,ln) w:=by
    refine Qx ?_ ?_ (.inl ⟨rfl,rfl⟩) hlh hhl (Nat.le_refl _)
    . rcases L with ⟨a1,a2,_⟩ | ⟨a1,_⟩
      . exact .inl ⟨a1,a2⟩
      exact .inr a1
    rcases H with ⟨a1,a2,a3⟩ | ⟨a1,_⟩
    . exact .inl ⟨a1,a2,rfl⟩
    exact .inr a1
   generalize hv:a.eval x=v at e1;cases e1 with
   | ptr _ _ _ b q vs hc hr =>
     refine .of (key _ _ _ _ _ hv bnds) (.nil hok ?_)
     have hbnd:off+l*sz+(h - l)*sz<=cs.length:=by
      have:l*sz+(h - l)*sz=h*sz:=by rw [<-Nat.add_mul];congr 1;omega
      have:h*sz<=ln*sz:=Nat.mul_le_mul_right _ hhl;omega
     refine .sl _ _ _ _ _ _ (fun i=>vs (off+l*sz+i)) (by omega) (fun e=>by simp at e;omega) (fun i hi=>?_) (fun i hi=>?_)
     . rw [qD hbnd] at hi
       have hml : ¬ ln = l := fun e => by
        have:h - l=0:=by omega
        rw [this] at hi;simp at hi
       rw [if_neg hml];obtain ⟨c1,c2⟩:=hc (off+l*sz+i) (by omega);exact ⟨_,rfl,rfl,by simpa [Nat.add_assoc] using c1,by simpa [Nat.add_assoc] using c2⟩
     have hi':=hi;rw [qD hbnd] at hi';rw [QT hi];exact hr _ (by omega)
 exact hs.elim
theorem qc8 {w:World} {b q:Nat} {v:Value} (h:w.cell? ⟨b,q,none⟩=some v):∃ (arr:Array Value) (ty:TypeId) (fz:Nat × Nat),w.heap[b]?=some (.cells arr ty fz)/\q<arr.size:=by
 unfold World.cell? at h;cases ho:w.heap[b]? with
 | none=>simp [ho] at h
 | some o =>
   cases o with
   | cells arr ty fz =>simp only [ho,Option.isSome_none,Bool.false_eq_true,if_false] at h;exact ⟨arr,ty,fz,rfl,(Array.getElem?_eq_some_iff.1 h).1⟩
   | _=>simp [ho] at h
theorem qaa {tS tR : TypeId} (b1 b2 : Option Addr) (m n c1 c2 : Nat) : Extern.SlicesOverlaps.overlaps #[tS,tS] #[tR] #[.slice b1 m c1,.slice b2 n c2] = (do
 let some t := (#[tS, tS] : Array TypeId)[0]? | stuck "slices.overlaps: no parameter types"
 let .slice elem ← underlying t | stuck "slices.overlaps: slice type expected"
 let size <-sizeOf elem
 match b1,b2 with
 | some a,some b =>
   if m=0\/n=0\/size=0 then pure (Value.bool false)
   else if a.block != b.block&&(<-frozen a)&&(<-frozen b) then unsupported .addressObserved
   else do
    if a.block != b.block then do
     noView a;noView b
     if ← mayBeOne a b then return Value.bool ((← choose (.extern "sameAddr.stringBytes" 2)) == 1)
    pure (Value.bool (a.block==b.block&&a.off<b.off+n*size&&b.off<a.off+m*size))
 | _,_=>pure (Value.bool false)):=rfl
theorem qnA {tS tR e : TypeId} (ht : P.underlying tS = some (.slice e)) {sz : Nat} (hz : ∀ w,(sizeOf e).run P w = .ok sz w) {m n cap cap2 q d0 off b c : Nat} {arr arr2 : Array Value} {ty fz ty2 fz2}
 (h1:w.heap[b]?=some (.cells arr ty fz)) (h1s:0<arr.size) (h2:w.heap[c]?=some (.cells arr2 ty2 fz2)) (hd:d0<=arr2.size) (hdo:d0+off<=arr2.size) (hfz:∀ o,d0<=o->o<=arr2.size->w.frozen? ⟨c,o,none⟩=false)
 (hsame:b=c->q+m*sz<=d0) :
 (Extern.SlicesOverlaps.overlaps #[tS,tS] #[tR] #[.slice (some ⟨b,q,none⟩) m cap,.slice (some ⟨c,d0+off,none⟩) n cap2]).run P w = .ok (.bool false) w:=by
 rw [qaa];by_cases h0:m=0\/n=0\/sz=0
 . simp [run_underlying ht,hz,h0]
 have hs1:w.shape? b=some (ty,arr.size):=by simp [World.shape?,h1]
 have hs2:w.shape? c=some (ty2,arr2.size):=by simp [World.shape?,h2]
 have hf1:=hfz (d0+off) (by omega) hdo;have hf2:=hfz arr2.size hd (Nat.le_refl _);by_cases hbc:b=c
 . subst hbc;have hlt:¬ (d0+off<q+m*sz):=by have:=hsame rfl;omega
   simp [run_underlying ht,hz,h0,hlt]
 have hz0:∃ k,arr.size=k+1:=⟨arr.size - 1,by omega⟩;obtain ⟨k,hk⟩:=hz0;rw [hk] at hs1;have hf3:(if h:arr2.size<arr2.size then (0:Nat) else 0)=0:=by simp
 cases ha : w.frozen? ⟨b,q,none⟩ <;> cases hb : w.frozen? ⟨b,k + 1,none⟩ <;>
  simp [run_underlying ht,hz,h0,hbc,frozen,noView,viewAt,mayBeOne,stringish,shape,Sem.run,hs1,hs2,hf1,hf2,ha,hb]
def qcP (P:Program) (f:FuncId) (xs:List AV) (hp:Hp) (r:AV):Prop :=
 ∀ (w:World) (g:G) (vs:Array Value),HeapOK hp g w->vs.size=xs.length->(∀ i (h:i<xs.length),Rep w g false xs[i] (vs.getD i undef))->∃ v,(callFunc f vs).run P w = .ok (.value v) w/\Rep w g false r v
theorem qms {f : FuncId} {fn : Func} {tS tR e : TypeId} {agg sz}
 (hf : P.funcs[f]? = some fn) (hname : (fn.name == "runtime.NumGoroutine") = false) (hb : fn.body.isNone = true) (hn : Extern.findNext fn = none) (he : Extern.find fn = some (Extern.SlicesOverlaps.overlaps #[tS, tS] #[tR]))
 (hu:P.underlying tS=some (.slice e)) (ht:qE P e=some (agg,sz)) {full:Bool} {m:Nat} {cs:List AV} {id off n:Nat} {bs:List AV} (hcl:cs.length=m*sz) (hbs:hp id=some (.cells bs)) {y:AV} (hy:y = .ms id off n sz\/∃ c,y = .mc id off n c sz) :
 qcP P f [.sl full m cs,y] hp (B false):=by
 intro w g vs hok hvs hrep;have e1:=hrep 0 (by simp);have e2:=hrep 1 (by simp);simp only [List.getElem_cons_zero,List.getElem_cons_succ] at e1 e2
 obtain ⟨v0,v1,rfl⟩:∃ v0 v1,vs=#[v0,v1]:=by
  have h2:vs.size=2:=by simpa using hvs
  refine ⟨vs[0],vs[1],?_⟩;apply Array.ext (by simp [h2]);intro i hi1 hi2
  match i,hi2 with
  | 0,_=>rfl
  | 1,_=>rfl
 have e3:Rep w g false (.ms id off n sz) v1:=by
  rcases hy with rfl | ⟨c,rfl⟩
  . exact e2
  exact Xb e2
 have e4:Rep w g false (.sl full m cs) v0:=e1;clear e1 e2 hrep hvs
 have fin : ∀ b1 m c1 b2 n c2,v0 = .slice b1 m c1 -> v1 = .slice b2 n c2 -> (Extern.SlicesOverlaps.overlaps #[tS,tS] #[tR] #[.slice b1 m c1,.slice b2 n c2]).run P w = .ok (.bool false) w ->
  ∃ v,(callFunc f #[v0,v1]).run P w = .ok (.value v) w/\Rep w g false (B false) v:=fun b1 m c1 b2 n c2 hx hy hr=>by
  refine ⟨.bool false,?_,.v _ _⟩;rw [hx,hy,run_callFunc_extern hf hname hb hn he,hr];rfl
 have triv : ∀ (b1 b2 : Option Addr) m c1 n c2, (b1 = none \/ b2 = none \/ m = 0 \/ n = 0) -> (Extern.SlicesOverlaps.overlaps #[tS, tS] #[tR] #[.slice b1 m c1, .slice b2 n c2]).run P w = .ok (.bool false) w := fun b1 b2 m c1 n c2 h => by
  cases b1 with
  | none=>cases b2 <;> simp [qaa,run_underlying hu,qf ht]
  | some b1=>cases b2 with
    | none=>simp [qaa,run_underlying hu,qf ht]
    | some b2 =>
      have:m=0\/n=0:=by simpa using h
      have h0:m=0\/n=0\/sz=0:=by rcases this with h | h <;> simp [h]
      simp [qaa,run_underlying hu,qf ht,h0]
 cases e4 with
 | sl _ _ _ _ ad cap vs hn' hf' hcc hrr =>
   cases e3 with
   | msz _ _ _ ad2 l hl=>exact fin _ _ _ _ _ _ rfl rfl (triv _ _ _ _ _ _ (.inr (.inr (.inr rfl))))
   | ms _ _ _ _ cb dd cap2 arr2 ty2 fz2 hl hn2 hb2 hsz2 =>
     by_cases h0:cs.length=0
     . rw [hcl] at h0;rcases Nat.mul_eq_zero.1 h0 with h0 | h0
       . subst h0;exact fin _ _ _ _ _ _ rfl rfl (triv _ _ _ _ _ _ (.inr (.inr (.inl rfl))))
       subst h0;refine fin _ _ _ _ _ _ rfl rfl ?_;cases ad with
       | none=>exact triv _ _ _ _ _ _ (.inl rfl)
       | some b1=>simp [qaa,run_underlying hu,qf ht]
     obtain ⟨ad',rfl,hsp,hS0,hc0⟩:=hcc 0 (by omega);obtain ⟨b,q,sp⟩:=ad';simp at hsp;subst hsp;simp only [Nat.add_zero] at hc0;obtain ⟨arr,ty,fz,k1,k2⟩:=qc8 hc0;obtain ⟨l,q1,q2⟩:=hok.rep id _ hbs;rw [hl] at q1;cases q1;obtain ⟨arr',ty',fz',g1,g2,g3,g4,g5⟩:=q2;rw [hb2] at g1;cases g1;refine fin _ _ _ _ _ _ rfl rfl (qnA hu (fun w=>qf ht w) k1 (by omega) hb2 (by omega) (by omega) g4 (fun e=>?_));subst e;rcases Nat.lt_or_ge dd (q+m*sz) with hlt | hge
     . exfalso;have hdq : ¬ dd <= q := fun h => by exact g3 q h (by simpa using hS0)
       obtain ⟨_,e,_,hS,_⟩:=hcc (dd - q) (by omega);cases e;exact g3 dd (Nat.le_refl _) (by rw [show q+(dd - q)=dd by omega] at hS;exact hS)
     exact hge
end
end Go.AM
