/-
  Kn1: texts joined: Am0 Am1 Am2 Am3 Am4 Am5 Am6 Am7 Am8 Am9 Am10 Am10a. Own work.
-/
import Derived.WalkKit
import Derived.Lib.ItoaNum
import Derived.RangeFuncIn
import Derived.OrdersIn
import Derived.Laws.Externs
set_option linter.all false
set_option linter.unusedSimpArgs false
set_option linter.unusedVariables false
set_option linter.unusedSectionVars false

namespace Go.AM
def qrP:List (Nat × Nat × (Nat→Value→Prop)):=[(0,20,fun i v=>v = .int .u64 (Lib.pow10Tab.getD i 0)),(2,1,fun _ v=>∃ te pe,v = .iface te pe),(3,1,fun _ v=>∃ te pe,v = .iface te pe)]
inductive AV where
 | v (x:Value)
 | sl (full:Bool) (n:Nat) (cs:List AV)
 | agg (cs:List AV)
 | tup (vs:List AV)
 | ptr (cs:List AV) (off:Nat)
 | ref (id off:Nat)
 | ms (id off n sz:Nat)
 | fn (f:Fn) (first caps:List AV)
 | mp (id:Nat)
 | mc (id off n c sz:Nat)
 | yl (id:Nat)
 | any
 deriving Inhabited
inductive Loc where
 | virg
 | blk (c d:Nat)
 | base (L:Loop)
structure G where
 S:Nat→Nat→Prop
 ρ:Nat→Option Loc
inductive LpSt where
 | ready | busy
 | done (j:Option Nat)
 | over (j:Option (Option Nat))
 deriving Inhabited
def LpSt.state : LpSt → LoopState
 | .ready => .ready
 | .busy => .busy
 | .done _ => .done
 | .over _ => .exhausted
def LpSt.pend : LpSt → Option Code
 | .done none=>some .ret
 | .done (some id) | .over (some (some id))=>some (.exit id)
 | .over (some none)=>some .ret
 | _=>none
inductive HObj where
 | cells (cs:List AV)
 | mp (es:List (Value × Nat × AV)) (clock:Nat)
 | mpp (Φ:List (Value × Nat × AV)→Nat→Prop)
 | it (m since:Nat) (seen:List Nat) (stepped:Nat)
 | lp (s:LpSt) (mk:Nat)
 | gone
 deriving Inhabited
abbrev Hp:=Nat→Option HObj
inductive Rep (w : World) (g : G) : Bool → AV → Value → Prop
 | v (p:Bool) (x:Value):Rep w g p (.v x) x
 | any (p:Bool) (x:Value):Rep w g p .any x
 | sl (p full : Bool) (n : Nat) (cs : List AV) (a : Option Addr) (cap : Nat) (vs : Nat → Value)
  (hn:n≤cap) (hf:full=true→cap=n)
  (hc:∀ i,i<cs.length→∃ ad,a=some ad∧ad.spot=none∧g.S ad.block (ad.off+i)∧w.cell? ⟨ad.block,ad.off+i,none⟩=some (vs i))
  (hr:∀ i (h:i<cs.length),Rep w g true cs[i] (vs i)):Rep w g p (.sl full n cs) (.slice a n cap)
 | agg (p : Bool) (cs : List AV) (vs : List Value) (hl : vs.length = cs.length)
  (hr:∀ i (h:i<cs.length),Rep w g p cs[i] (vs.getD i undef)):Rep w g p (.agg cs) (.agg vs.toArray)
 | tup (p : Bool) (cs : List AV) (vs : List Value) (hl : vs.length = cs.length)
  (hr:∀ i (h:i<cs.length),Rep w g p cs[i] (vs.getD i undef)):Rep w g p (.tup cs) (.tuple vs.toArray)
 | ptr (p : Bool) (cs : List AV) (off b o : Nat) (vs : Nat → Value)
  (hc:∀ i,i<cs.length→g.S b (o+i)∧w.cell? ⟨b,o+i,none⟩=some (vs i))
  (hr:∀ i (h:i<cs.length),Rep w g true cs[i] (vs i)):Rep w g p (.ptr cs off) (.pointer (some ⟨b,o+off,none⟩))
 | ref (id off c d:Nat) (hl:g.ρ id=some (.blk c d)):Rep w g false (.ref id off) (.pointer (some ⟨c,d+off,none⟩))
 | ms (id off n sz c d cap : Nat) (arr : Array Value) (ty : TypeId) (fz : Nat × Nat) (hl : g.ρ id = some (.blk c d)) (hn : n ≤ cap)
  (hb:w.heap[c]?=some (.cells arr ty fz)) (hs:d+off+cap*sz≤arr.size):Rep w g false (.ms id off n sz) (.slice (some ⟨c,d+off,none⟩) n cap)
 | msz (id off sz:Nat) (a:Option Addr) (l:Loc) (hl:g.ρ id=some l):Rep w g false (.ms id off 0 sz) (.slice a 0 0)
 | fn (p : Bool) (f : Fn) (as bs : List AV) (xs ys : List Value) (hl : xs.length = as.length) (hl' : ys.length = bs.length)
  (hr:∀ i (h:i<as.length),Rep w g p as[i] (xs.getD i undef))
  (hr':∀ i (h:i<bs.length),Rep w g p bs[i] (ys.getD i undef)):Rep w g p (.fn f as bs) (.func f xs.toArray ys.toArray)
 | mp (id c d:Nat) (hl:g.ρ id=some (.blk c d)):Rep w g false (.mp id) (.map (some c))
 | mc (id off n cap sz c d : Nat) (arr : Array Value) (ty : TypeId) (fz : Nat × Nat) (hl : g.ρ id = some (.blk c d)) (hn : n ≤ cap)
  (hb:w.heap[c]?=some (.cells arr ty fz)) (hs:d+off+cap*sz≤arr.size):Rep w g false (.mc id off n cap sz) (.slice (some ⟨c,d+off,none⟩) n cap)
 | mcz (id off sz:Nat) (a:Option Addr) (l:Loc) (hl:g.ρ id=some l):Rep w g false (.mc id off 0 0 sz) (.slice a 0 0)
 | yl (id c:Nat) (hl:g.ρ id=some (.blk c 0)):Rep w g false (.yl id) (.func (.yield c) #[] #[])
@[simp] abbrev qjF (_:World):Nat:=0
structure Trans (w:World) (g:G) (w':World) (g':G):Prop where
 S:∀ b o,g.S b o→g'.S b o
 cell:∀ b o,g.S b o→w'.cell? ⟨b,o,none⟩=w.cell? ⟨b,o,none⟩
 ρ:∀ id l,g.ρ id=some l→g'.ρ id=some l
 shp:∀ (b:Nat) (arr:Array Value) ty fz,w.heap[b]?=some (.cells arr ty fz)→∃ arr':Array Value,w'.heap[b]?=some (.cells arr' ty fz)∧arr'.size=arr.size
 os:w'.os=w.os
 tape:w'.tape=w.tape
 output:w'.output=w.output
 size:w.heap.size≤w'.heap.size
 drawn:qjF w≤qjF w'
theorem Trans.refl (w:World) (g:G):Trans w g w g:=⟨fun _ _ h=>h,fun _ _ _=>rfl,fun _ _ h=>h,fun _ arr _ _ h=>⟨arr,h,rfl⟩,rfl,rfl,rfl,Nat.le_refl _,Nat.le_refl _⟩
theorem Trans.trans {w g w' g' w'' g''} (h:Trans w g w' g') (k:Trans w' g' w'' g''):Trans w g w'' g'' :=
 ⟨fun b o x => k.S b o (h.S b o x),fun b o x => (k.cell b o (h.S b o x)).trans (h.cell b o x),fun i l x => k.ρ i l (h.ρ i l x),
  fun b arr ty fz x => by
   obtain ⟨a1,h1,h2⟩:=h.shp b arr ty fz x
   obtain ⟨a2,h3,h4⟩:=k.shp b a1 ty fz h1
   exact ⟨a2,h3,h4.trans h2⟩,
  k.os.trans h.os,k.tape.trans h.tape,k.output.trans h.output,Nat.le_trans h.size k.size,Nat.le_trans h.drawn k.drawn⟩
theorem Rep.mono {w g w' g'} (t:Trans w g w' g') {p x v} (h:Rep w g p x v):Rep w' g' p x v:=by
 induction h with
 | v p x=>exact .v p x
 | any p x=>exact .any p x
 | sl p full n cs a cap vs hn hf hc hr ih =>
   exact .sl p full n cs a cap vs hn hf (fun i hi => by
    obtain ⟨ad,h1,h2,h3,h4⟩:=hc i hi
    exact ⟨ad,h1,h2,t.S _ _ h3,(t.cell _ _ h3).trans h4⟩) ih
 | agg p cs vs hl hr ih=>exact .agg p cs vs hl ih
 | tup p cs vs hl hr ih=>exact .tup p cs vs hl ih
 | ptr p cs off b o vs hc hr ih=>exact .ptr p cs off b o vs (fun i hi=>⟨t.S _ _ (hc i hi).1,(t.cell _ _ (hc i hi).1).trans (hc i hi).2⟩) ih
 | ref id off c d hl=>exact .ref id off c d (t.ρ _ _ hl)
 | ms id off n sz c d cap arr ty fz hl hn hb hs =>
   obtain ⟨arr',h1,h2⟩:=t.shp _ _ _ _ hb
   exact .ms id off n sz c d cap arr' ty fz (t.ρ _ _ hl) hn h1 (by omega)
 | msz id off sz a l hl=>exact .msz id off sz a l (t.ρ _ _ hl)
 | fn p f as bs xs ys hl hl' hr hr' ih ih'=>exact .fn p f as bs xs ys hl hl' ih ih'
 | mp id c d hl=>exact .mp id c d (t.ρ _ _ hl)
 | mc id off n cap sz c d arr ty fz hl hn hb hs =>
   obtain ⟨arr',h1,h2⟩:=t.shp _ _ _ _ hb
   exact .mc id off n cap sz c d arr' ty fz (t.ρ _ _ hl) hn h1 (by omega)
 | mcz id off sz a l hl=>exact .mcz id off sz a l (t.ρ _ _ hl)
 | yl id c hl=>exact .yl id c (t.ρ _ _ hl)
theorem Rep.pure {w g} {p x v} (h:Rep w g p x v) (hp:p=true) (ρ':Nat→Option Loc):Rep w { g with ρ:=ρ' } true x v:=by
 induction h with
 | v p x=>exact .v _ x
 | any p x=>exact .any _ x
 | sl p full n cs a cap vs hn hf hc hr ih=>exact .sl _ full n cs a cap vs hn hf hc (fun i h=>ih i h rfl)
 | agg p cs vs hl hr ih=>exact .agg _ cs vs hl (fun i h=>ih i h hp)
 | tup p cs vs hl hr ih=>exact .tup _ cs vs hl (fun i h=>ih i h hp)
 | ptr p cs off b o vs hc hr ih=>exact .ptr _ cs off b o vs hc (fun i h=>ih i h rfl)
 | ref id off c d hl=>cases hp
 | ms id off n sz c d cap arr ty fz hl hn hb hs=>cases hp
 | msz id off sz a l hl=>cases hp
 | fn p f as bs xs ys hl hl' hr hr' ih ih'=>exact .fn _ f as bs xs ys hl hl' (fun i h=>ih i h hp) (fun i h=>ih' i h hp)
 | mp id c d hl=>cases hp
 | mc=>cases hp
 | mcz=>cases hp
 | yl=>cases hp
theorem Rep.weak {w g} {p x v} (h:Rep w g p x v) (hp:p=true):Rep w g false x v:=by
 induction h with
 | v p x=>exact .v _ x
 | any p x=>exact .any _ x
 | sl p full n cs a cap vs hn hf hc hr ih=>exact .sl _ full n cs a cap vs hn hf hc hr
 | agg p cs vs hl hr ih=>exact .agg _ cs vs hl (fun i h=>ih i h hp)
 | tup p cs vs hl hr ih=>exact .tup _ cs vs hl (fun i h=>ih i h hp)
 | ptr p cs off b o vs hc hr ih=>exact .ptr _ cs off b o vs hc hr
 | ref id off c d hl=>cases hp
 | ms id off n sz c d cap arr ty fz hl hn hb hs=>cases hp
 | msz id off sz a l hl=>cases hp
 | fn p f as bs xs ys hl hl' hr hr' ih ih'=>exact .fn _ f as bs xs ys hl hl' (fun i h=>ih i h hp) (fun i h=>ih' i h hp)
 | mp id c d hl=>cases hp
 | mc=>cases hp
 | mcz=>cases hp
 | yl=>cases hp
theorem Rep.of {w g} {p x v} (h:Rep w g p x v):Rep w g false x v:=by
 cases p with
 | false=>exact h
 | true=>exact h.weak rfl
def HRep (w : World) (g : G) : HObj → Loc → Prop
 | .gone,_=>True
 | .cells cs,.virg=>cs=[]
 | .cells cs,.blk c d => ∃ (arr : Array Value) (ty : TypeId) (fz : Nat × Nat),w.heap[c]? = some (.cells arr ty fz) ∧ d + cs.length ≤ arr.size ∧
  (∀ o,d≤o→¬ g.S c o)∧(∀ o,d≤o→o≤arr.size→w.frozen? ⟨c,o,none⟩=false) ∧
  (∀ i (h:i<cs.length),∃ x,arr[d+i]?=some x∧Rep w g false cs[i] x)
 | .mp es clock,.blk c d => ∃ (ents : Array MapEntry),w.heap[c]? = some (.map ents clock) ∧ ents.size = es.length ∧ d = 0 ∧ (∀ o,¬ g.S c o) ∧
  (∀ i (h:i<es.length),∃ e,ents[i]?=some e∧e.key=es[i].1∧e.born=es[i].2.1∧Rep w g false es[i].2.2 e.val)
 | .mpp Φ,.blk c d => ∃ es clock,Φ es clock ∧ ∃ (ents : Array MapEntry),w.heap[c]? = some (.map ents clock) ∧ ents.size = es.length ∧ d = 0 ∧ (∀ o,¬ g.S c o) ∧
  (∀ i (h:i<es.length),∃ e,ents[i]?=some e∧e.key=es[i].1∧e.born=es[i].2.1∧Rep w g false es[i].2.2 e.val)
 | .it m since seen stepped,.blk c d=>∃ mb,w.heap[c]?=some (.mapIter (some mb) since seen.toArray stepped)∧g.ρ m=some (.blk mb 0)∧d=0∧∀ o,¬ g.S c o
 | .lp s mk,.blk c d=>∃ L,g.ρ mk=some (.base L)∧w.heap[c]?=some (.loop { L with state:=s.state,pending:=s.pend })∧d=0∧∀ o,¬ g.S c o
 | _,.virg=>False
 | _,.base _=>False
def HObj.live : HObj → Bool
 | .gone=>false
 | _=>true
def qno (hp:Hp) (g:G) (c:Nat):Prop:=∃ id o d,hp id=some o∧o.live=true∧g.ρ id=some (.blk c d)
def TabOK (g:G) (w:World):Prop:=∀ t∈qrP,(∃ (arr:Array Value) (ty:TypeId) (fz:Nat × Nat),w.heap[t.1]?=some (.cells arr ty fz)∧arr.size=t.2.1)∧∀ i,i<t.2.1→g.S t.1 i∧∃ v,w.cell? ⟨t.1,i,none⟩=some v∧t.2.2 i v
theorem TabOK.mono {w g w' g'} (t:Trans w g w' g') (h:TabOK g w):TabOK g' w':=fun x hx=>by
 obtain ⟨⟨arr,ty,fz,e1,e2⟩,hc⟩:=h x hx
 obtain ⟨arr',e3,e4⟩:=t.shp _ _ _ _ e1
 refine ⟨⟨arr',ty,fz,e3,e4.trans e2⟩,fun i hi=>?_⟩
 obtain ⟨h1,v,h2,h3⟩:=hc i hi
 exact ⟨t.S _ _ h1,v,(t.cell _ _ h1).trans h2,h3⟩
structure HeapOK (hp:Hp) (g:G) (w:World):Prop where
 dom:∀ id,hp id=none→g.ρ id=none
 rep:∀ id o,hp id=some o→∃ l,g.ρ id=some l∧HRep w g o l
 inj:∀ id id' o o' c d d',hp id=some o→hp id'=some o'→o.live=true→o'.live=true→g.ρ id=some (.blk c d)→g.ρ id'=some (.blk c d')→id=id'
 ex:∀ b o,g.S b o→∃ v,w.cell? ⟨b,o,none⟩=some v
 tab:TabOK g w
structure Upd (hp:Hp) (g:G) (w:World) (hp':Hp) (g':G) (w':World):Prop where
 tr:Trans w g w' g'
 live:∀ c,qno hp' g' c→qno hp g c∨w.heap.size≤c
 S:∀ b o,g'.S b o→g.S b o∨qno hp g b∨w.heap.size≤b
 keep:∀ b,b<w.heap.size→¬ qno hp g b→w'.heap[b]?=w.heap[b]?
theorem Upd.refl (hp:Hp) (g:G) (w:World):Upd hp g w hp g w:=⟨.refl w g,fun _ h => .inl h,fun _ _ h => .inl h,fun _ _ _=>rfl⟩
theorem Upd.trans {hp g w hp' g' w' hp'' g'' w''} (h:Upd hp g w hp' g' w') (k:Upd hp' g' w' hp'' g'' w''):Upd hp g w hp'' g'' w'' :=
 ⟨h.tr.trans k.tr,
  fun c hc => by
   rcases k.live c hc with h1 | h1
   · exact h.live c h1
   · exact .inr (Nat.le_trans h.tr.size h1),
  fun b o hb => by
   rcases k.S b o hb with h1 | h1 | h1
   · exact h.S b o h1
   · exact .inr (h.live b h1)
   · exact .inr (.inr (Nat.le_trans h.tr.size h1)),
  fun b hb hn => by
   refine (k.keep b (Nat.lt_of_lt_of_le hb h.tr.size) (fun hl=>?_)).trans (h.keep b hb hn)
   rcases h.live b hl with h1 | h1
   · exact hn h1
   · omega⟩
inductive Opd where
 | t (n:Nat)
 | k (x:AV)
inductive Leaf where
 | int | bool | str
 deriving DecidableEq
def Zs : Leaf → Value → Value → Option Bool
 | .int,.int k a,.int k' b=>if k=k' then some (a==b) else none
 | .bool,.bool a,.bool b=>some (a==b)
 | .str,.string a,.string b=>some (a==b)
 | _,_,_=>none
def qJ : List Leaf → List Value → List Value → Option Bool
 | [],[],[]=>some true
 | l::ls,a::as,b::bs=>match Zs l a b with
   | some true=>qJ ls as bs
   | some false=>some false
   | none=>none
 | _,_,_=>none
abbrev KS:=Bool × List Leaf
def eqK : KS → Value → Value → Option Bool
 | (true,ls),.agg as,.agg bs=>qJ ls as.toList bs.toList
 | (false,[l]),a,b=>Zs l a b
 | _,_,_=>none
def Zl (ks : KS) (k : Value) : List (Value × Nat × AV) → Nat → Option (Option Nat)
 | [],_=>some none
 | e::es,i=>match eqK ks k e.1 with
   | some true=>some (some i)
   | some false=>Zl ks k es (i+1)
   | none=>none
inductive AOp where
 | mv (d:Nat) (x:Opd)
 | pick (d:Nat) (c a b:Opd)
 | bin (d:Nat) (op:BinOp) (x y:Opd)
 | bing (d:Nat) (op:BinOp) (ty:TypeId) (x y:Opd)
 | un (d:Nat) (op:UnOp) (x:Opd)
 | ext (d:Nat) (x:Opd) (i:Nat)
 | ld (d:Nat) (agg:Bool) (sz:Nat) (x:Opd)
 | st (sz:Nat) (a x:Opd)
 | box (d:Nat) (sz:Nat) (x:Opd)
 | al (d:Nat) (zero:List AV)
 | bsl (d:Nat) (n sz:Nat) (zero:List AV) (parts:List (Nat × Opd))
 | bld (d:Nat) (zero:List AV) (parts:List (Nat × Nat × Opd))
 | fa (d:Nat) (x:Opd) (off:Nat)
 | fld (d:Nat) (agg:Bool) (sz off:Nat) (x:Opd)
 | ia (d:Nat) (sz:Nat) (x i:Opd)
 | iaa (d:Nat) (len sz:Nat) (x i:Opd)
 | idx (d:Nat) (len:Nat) (agg:Bool) (sz:Nat) (x i:Opd)
 | ids (d:Nat) (x i:Opd)
 | len (d:Nat) (x:Opd)
 | lns (d:Nat) (x:Opd)
 | lnm (d:Nat) (x:Opd)
 | slc (d:Nat) (sz:Nat) (x:Opd) (lo hi mx:Option Opd)
 | sls (d:Nat) (x:Opd) (lo hi:Option Opd)
 | app (d:Nat) (sz bytes:Nat) (x y:Opd)
 | cpy (d:Nat) (sz:Nat) (x y:Opd)
 | mks (d:Nat) (sz bytes:Nat) (zero:List AV) (n c:Opd)
 | cnv (d:Nat) (k:IntKind) (x:Opd)
 | mx (d:Nat) (max:Bool) (x y:Opd)
 | nilc (d:Nat) (x:Opd)
 | mkf (d:Nat) (f:Fn) (first caps:List Opd)
 | call (d:Nat) (f:FuncId) (args:List Opd)
 | callv (d:Nat) (x:Opd) (args:List Opd)
 | cap (d:Nat) (x:Opd)
 | clr (sz:Nat) (zero:List AV) (x:Opd)
 | appz (d:Nat) (sz bytes:Nat) (zero:List AV) (x k:Opd)
 | callx (d:Nat) (f:FuncId) (args:List Opd)
 | slp (d:Nat) (sz ln:Nat) (x:Opd) (lo hi mx:Option Opd)
 | mkm (d:Nat)
 | ins (ks:KS) (m k v:Opd)
 | lku (d:Nat) (ks:KS) (zero:AV) (ok:Bool) (m k:Opd)
 | mpe (d:Nat) (ks:KS) (zero:AV) (m k:Opd)
 | est (m s v:Opd)
 | del (ks:KS) (m k:Opd)
 | eqk (d:Nat) (neg:Bool) (ks:KS) (x y:Opd)
 | rng (d:Nat) (x:Opd)
 | nxt (d:Nat) (x:Opd)
 | ent (d:Nat) (x:Opd)
 | isn (d:Nat) (neg:Bool) (kd:Nat) (x:Opd)
 | b2s (d:Nat) (x:Opd)
 | s2b (d:Nat) (x:Opd)
 | apps (d:Nat) (bytes:Nat) (x y:Opd)
def AOp.dst : AOp → Option Nat
 | .mv d _ | .pick d .. | .bin d .. | .bing d .. | .un d .. | .ext d .. | .ld d .. | .box d .. | .al d .. | .bsl d .. | .bld d .. | .fa d .. | .fld d .. | .ia d .. | .iaa d .. | .idx d ..
 | .ids d .. | .len d .. | .lns d .. | .lnm d .. | .slc d .. | .sls d .. | .app d .. | .cpy d .. | .mks d .. | .cnv d .. | .mx d .. | .nilc d .. | .mkf d .. | .call d .. | .callv d ..
 | .cap d _ | .appz d .. | .callx d .. | .slp d .. | .mkm d | .lku d .. | .mpe d .. | .eqk d .. | .rng d _ | .nxt d _ | .ent d _ | .isn d _ _ _ | .b2s d _ | .s2b d _ | .apps d .. => some d
 | .st .. | .clr .. | .ins .. | .est .. | .del .. => none
def AV.ofCell : Value → AV
 | .slice none 0 0 => .sl true 0 []
 | x => .v x
def AV.ofValue : Value → AV
 | .agg cs => .agg (cs.toList.map AV.ofCell)
 | x=>AV.ofCell x
def AV.isCell : AV → Bool
 | .v (.agg _) | .v (.tuple _) | .agg _ | .tup _ | .any=>false
 | _=>true
def AV.cells : AV → List AV
 | .agg cs=>cs
 | x=>[x]
def AV.isPure0 : AV → Bool
 | .v _ | .sl .. | .ptr .. => true
 | _=>false
def AV.isPure : AV → Bool
 | .v _ | .sl .. | .ptr .. => true
 | .fn _ as bs=>as.all AV.isPure0&&bs.all AV.isPure0
 | _=>false
def AV.isPC : AV → Bool
 | .v (.agg _) | .v (.tuple _)=>false
 | .v _ | .sl .. | .ptr .. => true
 | _=>false
def AV.scalar : AV → Bool
 | .v _=>true
 | .tup vs=>vs.all fun | .v _=>true | _=>false
 | .agg vs=>vs.all fun | .v _=>true | _=>false
 | _=>false
def splice (cs:List AV) (off:Nat) (xs:List AV):List AV:=cs.take off++xs++cs.drop (off+xs.length)
def zT (cs:List AV) (off m:Nat):List AV:=(cs.drop off).take m
def ze (hp : Hp) : AV → Option (AV × List Nat)
 | .v x=>some (.v x,[])
 | .sl f n cs=>some (.sl f n cs,[])
 | .ptr cs o=>some (.ptr cs o,[])
 | .ms id off n sz=>match hp id with
   | some (.cells cs)=>if off+n*sz≤cs.length∧(cs.all AV.isPure)=true then some (.sl false n (zT cs off (n*sz)),[id]) else none
   | _=>none
 | .mc id off n _ sz=>match hp id with
   | some (.cells cs)=>if off+n*sz≤cs.length∧(cs.all AV.isPure)=true then some (.sl false n (zT cs off (n*sz)),[id]) else none
   | _=>none
 | .ref id off=>match hp id with
   | some (.cells cs)=>if (cs.all AV.isPure)=true then some (.ptr cs off,[id]) else none
   | _=>none
 | _=>none
def QT (hp : Hp) : List AV → Option (List AV × List Nat)
 | []=>some ([],[])
 | x::xs=>match ze hp x,QT hp xs with
   | some (y,a),some (ys,b)=>some (y::ys,a++b)
   | _,_=>none
def zu (hp : Hp) : AV → Option (AV × List Nat)
 | .agg cs=>(QT hp cs).map fun (ys,a)=>(.agg ys,a)
 | .fn f as bs=>match QT hp as,QT hp bs with
   | some (xs,a),some (ys,b)=>some (.fn f xs ys,a++b)
   | _,_=>none
 | x=>ze hp x
def Qq (hp : Hp) : List AV → Option (List AV × List Nat)
 | []=>some ([],[])
 | x::xs=>match zu hp x,Qq hp xs with
   | some (y,a),some (ys,b)=>some (y::ys,a++b)
   | _,_=>none
def qU (hp : Hp) : AV → Option (AV × List Nat)
 | .agg cs=>(Qq hp cs).map fun (ys,a)=>(.agg ys,a)
 | .tup cs=>(Qq hp cs).map fun (ys,a)=>(.tup ys,a)
 | x=>zu hp x
def qE (hp : Hp) : List AV → Option (List AV × List Nat)
 | []=>some ([],[])
 | x::xs=>match qU hp x,qE hp xs with
   | some (y,a),some (ys,b)=>some (y::ys,a++b)
   | _,_=>none
def zP : Nat → List AV → List AV
 | 0,_=>[]
 | n+1,z=>z++zP n z
def Y6 : BinOp → Value → Value → Option Value
 | .add,.int k a,.int k' b=>if k=k' then some (.int k (k.wrap (a+b))) else none
 | .sub,.int k a,.int k' b=>if k=k' then some (.int k (k.wrap (a - b))) else none
 | .mul,.int k a,.int k' b=>if k=k' then some (.int k (k.wrap (a*b))) else none
 | .quo,.int k a,.int k' b=>if k=k'∧b≠0 then some (.int k (k.wrap (a.tdiv b))) else none
 | .rem,.int k a,.int k' b=>if k=k'∧b≠0 then some (.int k (a.tmod b)) else none
 | .and,.int k a,.int k' b=>if k=k' then some (.int k (k.wrap (BitVec.ofInt k.bits a &&& BitVec.ofInt k.bits b).toNat)) else none
 | .or,.int k a,.int k' b=>if k=k' then some (.int k (k.wrap (BitVec.ofInt k.bits a ||| BitVec.ofInt k.bits b).toNat)) else none
 | .xor,.int k a,.int k' b=>if k=k' then some (.int k (k.wrap (BitVec.ofInt k.bits a ^^^ BitVec.ofInt k.bits b).toNat)) else none
 | .andNot,.int k a,.int k' b=>if k=k' then some (.int k (k.wrap (BitVec.ofInt k.bits a &&& ~~~ BitVec.ofInt k.bits b).toNat)) else none
 | .shl,.int k a,.int _ b=>if b<0 then none else some (.int k (k.wrap (a*2 ^ (min b.toNat k.bits))))
 | .shr,.int k a,.int _ b=>if b<0 then none else some (.int k (a.fdiv (2 ^ (min b.toNat k.bits))))
 | .eql,.int k a,.int k' b=>if k=k' then some (.bool (a==b)) else none
 | .neq,.int k a,.int k' b=>if k=k' then some (.bool (a != b)) else none
 | .lss,.int k a,.int k' b=>if k=k' then some (.bool (decide (a<b))) else none
 | .leq,.int k a,.int k' b=>if k=k' then some (.bool (decide (a≤b))) else none
 | .gtr,.int k a,.int k' b=>if k=k' then some (.bool (decide (a>b))) else none
 | .geq,.int k a,.int k' b=>if k=k' then some (.bool (decide (a≥b))) else none
 | .add,.string a,.string b=>if a.size+b.size≤9223372036854775807 then some (.string (a++b)) else none
 | .eql,.string a,.string b=>some (.bool (a.toList==b.toList))
 | .neq,.string a,.string b=>some (.bool (!(a.toList==b.toList)))
 | .lss,.string a,.string b=>some (.bool (Op.bytesLess a.toList b.toList))
 | _,_,_=>none
def unV : UnOp → Value → Option Value
 | .neg,.int k n=>some (.int k (k.wrap (0 - n)))
 | .not,.bool b=>some (.bool !b)
 | _,_=>none
def ZO (hp : Hp) (sz : Nat) : AV → Option (Nat × List AV)
 | .sl _ n cs=>if cs.length=n*sz then some (n,cs) else none
 | .ms id off n sz'=>match hp id with
   | some (.cells cs)=>if sz'=sz∧off+n*sz≤cs.length then some (n,zT cs off (n*sz)) else none
   | _=>none
 | .mc id off n _ sz'=>match hp id with
   | some (.cells cs)=>if sz'=sz∧off+n*sz≤cs.length then some (n,zT cs off (n*sz)) else none
   | _=>none
 | _=>none
def place (cs : List AV) (sz : Nat) : List (Nat × AV) → List AV
 | []=>cs
 | (i,x)::rest=>place (splice cs (i*sz) x.cells) sz rest
def WZ (cs : List AV) : List (Nat × Nat × AV) → List AV
 | []=>cs
 | (off,_,x)::rest=>WZ (splice cs off x.cells) rest
def qqe : List AV → Option (List Value)
 | []=>some []
 | .v x::r=>(qqe r).map (x::·)
 | _=>none
def AV.val : AV → Option Value
 | .v x=>some x
 | .agg cs=>(qqe cs).map fun l => .agg l.toArray
 | _=>none
def evF (F : Nat → AV) : Opd → AV
 | .t n=>F n
 | .k x=>x
abbrev I (n:Int):AV := .v (.int .i64 n)
abbrev B (b:Bool):AV := .v (.bool b)
section
variable (ev:Opd→AV) (hp:Hp) (new:Nat) (r:AV) (ws:List (Nat × HObj))
def WH (agg:Bool) (sz:Nat) (x:AV):Prop :=
 match x with
 | .ptr cs off=>ws=[]∧(match agg with | true=>off+sz≤cs.length∧r = .agg (zT cs off sz) | false=>∃ y,cs[off]?=some y∧r=y)
 | .ref id off=>match hp id with
   | some (.cells cs)=>ws=[]∧(match agg with | true=>off+sz≤cs.length∧r = .agg (zT cs off sz) | false=>∃ y,cs[off]?=some y∧r=y)
   | _=>False
 | _=>False
def qkI (sz:Nat) (a x:AV):Prop :=
 match a with
 | .ref id off=>match hp id with
   | some (.cells cs)=>x.cells.length=sz∧(x.cells.all AV.isCell)=true∧off+sz≤cs.length∧ws=[(id,.cells (splice cs off x.cells))]∧r = .any
   | _=>False
 | _=>False
def qfo (sz:Nat) (x:AV) (lo hi mx:Option AV):Prop :=
 match x with
 | .sl full n cs => ∃ l h : Nat,(match lo with | none => l = 0 | some y => y = I l) ∧ (match hi with | none => h = n | some y => y = I h) ∧ l ≤ h ∧ h ≤ n ∧ cs.length = n * sz ∧
  (match mx with | none=>r = .sl (full&&decide (h=n)) (h - l) (zT cs (l*sz) ((h - l)*sz)) | some y=>y=I h∧hi.isSome∧r = .sl true (h - l) (zT cs (l*sz) ((h - l)*sz)))∧ws=[]
 | .ms id off n sz' => ∃ l h : Nat,(match lo with | none => l = 0 | some y => y = I l) ∧ (match hi with | none => h = n | some y => y = I h) ∧ l ≤ h ∧ h ≤ n ∧ sz' = sz ∧
  (match mx with | none=>True | some y=>∃ m:Nat,y=I m∧h≤m∧m≤n∧hi.isSome)∧r = .ms id (off+l*sz) (h - l) sz∧ws=[]
 | .mc id off n c sz' => ∃ l h m : Nat,(match lo with | none => l = 0 | some y => y = I l) ∧ (match hi with | none => h = n | some y => y = I h) ∧ (match mx with | none => m = c | some y => y = I m ∧ hi.isSome) ∧
  l≤h∧h≤m∧m≤c∧sz'=sz∧r = .mc id (off+l*sz) (h - l) (m - l) sz∧ws=[]
 | _=>False
def jt (sz bytes:Nat) (x:AV) (m:Nat) (ys:List AV):Prop :=
 match x with
 | .sl full n cs => full = true ∧ cs.length = n * sz ∧ (n + m) * bytes ≤ 140737488355328 ∧ n + m ≤ 140737488355328 ∧
  ((n=0∨0<m)∧r = .ms new 0 (n+m) sz∧ws=[(new,.cells (cs++ys))])
 | .ms id off n sz'=>match hp id with
   | some (.cells cs) => sz' = sz ∧ off + n * sz ≤ cs.length ∧ (n + m) * bytes ≤ 140737488355328 ∧ n + m ≤ 140737488355328 ∧
    r = .ms new 0 (n+m) sz∧ws=[(id,.gone),(new,.cells (zT cs off (n*sz)++ys))]
   | _=>False
 | .mc id off n c sz'=>match hp id with
   | some (.cells cs) => sz' = sz ∧ off + n * sz ≤ cs.length ∧ (n + m) * bytes ≤ 140737488355328 ∧ n + m ≤ 140737488355328 ∧
    ((n + m ≤ c ∧ off + (n + m) * sz ≤ cs.length ∧ r = .mc id off (n + m) c sz ∧ ws = [(id,.cells (splice cs (off + n * sz) ys))]) ∨
     (c<n+m∧r = .ms new 0 (n+m) sz∧ws=[(new,.cells (zT cs off (n*sz)++ys))]))
   | _=>False
 | _=>False
end
def qC (P:Program) (f:FuncId) (args:List AV) (r:AV):Prop :=
 ∀ (ro : Option Nat) (n : Nat) (w : World) (g : G) (vs : Array Value),HeapOK (fun _ => none) g w → vs.size = args.length → (∀ i (h : i < args.length),Rep w g true args[i] (vs.getD i undef)) →
   CallsIn { Fence.wide with round:=ro } n P f vs w fun e w'=>∃ v g',e = .returned v∧Rep w' g' true r v∧HeapOK (fun _=>none) g' w'∧Upd (fun _=>none) g w (fun _=>none) g' w'
def made (cs:List AV):Hp:=fun i=>if i=0 then some (.cells cs) else none
def qbH (P:Program) (f:FuncId) (args:List AV) (m sz:Nat) (cs:List AV):Prop :=
 (cs.all AV.isPC) = true ∧ ∀ (ro : Option Nat) (n : Nat) (w : World) (g : G) (vs : Array Value),HeapOK (fun _ => none) g w → vs.size = args.length → (∀ i (h : i < args.length),Rep w g true args[i] (vs.getD i undef)) →
  CallsIn { Fence.wide with round:=ro } n P f vs w fun e w'=>∃ v g',e = .returned v∧Rep w' g' false (.ms 0 0 m sz) v∧HeapOK (made cs) g' w'∧Upd (fun _=>none) g w (made cs) g' w'
def qr8 (Φ:List (Value × Nat × AV)→Nat→Prop):Hp:=fun i=>if i=0 then some (.mpp Φ) else none
def qnY (P:Program) (f:FuncId) (args:List AV) (Φ:List (Value × Nat × AV)→Nat→Prop):Prop :=
 (∀ es clk,Φ es clk → (es.all fun e => e.2.2.isPC) = true) ∧ ∀ (ro : Option Nat) (n : Nat) (w : World) (g : G) (vs : Array Value),HeapOK (fun _ => none) g w → vs.size = args.length → (∀ i (h : i < args.length),Rep w g true args[i] (vs.getD i undef)) →
  CallsIn { Fence.wide with round:=ro } n P f vs w fun e w'=>∃ v g',e = .returned v∧Rep w' g' false (.mp 0) v∧HeapOK (qr8 Φ) g' w'∧Upd (fun _=>none) g w (qr8 Φ) g' w'
def zB (ids:List Nat):List (Nat × HObj):=ids.map fun i=>(i,.gone)
def qw (l:List UInt8):List AV:=l.map fun b => .v (.int .u8 b.toNat)
def AOp.sem (P:Program) (o:AOp) (ev:Opd→AV) (hp:Hp) (new:Nat) (r:AV) (ws:List (Nat × HObj)):Prop :=
 match o with
 | .mv _ x=>r=ev x∧ws=[]
 | .pick _ c a b=>match ev c with
   | .v (.bool t)=>r=(bif t then ev a else ev b)∧ws=[]
   | _=>False
 | .bin _ op x y=>match ev x,ev y with
   | .v a,.v b=>∃ z,Y6 op a b=some z∧r = .v z∧ws=[]
   | _,_=>False
 | .bing _ op ty x y=>∃ a b z,(ev x).val=some a∧(ev y).val=some b∧(∀ w,(binOp op ty a b).run P w = .ok z w)∧(∀ p q w,(eqGuard op ty p q a b).run P w = .ok () w)∧r = .v z∧ws=[]
 | .un _ op x=>match ev x with
   | .v a=>∃ z,unV op a=some z∧r = .v z∧ws=[]
   | _=>False
 | .ext _ x i=>match ev x with
   | .tup vs=>∃ y,vs[i]?=some y∧r=y∧ws=[]
   | _=>False
 | .ld _ agg sz x=>WH hp r ws agg sz (ev x)
 | .st sz a x=>qkI hp r ws sz (ev a) (ev x)
 | .box _ sz x=>(ev x).cells.length=sz∧((ev x).cells.all AV.isCell)=true∧r = .ref new 0∧ws=[(new,.cells (ev x).cells)]
 | .al _ zero=>r = .ref new 0∧ws=[(new,.cells zero)]
 | .bsl _ n sz zero parts => ∃ ys ids,qE hp (parts.map fun p => ev p.2) = some (ys,ids) ∧ (ys.all fun y => y.cells.all AV.isCell && y.cells.all AV.isPure && (y.cells.length == sz)) = true ∧
  r = .sl true n (place (zP n zero) sz ((parts.map (·.1)).zip ys))∧ws=zB ids
 | .bld _ zero parts => (parts.all fun p => (ev p.2.2).cells.all AV.isCell && ((ev p.2.2).cells.length == p.2.1)) = true ∧
  r = .agg (WZ zero (parts.map fun p=>(p.1,p.2.1,ev p.2.2)))∧ws=[]
 | .fa _ x off=>match ev x with
   | .ptr cs o=>r = .ptr cs (o+off)∧ws=[]
   | .ref id o=>r = .ref id (o+off)∧ws=[]
   | _=>False
 | .fld _ agg sz off x=>match ev x with
   | .agg cs=>(match agg with | true=>off+sz≤cs.length∧r = .agg (zT cs off sz) | false=>∃ y,cs[off]?=some y∧r=y)∧ws=[]
   | _=>False
 | .ia _ sz x i=>match ev x,ev i with
   | .sl _ n cs,.v (.int _ j)=>(0≤j∧j<n)∧r = .ptr cs (j.toNat*sz)∧ws=[]∧cs.length=n*sz
   | .ms id off n sz',.v (.int _ j)=>(0≤j∧j<n)∧sz'=sz∧r = .ref id (off+j.toNat*sz)∧ws=[]
   | .mc id off n _ sz',.v (.int _ j)=>(0≤j∧j<n)∧sz'=sz∧r = .ref id (off+j.toNat*sz)∧ws=[]
   | _,_=>False
 | .iaa _ ln sz x i=>match ev x,ev i with
   | .ptr cs o,.v (.int _ j)=>(0≤j∧j<ln)∧r = .ptr cs (o+j.toNat*sz)∧ws=[]
   | .ref id o,.v (.int _ j)=>(0≤j∧j<ln)∧r = .ref id (o+j.toNat*sz)∧ws=[]
   | _,_=>False
 | .idx _ ln agg sz x i=>match ev x,ev i with
   | .agg cs,.v (.int _ j)=>(0≤j∧j<ln)∧(match agg with | true=>j.toNat*sz+sz≤cs.length∧r = .agg (zT cs (j.toNat*sz) sz) | false=>∃ y,cs[j.toNat*sz]?=some y∧r=y)∧ws=[]
   | _,_=>False
 | .ids _ x i=>match ev x,ev i with
   | .v (.string s),.v (.int _ j)=>0≤j∧(∃ b,s[j.toNat]?=some b∧r = .v (.int .u8 b.toNat))∧ws=[]
   | _,_=>False
 | .len _ x=>match ev x with
   | .sl _ n _=>r=I n∧ws=[]
   | .ms _ _ n _=>r=I n∧ws=[]
   | .mc _ _ n _ _=>r=I n∧ws=[]
   | _=>False
 | .lns _ x=>match ev x with
   | .v (.string s)=>r=I s.size∧ws=[]
   | _=>False
 | .lnm _ x=>match ev x with
   | .mp id=>match hp id with
     | some (.mp es _)=>r=I es.length∧ws=[]
     | _=>False
   | _=>False
 | .slc _ sz x lo hi hmx=>qfo r ws sz (ev x) (lo.map ev) (hi.map ev) (hmx.map ev)
 | .sls _ x lo hi=>match ev x with
   | .v (.string s)=>∃ l h:Nat,(match lo.map ev with | none=>l=0 | some y=>y=I l)∧(match hi.map ev with | none=>h=s.size | some y=>y=I h)∧l≤h∧h≤s.size∧r = .v (.string (s.extract l h))∧ws=[]
   | _=>False
 | .app _ sz bytes x y=>∃ m ys,ZO hp sz (ev y)=some (m,ys)∧(ys.all AV.isPC)=true∧jt hp new r ws sz bytes (ev x) m ys
 | .cpy _ sz x y=>match ev x with
   | .ms id off n sz'=>∃ m ys cs,ZO hp sz (ev y)=some (m,ys)∧((ys.take (Nat.min m n*sz)).all AV.isPC)=true∧hp id=some (.cells cs)∧sz'=sz∧off+n*sz≤cs.length∧r=I (Nat.min m n:Nat)∧ws=[(id,.cells (splice cs off (ys.take (Nat.min m n*sz))))]
   | .mc id off n _ sz'=>∃ m ys cs,ZO hp sz (ev y)=some (m,ys)∧((ys.take (Nat.min m n*sz)).all AV.isPC)=true∧hp id=some (.cells cs)∧sz'=sz∧off+n*sz≤cs.length∧r=I (Nat.min m n:Nat)∧ws=[(id,.cells (splice cs off (ys.take (Nat.min m n*sz))))]
   | _=>False
 | .mks _ sz bytes zero n c=>∃ k:Nat,ev n=I k∧ev c=I k∧k*bytes≤140737488355328∧k≤140737488355328∧zero.length=sz∧r = .ms new 0 k sz∧ws=[(new,.cells (zP k zero))]
 | .cnv _ k x=>match ev x with
   | .v (.int _ n)=>r = .v (.int k (k.wrap n))∧ws=[]
   | _=>False
 | .mx _ max x y=>match ev x,ev y with
   | .v (.int k a),.v (.int _ b)=>r = .v (.int k (bif max then (if b>a then b else a) else (if b<a then b else a)))∧ws=[]
   | _,_=>False
 | .nilc _ x=>match ev x with
   | .ptr cs o=>r = .ptr cs o∧ws=[]
   | .ref id o=>r = .ref id o∧ws=[]
   | .fn (.func f) as bs=>r = .fn (.func f) as bs∧ws=[]
   | _=>False
 | .mkf _ f first caps=>r = .fn f (first.map ev) (caps.map ev)∧ws=[]
 | .call _ f args=>∃ ys ids,qE hp (args.map ev)=some (ys,ids)∧((qC P f ys r∧ws=bif r.scalar then [] else zB ids)∨(∃ m sz cs,qbH P f ys m sz cs∧r = .ms new 0 m sz∧ws=zB ids++[(new,.cells cs)])∨∃ Φ,qnY P f ys Φ∧r = .mp new∧ws=zB ids++[(new,.mpp Φ)])
 | .callv .. | .callx .. | .rng .. | .nxt .. | .ent .. | .isn .. => False
 | .cap _ x=>match ev x with
   | .sl full n _=>full=true∧r=I n∧ws=[]
   | .mc _ _ _ c _=>r=I c∧ws=[]
   | _=>False
 | .clr sz zero x=>match ev x with
   | .ms id off n sz'=>∃ cs,hp id=some (.cells cs)∧sz'=sz∧off+n*sz≤cs.length∧r = .any∧ws=[(id,.cells (splice cs off (zP n zero)))]
   | .mc id off n _ sz'=>∃ cs,hp id=some (.cells cs)∧sz'=sz∧off+n*sz≤cs.length∧r = .any∧ws=[(id,.cells (splice cs off (zP n zero)))]
   | _=>False
 | .appz _ sz bytes zero x k=>∃ m:Nat,ev k=I m∧jt hp new r ws sz bytes (ev x) m (zP m zero)
 | .slp _ sz ln x lo hi hmx=>match ev x with
   | .ref id off=>match hp id with
     | some (.cells cs) => ∃ l h m : Nat,(match lo.map ev with | none => l = 0 | some y => y = I l) ∧ (match hi.map ev with | none => h = ln | some y => y = I h) ∧ (match hmx.map ev with | none => m = ln | some y => y = I m ∧ hi.isSome) ∧
      l≤h∧h≤m∧m≤ln∧off+ln*sz≤cs.length∧r = .mc id (off+l*sz) (h - l) (m - l) sz∧ws=[]
     | _=>False
   | .ptr cs off => ∃ l h : Nat,(match lo.map ev with | none => l = 0 | some y => y = I l) ∧ (match hi.map ev with | none => h = ln | some y => y = I h) ∧ hmx = none ∧
    l≤h∧h≤ln∧off+ln*sz≤cs.length∧r = .sl (decide (h=ln)) (h - l) (zT cs (off+l*sz) ((h - l)*sz))∧ws=[]
   | _=>False
 | .mkm _=>r = .mp new∧ws=[(new,.mp [] 0)]
 | .ins ks m k v=>match ev m with
   | .mp id=>match hp id with
     | some (.mp es clk) => ∃ kv,(ev k).val = some kv ∧ eqK ks kv kv = some true ∧ r = .any ∧
      ((∃ i e,Zl ks kv es 0 = some (some i) ∧ es[i]? = some e ∧ ws = [(id,.mp (es.set i (e.1,e.2.1,ev v)) clk)]) ∨
       (Zl ks kv es 0=some none∧ws=[(id,.mp (es++[(kv,clk,ev v)]) (clk+1))]))
     | _=>False
   | _=>False
 | .lku _ ks zero ok m k=>match ev m with
   | .mp id=>match hp id with
     | some (.mp es _) => ∃ kv,(ev k).val = some kv ∧ eqK ks kv kv = some true ∧ ws = [] ∧
      ((∃ i e,Zl ks kv es 0 = some (some i) ∧ es[i]? = some e ∧ r = bif ok then .tup [e.2.2,B true] else e.2.2) ∨
       (Zl ks kv es 0=some none∧r=bif ok then .tup [zero,B false] else zero))
     | some (.mpp Φ) => ok = true ∧ ∃ kv,(ev k).val = some kv ∧ eqK ks kv kv = some true ∧ ws = [] ∧ ∀ es clk,Φ es clk →
      ((∃ i e,Zl ks kv es 0 = some (some i) ∧ es[i]? = some e ∧ r = .tup [e.2.2,B true]) ∨
       (Zl ks kv es 0=some none∧r = .tup [zero,B false]))
     | _=>False
   | _=>False
 | .mpe _ ks zero m k=>match ev m with
   | .mp id=>match hp id with
     | some (.mp es clk) => ∃ kv,(ev k).val = some kv ∧ eqK ks kv kv = some true ∧
      ((∃ i e,Zl ks kv es 0 = some (some i) ∧ es[i]? = some e ∧ r = .tup [e.2.2,I e.2.1] ∧ ws = []) ∨
       (Zl ks kv es 0=some none∧r = .tup [zero,I clk]∧ws=[(id,.mp (es++[(kv,clk,zero)]) (clk+1))]))
     | _=>False
   | _=>False
 | .est m s v=>match ev m with
   | .mp id=>match hp id with
     | some (.mp es clk)=>∃ i e,ev s=I e.2.1∧es.findIdx? (fun x=>x.2.1==e.2.1)=some i∧es[i]?=some e∧r = .any∧ws=[(id,.mp (es.set i (e.1,e.2.1,ev v)) clk)]
     | _=>False
   | _=>False
 | .del ks m k=>match ev m with
   | .mp id=>match hp id with
     | some (.mp es clk) => ∃ kv,(ev k).val = some kv ∧ eqK ks kv kv = some true ∧ r = .any ∧
      ((∃ i,Zl ks kv es 0 = some (some i) ∧ ws = [(id,.mp (es.eraseIdx i) clk)]) ∨
       (Zl ks kv es 0=some none∧ws=[]))
     | _=>False
   | _=>False
 | .b2s _ x=>∃ bs:List UInt8,ZO hp 1 (ev x)=some (bs.length,qw bs)∧r = .v (.string ⟨bs.toArray⟩)∧ws=[]
 | .s2b _ x=>match ev x with
   | .v (.string s)=>r = .sl false s.size (qw s.data.toList)∧ws=[]
   | _=>False
 | .apps _ bytes x y=>match ev y with
   | .v (.string s)=>jt hp new r ws 1 bytes (ev x) s.size (qw s.data.toList)
   | _=>False
 | .eqk _ neg ks x y=>∃ a b z,(ev x).val=some a∧(ev y).val=some b∧eqK ks a b=some z∧r=B (neg != z)∧ws=[]
def AOp.many (o:AOp) (ev:Opd→AV) (hp:Hp) (new:Nat) (K:AV→List (Nat × HObj)→Prop):Prop :=
 match o with
 | .rng _ x=>match ev x with
   | .mp id=>match hp id with
     | some (.mp _ clk)=>K (.ref new 0) [(new,.it id clk [] clk)]
     | some (.mpp Φ)=>∀ es clk,Φ es clk→K (.ref new 0) [(id,.mp es clk),(new,.it id clk [] clk)]
     | _=>False
   | _=>False
 | .nxt _ x=>match ev x with
   | .ref id 0=>match hp id with
     | some (.it m since seen last)=>match hp m with
       | some (.mp es clk) => (seen.isEmpty || es.isEmpty || !es.all (fun e => decide (last ≤ e.2.1))) = true ∧
        ((es.filter fun e => !seen.contains e.2.1&&decide (e.2.1<since)).isEmpty=true→K (.tup [B false]) []) ∧
        ∀ e∈es,seen.contains e.2.1=false→K (.tup [B true,AV.ofValue e.1,e.2.2]) [(id,.it m since (seen++[e.2.1]) clk)]
       | _=>False
     | _=>False
   | _=>False
 | .ent _ x=>match ev x with
   | .ref id 0=>match hp id with
     | some (.it m _ seen stepped)=>match hp m with
       | some (.mp es clk)=>clk=stepped∧∃ b e,seen.getLast?=some b∧es.find? (fun e=>e.2.1==b)=some e∧K (.tup [AV.ofValue e.1,e.2.2]) []
       | _=>False
     | _=>False
   | _=>False
 | .isn _ neg kd x=>match kd,ev x with
   | 0,.sl _ _ cs=>match cs with
     | []=>K (B false) []∧K (B true) []
     | _::_=>K (B neg) []
   | 0,.ms _ _ n _=>(n≠0→K (B neg) [])∧(n=0→K (B false) []∧K (B true) [])
   | 1,.ptr .. | 1,.ref .. | 2,.mp _ | 3,.fn .. => K (B neg) []
   | 1,.v (.pointer none) | 2,.v (.map none) | 3,.v .nilFunc=>K (B !neg) []
   | _,_=>False
 | _=>False
end Go.AM

namespace Go.AM
open Go.RowKit
def Hp.set (hp:Hp) (id:Nat) (o:HObj):Hp:=fun i=>if i=id then some o else hp i
def Hp.write (hp : Hp) : List (Nat × HObj) → Hp
 | []=>hp
 | (id,o)::ws=>Hp.write (Hp.set hp id o) ws
theorem Hp.set_same (hp:Hp) (id:Nat) (o:HObj):Hp.set hp id o id=some o:=by simp [Hp.set]
theorem Hp.set_other (hp:Hp) {id i:Nat} (o:HObj) (h:i≠id):Hp.set hp id o i=hp i:=by simp [Hp.set,h]
theorem QI (w:World) (o:Obj):(w.alloc o).heap[w.heap.size]?=some o:=by
 show (w.heap.push o)[w.heap.size]?=some o
 simp
theorem HRep.mono {w g w' g'} {o : HObj} {l : Loc} (t : Trans w g w' g') (hb : ∀ c d,l = .blk c d → w'.heap[c]? = w.heap[c]?)
 (hS:∀ c d q,l = .blk c d→g'.S c q→g.S c q) (h:HRep w g o l):HRep w' g' o l:=by
 cases o with
 | gone=>cases l <;> trivial
 | cells cs =>
   cases l with
   | virg=>exact h
   | base L=>exact h
   | blk c d =>
     obtain ⟨arr,ty,fz,h1,h2,h3,h4,h5⟩:=h
     refine ⟨arr,ty,fz,(hb c d rfl).trans h1,h2,fun q hq hs=>h3 q hq (hS c d q rfl hs),fun q hq hq'=>?_,fun i hi=>?_⟩
     · rw [World.frozen?_of_block (w:=w) (hb c d rfl)];exact h4 q hq hq'
     · obtain ⟨x,hx,hr⟩ := h5 i hi
       exact ⟨x,hx,hr.mono t⟩
 | mp es clock =>
   cases l with
   | virg=>exact h
   | base L=>exact h
   | blk c d =>
     obtain ⟨ents,h1,h2,h3,h4,h5⟩:=h
     refine ⟨ents,(hb c d rfl).trans h1,h2,h3,fun q hs=>h4 q (hS c d q rfl hs),fun i hi=>?_⟩
     obtain ⟨e,h7,h8,h9,h10⟩:=h5 i hi
     exact ⟨e,h7,h8,h9,h10.mono t⟩
 | mpp Φ =>
   cases l with
   | virg=>exact h
   | base L=>exact h
   | blk c d =>
     obtain ⟨es,clock,hΦ,ents,h1,h2,h3,h4,h5⟩:=h
     refine ⟨es,clock,hΦ,ents,(hb c d rfl).trans h1,h2,h3,fun q hs=>h4 q (hS c d q rfl hs),fun i hi=>?_⟩
     obtain ⟨e,h7,h8,h9,h10⟩:=h5 i hi
     exact ⟨e,h7,h8,h9,h10.mono t⟩
 | it m since seen stepped =>
   cases l with
   | virg=>exact h
   | base L=>exact h
   | blk c d =>
     obtain ⟨mb,h1,h2,h3,h4⟩:=h
     exact ⟨mb,(hb c d rfl).trans h1,t.ρ _ _ h2,h3,fun q hs=>h4 q (hS c d q rfl hs)⟩
 | lp s mk =>
   cases l with
   | virg=>exact h
   | base L=>exact h
   | blk c d =>
     obtain ⟨L,h0,h1,h3,h4⟩:=h
     exact ⟨L,t.ρ _ _ h0,(hb c d rfl).trans h1,h3,fun q hs=>h4 q (hS c d q rfl hs)⟩
theorem HeapOK.lt {hp g w} (h:HeapOK hp g w) {id o c d} (ho:hp id=some o) (hl:o.live=true) (hr:g.ρ id=some (.blk c d)):c<w.heap.size:=by
 obtain ⟨l,h1,h2⟩:=h.rep id o ho
 rw [hr] at h1;cases h1
 cases o with
 | gone=>cases hl
 | cells cs=>obtain ⟨arr,ty,fz,h3,_⟩:=h2;exact (Array.getElem?_eq_some_iff.1 h3).1
 | mp es clock=>obtain ⟨ents,h3,_⟩:=h2;exact (Array.getElem?_eq_some_iff.1 h3).1
 | mpp=>obtain ⟨_,_,_,ents,h3,_⟩:=h2;exact (Array.getElem?_eq_some_iff.1 h3).1
 | it=>obtain ⟨mb,h3,_⟩:=h2;exact (Array.getElem?_eq_some_iff.1 h3).1
 | lp=>obtain ⟨L,_,h3,_⟩:=h2;exact (Array.getElem?_eq_some_iff.1 h3).1
theorem HeapOK.change {hp g w} (h : HeapOK hp g w) {hp' : Hp} {w' : World} {g' : G} (T : Nat → Prop)
 (tr:Trans w g w' g')
 (hsame:∀ id,¬ T id→hp' id=hp id)
 (hρ:∀ id,¬ T id→g'.ρ id=g.ρ id)
 (hblk:∀ id o c d,¬ T id→hp id=some o→o.live=true→g.ρ id=some (.blk c d)→w'.heap[c]?=w.heap[c]?)
 (hS:∀ id o c d,¬ T id→hp id=some o→o.live=true→g.ρ id=some (.blk c d)→∀ q,g'.S c q→g.S c q)
 (hT:∀ id,T id→∃ o l,hp' id=some o∧g'.ρ id=some l∧HRep w' g' o l)
 (hinj:∀ id id' o o' c d d',T id→hp' id=some o→hp' id'=some o'→o.live=true→o'.live=true→g'.ρ id=some (.blk c d)→g'.ρ id'=some (.blk c d')→id=id')
 (hex:∀ b q,g'.S b q→∃ v,w'.cell? ⟨b,q,none⟩=some v):HeapOK hp' g' w':=by
 refine ⟨fun id hn=>?_,fun id o ho=>?_,fun id id' o o' c d d' ho ho' hl hl' hr hr'=>?_,hex,h.tab.mono tr⟩
 · by_cases ht : T id
   · obtain ⟨o,l,h1,_⟩:=hT id ht;rw [h1] at hn;cases hn
   · rw [hsame id ht] at hn;rw [hρ id ht];exact h.dom id hn
 · by_cases ht : T id
   · obtain ⟨o',l,h1,h2,h3⟩ := hT id ht
     rw [h1] at ho;cases ho
     exact ⟨l,h2,h3⟩
   · rw [hsame id ht] at ho
     obtain ⟨l,h1,h2⟩:=h.rep id o ho
     refine ⟨l,(hρ id ht).trans h1,?_⟩
     by_cases hl:o.live=true
     · exact h2.mono tr (fun c d e=>hblk id o c d ht ho hl (e ▸ h1)) (fun c d q e=>hS id o c d ht ho hl (e ▸ h1) q)
     · cases o with
       | gone=>cases l <;> trivial
       | cells cs=>simp [HObj.live] at hl
       | mp es clock=>simp [HObj.live] at hl
       | mpp=>simp [HObj.live] at hl
       | it=>simp [HObj.live] at hl
       | lp=>simp [HObj.live] at hl
 · by_cases ht : T id
   · exact hinj id id' o o' c d d' ht ho ho' hl hl' hr hr'
   · by_cases ht' : T id'
     · exact (hinj id' id o' o c d' d ht' ho' ho hl' hl hr' hr).symm
     · rw [hsame id ht] at ho; rw [hsame id' ht'] at ho'
       rw [hρ id ht] at hr;rw [hρ id' ht'] at hr'
       exact h.inj id id' o o' c d d' ho ho' hl hl' hr hr'
def G.home (g:G) (id:Nat) (l:Loc):G:={ g with ρ:=fun i=>if i=id then some l else g.ρ i }
def G.pub (g:G) (p:Nat→Nat→Prop):G:={ g with S:=fun b q=>g.S b q∨p b q }
theorem V9 {w:World} {g:G} (hex:∀ b q,g.S b q→∃ v,w.cell? ⟨b,q,none⟩=some v) (o:Obj):∀ b q,g.S b q→(w.alloc o).cell? ⟨b,q,none⟩=w.cell? ⟨b,q,none⟩ :=
 fun b q hs => by
  obtain ⟨v,hv⟩:=hex b q hs
  exact World.cell?_alloc_lt w o _ (World.block_lt_of_cell? _ _ hv)
theorem Trans.alloc_home {hp g w} (h:HeapOK hp g w) (o:Obj) {id:Nat} (hn:hp id=none) (l:Loc):Trans w g (w.alloc o) (g.home id l) :=
 ⟨fun _ _ x => x,V9 h.ex o,
  fun i l' hi => by
   have:i≠id:=fun e=>by subst e;rw [h.dom i hn] at hi;cases hi
   simp [G.home,this,hi],
  fun b arr ty fz hb=>⟨arr,(Below.heap_alloc w o b (Array.getElem?_eq_some_iff.1 hb).1).trans hb,rfl⟩,rfl,rfl,rfl,by simp,Nat.le_refl _⟩
theorem HeapOK.alloc_priv {hp g w} (h : HeapOK hp g w) {id : Nat} (hn : hp id = none) (arr : Array Value) (ty : TypeId) (cs : List AV) (hle : cs.length ≤ arr.size)
 (hr:∀ i (hi:i<cs.length),∃ x,arr[i]?=some x∧Rep w g false cs[i] x) :
 HeapOK (Hp.set hp id (.cells cs)) (g.home id (.blk w.heap.size 0)) (w.alloc (.cells arr ty)) ∧
 Upd hp g w (Hp.set hp id (.cells cs)) (g.home id (.blk w.heap.size 0)) (w.alloc (.cells arr ty)):=by
 have tr:=Trans.alloc_home h (.cells arr ty) hn (.blk w.heap.size 0)
 have hnS : ∀ q,¬ g.S w.heap.size q := fun q hs => by
  obtain ⟨v,hv⟩:=h.ex _ _ hs
  exact absurd (World.block_lt_of_cell? _ _ hv) (Nat.lt_irrefl _)
 refine ⟨h.change (fun i=>i=id) tr (fun i hi=>Hp.set_other _ _ hi) (fun i hi=>by simp [G.home,hi]) (fun i o c d hi ho hl hr'=>Below.heap_alloc _ _ _ (h.lt ho hl hr')) (fun i o c d hi ho hl hr' q hq=>hq) ?_ ?_ ?_,tr,?_,fun b q hs => .inl hs,fun b hb _=>Below.heap_alloc _ _ _ hb⟩
 · rintro i rfl
   refine ⟨_,.blk w.heap.size 0,Hp.set_same _ _ _,by simp [G.home],arr,ty,(0,0),QI _ _,by omega,fun q _=>hnS q,fun q _ _=>by simp,fun i hi=>?_⟩
   obtain ⟨x,h1,h2⟩:=hr i hi
   exact ⟨x,by simpa using h1,h2.mono tr⟩
 · rintro i i' o o' c d d' rfl ho ho' hl hl' hr1 hr2
   simp only [G.home] at hr1 hr2
   simp at hr1
   obtain ⟨rfl,rfl⟩:=hr1
   by_cases e:i'=i
   · exact e.symm
   · rw [Hp.set_other _ _ e] at ho'
     simp [e] at hr2
     exact absurd (h.lt ho' hl' hr2) (Nat.lt_irrefl _)
 · intro b q hs
   obtain ⟨v,hv⟩:=h.ex b q hs
   exact ⟨v,(tr.cell b q hs).trans hv⟩
 · rintro c ⟨i,o,d,ho,hl,hr1⟩
   by_cases e:i=id
   · subst e;simp [G.home] at hr1;exact .inr (by omega)
   · rw [Hp.set_other _ _ e] at ho
     simp [G.home,e] at hr1
     exact .inl ⟨i,o,d,ho,hl,hr1⟩
theorem HeapOK.virgin {hp g w} (h : HeapOK hp g w) {id : Nat} (hn : hp id = none) :
 HeapOK (Hp.set hp id (.cells [])) (g.home id .virg) w∧Upd hp g w (Hp.set hp id (.cells [])) (g.home id .virg) w:=by
 have tr : Trans w g w (g.home id .virg) := ⟨fun _ _ x => x,fun _ _ _ => rfl,
  fun i l' hi => by
   have:i≠id:=fun e=>by subst e;rw [h.dom i hn] at hi;cases hi
   simp [G.home,this,hi],
  fun b arr ty fz hb=>⟨arr,hb,rfl⟩,rfl,rfl,rfl,Nat.le_refl _,Nat.le_refl _⟩
 refine ⟨h.change (fun i=>i=id) tr (fun i hi=>Hp.set_other _ _ hi) (fun i hi=>by simp [G.home,hi]) (fun _ _ _ _ _ _ _ _=>rfl) (fun i o c d hi ho hl hr' q hq=>hq) ?_ ?_ h.ex,tr,?_,fun b q hs => .inl hs,fun b hb _=>rfl⟩
 · rintro i rfl
   exact ⟨_,.virg,Hp.set_same _ _ _,by simp [G.home],rfl⟩
 · rintro i i' o o' c d d' rfl ho ho' hl hl' hr1 hr2
   simp [G.home] at hr1
 · rintro c ⟨i,o,d,ho,hl,hr1⟩
   by_cases e:i=id
   · subst e;simp [G.home] at hr1
   · rw [Hp.set_other _ _ e] at ho
     simp [G.home,e] at hr1
     exact .inl ⟨i,o,d,ho,hl,hr1⟩
theorem HeapOK.alloc_pub {hp g w} (h : HeapOK hp g w) (arr : Array Value) (ty : TypeId) :
 HeapOK hp (g.pub fun b q=>b=w.heap.size∧q<arr.size) (w.alloc (.cells arr ty)) ∧
 Upd hp g w hp (g.pub fun b q=>b=w.heap.size∧q<arr.size) (w.alloc (.cells arr ty)):=by
 have tr:Trans w g (w.alloc (.cells arr ty)) (g.pub fun b q=>b=w.heap.size∧q<arr.size) :=
  ⟨fun _ _ x => .inl x,V9 h.ex _,fun i l' hi=>hi,fun b arr' ty fz hb=>⟨arr',(Below.heap_alloc w _ b (Array.getElem?_eq_some_iff.1 hb).1).trans hb,rfl⟩,rfl,rfl,rfl,by simp,Nat.le_refl _⟩
 refine ⟨h.change (fun _=>False) tr (fun _ _=>rfl) (fun _ _=>rfl) (fun i o c d hi ho hl hr'=>Below.heap_alloc _ _ _ (h.lt ho hl hr')) (fun i o c d hi ho hl hr' q hq=>?_) (fun _ h=>h.elim) (fun _ _ _ _ _ _ _ h=>h.elim) ?_,tr,fun c hc => .inl hc,?_,fun b hb _=>Below.heap_alloc _ _ _ hb⟩
 · rcases hq with hq | ⟨rfl,_⟩
   · exact hq
   · exact absurd (h.lt ho hl hr') (Nat.lt_irrefl _)
 · rintro b q (hs | ⟨rfl,hq⟩)
   · obtain ⟨v,hv⟩ := h.ex b q hs
     exact ⟨v,(tr.cell b q (hs)).trans hv⟩
   · exact ⟨arr[q],by simp [hq]⟩
 · rintro b q (hs | ⟨rfl,hq⟩)
   · exact .inl hs
   · exact .inr (.inr (Nat.le_refl _))
def World.setArr (w:World) (c:Nat) (arr:Array Value) (ty:TypeId) (fz:Nat × Nat):World:={ w with heap:=w.heap.setIfInBounds c (.cells arr ty fz) }
theorem Jg (w:World) {c b:Nat} (arr ty fz) (h:b≠c):(World.setArr w c arr ty fz).heap[b]?=w.heap[b]?:=by
 simp only [World.setArr];rw [Array.getElem?_setIfInBounds_ne (Ne.symm h)]
theorem Zm (w:World) {c:Nat} (arr ty fz) (h:c<w.heap.size):(World.setArr w c arr ty fz).heap[c]?=some (.cells arr ty fz):=by
 simp [World.setArr,h]
theorem HeapOK.rewrite {hp g w} (h : HeapOK hp g w) {id : Nat} {cs : List AV} {c d : Nat} {arr : Array Value} {ty fz} (ho : hp id = some (.cells cs)) (hρ : g.ρ id = some (.blk c d))
 (hb:w.heap[c]?=some (.cells arr ty fz)) {arr':Array Value} (hsz:arr'.size=arr.size) {cs':List AV} (hlow:∀ q,q<d→arr'[q]?=arr[q]?)
 (hr:d+cs'.length≤arr'.size∧∀ i (hi:i<cs'.length),∃ x,arr'[d+i]?=some x∧Rep w g false cs'[i] x) :
 HeapOK (Hp.set hp id (.cells cs')) g (World.setArr w c arr' ty fz)∧Upd hp g w (Hp.set hp id (.cells cs')) g (World.setArr w c arr' ty fz):=by
 obtain ⟨l,h1,h2⟩:=h.rep id _ ho
 rw [hρ] at h1;cases h1
 obtain ⟨arr0,ty0,fz0,g1,g2,g3,g4,g5⟩:=h2
 rw [hb] at g1;cases g1
 have hlt:c<w.heap.size:=(Array.getElem?_eq_some_iff.1 hb).1
 have hcell : ∀ b q,g.S b q → (World.setArr w c arr' ty fz).cell? ⟨b,q,none⟩ = w.cell? ⟨b,q,none⟩ := fun b q hs => by
  by_cases e:b=c
  · subst e
    have hq:q<d:=by
     rcases Nat.lt_or_ge q d with h' | h'
     · exact h'
     · exact absurd hs (g3 q h')
    simp only [World.cell?,Zm w arr' ty fz hlt,hb]
    simp [hlow q hq]
  · exact World.cell?_of_block (Jg w arr' ty fz e)
 have tr : Trans w g (World.setArr w c arr' ty fz) g := ⟨fun _ _ x => x,hcell,fun _ _ x => x,fun b a1 t1 f1 hb1 => by
  by_cases e:b=c
  · subst e; rw [hb] at hb1; cases hb1
    exact ⟨arr',Zm w arr' ty fz hlt,hsz⟩
  · exact ⟨a1,(Jg w arr' ty fz e).trans hb1,rfl⟩,rfl,rfl,rfl,by simp [World.setArr],Nat.le_refl _⟩
 refine ⟨h.change (fun i=>i=id) tr (fun i hi=>Hp.set_other _ _ hi) (fun _ _=>rfl) (fun i o c' d' hi ho' hl hr'=>Jg _ _ _ _ (fun e=>hi (h.inj i id o _ c d' d ho' ho hl rfl (e ▸ hr') hρ))) (fun _ _ _ _ _ _ _ _ _ hq=>hq) ?_ ?_ ?_,tr,?_,fun b q hs => .inl hs,fun b hb' hnl=>Jg _ _ _ _ (fun e=>hnl (e ▸ ⟨id,_,d,ho,rfl,hρ⟩))⟩
 · rintro i rfl
   refine ⟨_,_,Hp.set_same _ _ _,hρ,arr',ty,fz,Zm w arr' ty fz hlt,hr.1,g3,fun q hq hq'=>?_,fun j hj=>?_⟩
   · have := g4 q hq (by omega)
     simp only [World.frozen?,Zm w arr' ty fz hlt,hb] at this ⊢
     exact this
   · obtain ⟨x,hx,hx'⟩ := hr.2 j hj
     exact ⟨x,hx,hx'.mono tr⟩
 · rintro i i' o o' c1 d1 d1' rfl ho1 ho1' hl hl' hr1 hr1'
   by_cases e:i'=i
   · exact e.symm
   · rw [Hp.set_other _ _ e] at ho1'
     exact h.inj i i' _ o' c1 d1 d1' ho ho1' rfl hl' hr1 hr1'
 · intro b q hs
   obtain ⟨v,hv⟩:=h.ex b q hs
   exact ⟨v,(hcell b q hs).trans hv⟩
 · rintro c1 ⟨i,o,d1,ho1,hl,hr1⟩
   by_cases e:i=id
   · subst e;exact .inl ⟨i,_,d1,ho,rfl,hr1⟩
   · rw [Hp.set_other _ _ e] at ho1
     exact .inl ⟨i,o,d1,ho1,hl,hr1⟩
theorem HeapOK.rename {hp g w} (h : HeapOK hp g w) {id new : Nat} {cs : List AV} {c d off : Nat} (ho : hp id = some (.cells cs)) (hρ : g.ρ id = some (.blk c d)) (hn : hp new = none) (hoff : off ≤ cs.length) :
 HeapOK (Hp.set (Hp.set hp id .gone) new (.cells (cs.drop off))) (g.home new (.blk c (d+off))) w ∧
 Upd hp g w (Hp.set (Hp.set hp id .gone) new (.cells (cs.drop off))) (g.home new (.blk c (d+off))) w:=by
 have hne:id≠new:=fun e=>by subst e;rw [ho] at hn;cases hn
 obtain ⟨l,h1,h2⟩:=h.rep id _ ho
 rw [hρ] at h1;cases h1
 obtain ⟨arr,ty,fz,g1,g2,g3,g4,g5⟩:=h2
 have tr : Trans w g w (g.home new (.blk c (d + off))) := ⟨fun _ _ x => x,fun _ _ _ => rfl,
  fun i l' hi => by
   have:i≠new:=fun e=>by subst e;rw [h.dom i hn] at hi;cases hi
   simp [G.home,this,hi],
  fun b arr ty fz hb=>⟨arr,hb,rfl⟩,rfl,rfl,rfl,Nat.le_refl _,Nat.le_refl _⟩
 refine ⟨h.change (fun i=>i=id∨i=new) tr (fun i hi=>?_) (fun i hi=>?_) (fun _ _ _ _ _ _ _ _=>rfl) (fun i o c d hi ho hl hr' q hq=>hq) ?_ ?_ h.ex,tr,?_,fun b q hs => .inl hs,fun b hb _=>rfl⟩
 · rw [Hp.set_other _ _ (fun e=>hi (.inr e)),Hp.set_other _ _ (fun e=>hi (.inl e))]
 · simp [G.home,show i≠new from fun e=>hi (.inr e)]
 · rintro i (rfl | rfl)
   · exact ⟨.gone,.blk c d,by rw [Hp.set_other _ _ hne,Hp.set_same],by simp [G.home,hne,hρ],trivial⟩
   · refine ⟨_,.blk c (d + off),Hp.set_same _ _ _,by simp [G.home],arr,ty,fz,g1,by simp; omega,fun q hq => g3 q (by omega),fun q hq => g4 q (by omega),fun j hj => ?_⟩
     simp at hj
     obtain ⟨x,hx,hx'⟩:=g5 (off+j) (by omega)
     refine ⟨x,by rw [Nat.add_assoc];exact hx,?_⟩
     rw [List.getElem_drop]
     exact hx'.mono tr
 · rintro i i' o o' c1 d1 d1' (rfl | rfl) ho1 ho1' hl hl' hr1 hr1'
   · rw [Hp.set_other _ _ hne,Hp.set_same] at ho1
     cases ho1;cases hl
   · by_cases e : i' = i
     · exact e.symm
     · rw [Hp.set_other _ _ e] at ho1'
       by_cases e2:i'=id
       · subst e2;rw [Hp.set_same] at ho1';cases ho1';cases hl'
       · rw [Hp.set_other _ _ e2] at ho1'
         simp [G.home] at hr1
         obtain ⟨rfl,rfl⟩:=hr1
         simp [G.home,e] at hr1'
         exact absurd (h.inj i' id o' _ c d1' d ho1' ho hl' rfl hr1' hρ) e2
 · rintro c1 ⟨i,o,d1,ho1,hl,hr1⟩
   by_cases e:i=new
   · subst e
     simp [G.home] at hr1
     obtain ⟨rfl,rfl⟩:=hr1
     exact .inl ⟨id,_,d,ho,rfl,hρ⟩
   · rw [Hp.set_other _ _ e] at ho1
     by_cases e2:i=id
     · subst e2;rw [Hp.set_same] at ho1;cases ho1;cases hl
     · rw [Hp.set_other _ _ e2] at ho1
       simp [G.home,e] at hr1
       exact .inl ⟨i,o,d1,ho1,hl,hr1⟩
theorem HeapOK.drop {hp g w} (h : HeapOK hp g w) {id : Nat} {o : HObj} (ho : hp id = some o) :
 HeapOK (Hp.set hp id .gone) g w∧Upd hp g w (Hp.set hp id .gone) g w:=by
 refine ⟨h.change (fun i=>i=id) (.refl w g) (fun i hi=>Hp.set_other _ _ hi) (fun _ _=>rfl) (fun _ _ _ _ _ _ _ _=>rfl) (fun _ _ _ _ _ _ _ _ _ hq=>hq) ?_ ?_ h.ex,.refl w g,?_,fun b q hs => .inl hs,fun b hb _=>rfl⟩
 · rintro i rfl
   obtain ⟨l,h1,_⟩:=h.rep i o ho
   exact ⟨.gone,l,Hp.set_same _ _ _,h1,by cases l <;> trivial⟩
 · rintro i i' o1 o' c1 d1 d1' rfl ho1 ho1' hl hl' hr1 hr1'
   rw [Hp.set_same] at ho1;cases ho1;cases hl
 · rintro c1 ⟨i,o1,d1,ho1,hl,hr1⟩
   by_cases e:i=id
   · subst e;rw [Hp.set_same] at ho1;cases ho1;cases hl
   · rw [Hp.set_other _ _ e] at ho1
     exact .inl ⟨i,o1,d1,ho1,hl,hr1⟩
theorem Trans.drew {w g}:Trans w g w.drew g:=⟨fun _ _ h=>h,fun _ _ _=>rfl,fun _ _ h=>h,fun _ arr _ _ h=>⟨arr,h,rfl⟩,rfl,rfl,rfl,Nat.le_refl _,Nat.le_refl _⟩
theorem HeapOK.drew {hp g w} (h:HeapOK hp g w):HeapOK hp g w.drew∧Upd hp g w hp g w.drew:=by
 refine ⟨h.change (fun _=>False) .drew (fun _ _=>rfl) (fun _ _=>rfl) (fun _ _ _ _ _ _ _ _=>rfl) (fun _ _ _ _ _ _ _ _ _ hq=>hq) (fun _ h=>h.elim) (fun _ _ _ _ _ _ _ h=>h.elim) h.ex,.drew,fun c hc => .inl hc,fun _ _ hs => .inl hs,fun _ _ _=>rfl⟩
theorem zM (b o i:Nat):(⟨b,o,none⟩:Addr).add i=⟨b,o+i,none⟩:=by unfold Addr.add;split <;> simp_all
def Row (w:World) (g:G) (b o:Nat) (cs:List AV):Prop:=∀ i (h:i<cs.length),∃ x,w.cell? ⟨b,o+i,none⟩=some x∧Rep w g false cs[i] x
theorem WF {w g p cs off v} (h:Rep w g p (.ptr cs off) v):∃ b o,v = .pointer (some ⟨b,o+off,none⟩)∧Row w g b o cs:=by
 cases h with
 | ptr _ _ _ b o vs hc hr=>exact ⟨b,o,rfl,fun i hi=>⟨vs i,(hc i hi).2,(hr i hi).of⟩⟩
theorem WG {w g hp p id off v cs} (h : Rep w g p (.ref id off) v) (hok : HeapOK hp g w) (hid : hp id = some (.cells cs)) :
 ∃ b o,v = .pointer (some ⟨b,o+off,none⟩)∧Row w g b o cs∧g.ρ id=some (.blk b o):=by
 cases h with
 | ref _ _ c d hl =>
   obtain ⟨l,h1,h2⟩:=hok.rep id _ hid
   rw [hl] at h1;cases h1
   obtain ⟨arr,ty,fz,g1,g2,g3,g4,g5⟩:=h2
   refine ⟨c,d,rfl,fun i hi=>?_,hl⟩
   obtain ⟨x,hx,hr⟩:=g5 i hi
   exact ⟨x,by simp [World.cell?,g1,hx],hr⟩
def zC (P:Program) (t:TypeId):Option (Bool × Nat) :=
 match P.underlying t,P.info? t with
 | some d,some i=>some ((match d with | .struct _ | .array _ _=>true | _=>false),i.size)
 | _,_=>none
theorem Yh {P:Program} {t agg sz} (h:zC P t=some (agg,sz)) (w:World):(isAgg t).run P w = .ok agg w:=by
 unfold zC at h
 cases hd:P.underlying t with
 | none=>simp [hd] at h
 | some d =>
   cases hi:P.info? t with
   | none=>simp [hd,hi] at h
   | some i =>
     simp [hd,hi] at h
     obtain ⟨rfl,rfl⟩:=h
     simp only [isAgg,Sem.run_bind,run_underlying hd,Result.andThen_ok]
     cases d <;> rfl
theorem qA {P:Program} {t agg sz} (h:zC P t=some (agg,sz)) (w:World):(sizeOf t).run P w = .ok sz w:=by
 unfold zC at h
 cases hd:P.underlying t with
 | none=>simp [hd] at h
 | some d =>
   cases hi:P.info? t with
   | none=>simp [hd,hi] at h
   | some i =>
     simp [hd,hi] at h
     obtain ⟨rfl,rfl⟩:=h
     simp [sizeOf,typeInfo,hi]
theorem Row.agg {w g b o cs} (h : Row w g b o cs) {off sz : Nat} (hle : off + sz ≤ cs.length) {P : Program} :
 ∃ vs:List Value,(loadCells ⟨b,o+off,none⟩ sz).run P w = .ok vs.toArray w∧Rep w g false (.agg (zT cs off sz)) (.agg vs.toArray):=by
 refine ⟨(List.range sz).map fun j=>(w.cell? ⟨b,o+(off+j),none⟩).getD undef,run_loadCells w _ _ (fun j=>(w.cell? ⟨b,o+(off+j),none⟩).getD undef) (fun j hj=>?_),.agg _ _ _ ?_ (fun i hi=>?_)⟩
 · obtain ⟨x,hx,_⟩ := h (off + j) (by omega)
   rw [zM,Nat.add_assoc];simp [hx]
 · simp [zT];omega
 · have hi' : i < sz := by simp [zT] at hi; omega
   obtain ⟨x,hx,hr⟩:=h (off+i) (by omega)
   simp only [zT,List.getElem_take,List.getElem_drop]
   simpa [hi',hx] using hr
theorem JP {P : Program} {t agg sz} (ht : zC P t = some (agg,sz)) {w g b o cs off r} (h : Row w g b o cs)
 (hs:match agg with | true=>off+sz≤cs.length∧r = .agg (zT cs off sz) | false=>∃ y,cs[off]?=some y∧r=y) :
 ∃ v,(loadVar t ⟨b,o+off,none⟩).run P w = .ok v w∧Rep w g false r v:=by
 cases agg with
 | true =>
   obtain ⟨hle,rfl⟩:=hs
   obtain ⟨vs,h1,h2⟩:=h.agg hle (P:=P)
   exact ⟨_,by simp [loadVar,Yh ht,qA ht,h1],h2⟩
 | false =>
   obtain ⟨y,hy,rfl⟩:=hs
   obtain ⟨hlt,rfl⟩:=List.getElem?_eq_some_iff.1 hy
   obtain ⟨x,hx,hr⟩:=h off hlt
   exact ⟨x,by simp [loadVar,Yh ht,hx],hr⟩
theorem qbW {w g p x v} (h:Rep w g p x v) (hc:x.isCell=true):v.oneCell'=true:=by
 cases h with
 | v=>cases v <;> simp_all [AV.isCell,Value.oneCell']
 | any=>cases hc
 | agg=>cases hc
 | tup=>cases hc
 | _=>rfl
theorem XS {w g p x v} (h : Rep w g p x v) (hc : (x.cells.all AV.isCell) = true) :
 v.cells.size=x.cells.length∧(∀ u∈v.cells.toList,u.oneCell'=true)∧∀ i (hi:i<x.cells.length),∃ u,v.cells[i]?=some u∧Rep w g p x.cells[i] u:=by
 have one : ∀ {y : AV} {u : Value},y.cells = [y] → u.cells = #[u] → Rep w g p y u → (y.cells.all AV.isCell) = true →
  u.cells.size=y.cells.length∧(∀ z∈u.cells.toList,z.oneCell'=true)∧∀ i (hi:i<y.cells.length),∃ z,u.cells[i]?=some z∧Rep w g p y.cells[i] z:=fun {y u} h1 h2 hr hc=>by
  rw [h1] at hc
  simp at hc
  refine ⟨by simp [h1,h2],by simp [h2];exact qbW hr hc,fun i hi=>?_⟩
  simp [h1] at hi
  subst hi
  exact ⟨u,by simp [h2],by simp [h1];exact hr⟩
 cases h with
 | agg _ cs vs hl hr =>
   change (cs.all AV.isCell)=true at hc
   show vs.toArray.size=cs.length∧(∀ u∈vs.toArray.toList,u.oneCell'=true)∧∀ i (hi:i<cs.length),∃ u,vs.toArray[i]?=some u∧Rep w g p cs[i] u
   refine ⟨by simp [hl],fun u hu=>?_,fun i hi=>⟨vs.getD i undef,by simp [List.getD,List.getElem?_eq_getElem (show i<vs.length by omega)],hr i hi⟩⟩
   simp at hu
   obtain ⟨i,hi,rfl⟩:=List.mem_iff_getElem.1 hu
   have:=hr i (by omega)
   rw [List.getD_eq_getElem?_getD,List.getElem?_eq_getElem hi] at this
   exact qbW this (List.all_eq_true.1 hc _ (List.getElem_mem _))
 | v =>
   cases v with
   | agg cs=>simp [AV.cells,AV.isCell] at hc
   | tuple cs=>simp [AV.cells,AV.isCell] at hc
   | _=>exact one rfl rfl (.v _ _) hc
 | any=>simp [AV.cells,AV.isCell] at hc
 | tup=>simp [AV.cells,AV.isCell] at hc
 | sl _ _ _ _ _ _ vs h1 h2 h3 h4=>exact one rfl rfl (.sl _ _ _ _ _ _ vs h1 h2 h3 h4) hc
 | ptr _ _ _ _ _ vs h1 h2=>exact one rfl rfl (.ptr _ _ _ _ _ vs h1 h2) hc
 | ref _ _ _ _ h1=>exact one rfl rfl (.ref _ _ _ _ h1) hc
 | ms _ _ _ _ _ _ _ _ _ _ h1 h2 h3 h4=>exact one rfl rfl (.ms _ _ _ _ _ _ _ _ _ _ h1 h2 h3 h4) hc
 | msz _ _ _ _ _ h1=>exact one rfl rfl (.msz _ _ _ _ _ h1) hc
 | fn _ _ _ _ _ _ h1 h2 h3 h4=>exact one rfl rfl (.fn _ _ _ _ _ _ h1 h2 h3 h4) hc
 | mp _ _ _ h1=>exact one rfl rfl (.mp _ _ _ h1) hc
 | mc _ _ _ _ _ _ _ _ _ _ h1 h2 h3 h4=>exact one rfl rfl (.mc _ _ _ _ _ _ _ _ _ _ h1 h2 h3 h4) hc
 | mcz _ _ _ _ _ h1=>exact one rfl rfl (.mcz _ _ _ _ _ h1) hc
 | yl _ _ h1=>exact one rfl rfl (.yl _ _ h1) hc
def Zc (arr:Array Value) (k:Nat) (vs:List Value):Array Value:=(arr.toList.take k++vs++arr.toList.drop (k+vs.length)).toArray
theorem Ji (arr:Array Value) (k:Nat) (vs:List Value) (h:k+vs.length≤arr.size):(Zc arr k vs).size=arr.size:=by
 simp [Zc];omega
theorem Qy (arr : Array Value) (k : Nat) (vs : List Value) (h : k + vs.length ≤ arr.size) (i : Nat) :
 (Zc arr k vs)[i]?=if i<k then arr[i]? else if i<k+vs.length then vs[i - k]? else arr[i]?:=by
 simp only [Zc,List.getElem?_toArray]
 have hk:(List.take k arr.toList).length=k:=by simp;omega
 by_cases h1:i<k
 · rw [if_pos h1,List.append_assoc,List.getElem?_append_left (by omega),List.getElem?_take_of_lt h1];simp
 · rw [if_neg h1,List.append_assoc,List.getElem?_append_right (by omega),hk]
   by_cases h2:i<k+vs.length
   · rw [if_pos h2,List.getElem?_append_left (by omega)]
   · rw [if_neg h2,List.getElem?_append_right (by omega),List.getElem?_drop]
     rw [show k+vs.length+(i - k - vs.length)=i by omega];simp
theorem qdx (w:World) (c:Nat) (a1 a2 ty fz):World.setArr (World.setArr w c a1 ty fz) c a2 ty fz=World.setArr w c a2 ty fz:=by
 simp [World.setArr]
theorem qbr (w:World) {c:Nat} {arr ty fz} (hb:w.heap[c]?=some (.cells arr ty fz)) (i:Nat) (v:Value):w.setCell ⟨c,i,none⟩ v=World.setArr w c (arr.setIfInBounds i v) ty fz:=by
 have hlt:c<w.heap.size:=(Array.getElem?_eq_some_iff.1 hb).1
 simp only [World.setCell,World.setArr]
 congr 1
 apply Array.ext_getElem?
 intro j
 rw [Array.getElem?_modify]
 by_cases e:c=j
 · subst e
   rw [if_pos rfl,hb];simp [hlt]
 · rw [if_neg e,Array.getElem?_setIfInBounds_ne e]
theorem Z3 {P : Program} {c : Nat} {ty fz} (o : Nat) : ∀ (vs : List Value) (i : Nat) (arr : Array Value) (w : World),w.heap[c]? = some (.cells arr ty fz) → o + i + vs.length ≤ arr.size →
 (∀ q,o+i≤q→q<o+i+vs.length→w.frozen? ⟨c,q,none⟩=false)→(∀ v∈vs,v.oneCell'=true) →
 (storeCells ⟨c,o,none⟩ vs i).run P w = .ok () (World.setArr w c (Zc arr (o+i) vs) ty fz)
 | [], i, arr, w, hb, _, _, _=>by
   have hlt:c<w.heap.size:=(Array.getElem?_eq_some_iff.1 hb).1
   have:World.setArr w c (Zc arr (o+i) []) ty fz=w:=by
    simp only [World.setArr,Zc,List.append_nil,List.length_nil,Nat.add_zero,List.take_append_drop]
    have:w.heap.setIfInBounds c (.cells arr.toList.toArray ty fz)=w.heap:=by
     apply Array.ext_getElem?
     intro j
     by_cases e:j=c
     · subst e;rw [hb];simp [hlt]
     · rw [Array.getElem?_setIfInBounds_ne (Ne.symm e)]
    rw [this]
   simp only [storeCells]
   rw [this];rfl
 | v::rest, i, arr, w, hb, hl, hf, h1=>by
   simp at hl
   have hi:o+i<arr.size:=by omega
   have hcell:w.cell? ⟨c,o+i,none⟩=some arr[o+i]:=by simp [World.cell?,hb,hi]
   have hst:(store ((⟨c,o,none⟩:Addr).add i) v).run P w = .ok () (World.setArr w c (arr.setIfInBounds (o+i) v) ty fz):=by
    rw [zM,run_store P w _ v _ (h1 v (by simp)),hcell]
    simp only [hf (o+i) (Nat.le_refl _) (by simp),Bool.false_eq_true,if_false]
    rw [qbr w hb]
   have hlt:c<w.heap.size:=(Array.getElem?_eq_some_iff.1 hb).1
   have hb':=Zm w (arr.setIfInBounds (o+i) v) ty fz hlt
   have hfz:∀ q,(World.setArr w c (arr.setIfInBounds (o+i) v) ty fz).frozen? ⟨c,q,none⟩=w.frozen? ⟨c,q,none⟩:=fun q=>by simp [World.frozen?,hb',hb]
   have ih:=Z3 (P:=P) o rest (i+1) _ _ hb' (by simp;omega) (fun q hq hq'=>by rw [hfz];exact hf q (by omega) (by simp;omega)) (fun u hu=>h1 u (by simp [hu]))
   simp only [storeCells,Sem.run_bind,hst,Result.andThen_ok,ih,qdx]
   congr 2
   apply Array.ext_getElem?
   intro j
   rw [Qy _ _ _ (by simp;omega),Qy _ _ _ (by simp;omega)]
   by_cases h2:j<o+i
   · rw [if_pos (by omega),if_pos h2,Array.getElem?_setIfInBounds_ne (by omega)]
   · rw [if_neg h2]
     by_cases h3:j=o+i
     · subst h3
       rw [if_pos (by omega),if_pos (by simp)]
       simp [hi]
     · rw [if_neg (by omega)]
       by_cases h4:j<o+i+(rest.length+1)
       · rw [if_pos (by omega),if_pos (by simpa using h4)]
         rw [show j - (o+i)=(j - (o+(i+1)))+1 by omega];simp
       · rw [if_neg (by omega),if_neg (by simpa using h4),Array.getElem?_setIfInBounds_ne (by omega)]
theorem HeapOK.store {hp g w} (h : HeapOK hp g w) {id : Nat} {cs : List AV} {c d : Nat} (ho : hp id = some (.cells cs)) (hρ : g.ρ id = some (.blk c d)) (off : Nat) (vs : List Value) (xs : List AV)
 (hlen:vs.length=xs.length) (hle:off+xs.length≤cs.length) (h1:∀ v∈vs,v.oneCell'=true) (hr:∀ i (hi:i<xs.length),∃ u,vs[i]?=some u∧Rep w g false xs[i] u) {P:Program} :
 ∃ w',(storeCells ⟨c,d+off,none⟩ vs).run P w = .ok () w'∧HeapOK (Hp.set hp id (.cells (splice cs off xs))) g w'∧Upd hp g w (Hp.set hp id (.cells (splice cs off xs))) g w':=by
 obtain ⟨l,e1,e2⟩:=h.rep id _ ho
 rw [hρ] at e1;cases e1
 obtain ⟨arr,ty,fz,g1,g2,g3,g4,g5⟩:=e2
 refine ⟨World.setArr w c (Zc arr (d+off) vs) ty fz,Z3 (d+off) vs 0 arr w g1 (by omega) (fun q hq hq'=>g4 q (by omega) (by omega)) h1,?_⟩
 have hsz:=Ji arr (d+off) vs (by omega)
 have hlen':(splice cs off xs).length=cs.length:=by simp [splice];omega
 refine h.rewrite ho hρ g1 hsz (fun q hq=>by rw [Qy _ _ _ (by omega),if_pos (by omega)]) ⟨by omega,fun i hi=>?_⟩
 rw [Qy _ _ _ (by omega)]
 have hk:(cs.take off).length=off:=by simp;omega
 by_cases a1:i<off
 · rw [if_pos (by omega)]
   obtain ⟨x,hx,hx'⟩:=g5 i (by omega)
   refine ⟨x,hx,?_⟩
   have : (splice cs off xs)[i] = cs[i]'(by omega) := by
    simp only [splice,List.append_assoc]
    rw [List.getElem_append_left (by omega)];simp
   rw [this];exact hx'
 · rw [if_neg (by omega)]
   by_cases a2:i<off+xs.length
   · rw [if_pos (by omega)]
     obtain ⟨u,hu,hu'⟩:=hr (i - off) (by omega)
     refine ⟨u,by rw [show d+i - (d+off)=i - off by omega];exact hu,?_⟩
     have : (splice cs off xs)[i] = xs[i - off]'(by omega) := by
      simp only [splice,List.append_assoc]
      rw [List.getElem_append_right (by omega),List.getElem_append_left (by omega)]
      simp only [hk]
     rw [this];exact hu'
   · rw [if_neg (by omega)]
     obtain ⟨x,hx,hx'⟩:=g5 i (by omega)
     refine ⟨x,hx,?_⟩
     have : (splice cs off xs)[i] = cs[i]'(by omega) := by
      simp only [splice,List.append_assoc]
      rw [List.getElem_append_right (by omega),List.getElem_append_right (by omega),List.getElem_drop]
      congr 1
      simp only [hk];omega
     rw [this];exact hx'
def opd : Operand → Option Opd
 | .tmp t=>some (.t t)
 | .const v=>some (.k (AV.ofValue v))
 | .func f=>some (.k (.fn (.func f) [] []))
 | .global _=>none
def FrOK (w:World) (g:G) (F:Nat→AV) (a:Act):Prop:=∀ t,Rep w g false (F t) (a.tmps.getD t undef)
theorem Jy (w g p) (c:Value):Rep w g p (AV.ofCell c) c:=by
 unfold AV.ofCell
 split
 · exact .sl _ _ _ _ _ _ (fun _=>undef) (Nat.le_refl _) (fun _=>rfl) (fun i hi=>by simp at hi) (fun i hi=>by simp at hi)
 · exact .v _ _
theorem QY (w g p) (v:Value):Rep w g p (AV.ofValue v) v:=by
 unfold AV.ofValue
 split
 · rename_i cs
   have := Rep.agg (w := w) (g := g) p (cs.toList.map AV.ofCell) cs.toList (by simp) (fun i hi => by
    simp at hi
    simp [List.getD,hi]
    exact Jy w g p _)
   simpa using this
 · exact Jy w g p _
theorem qF {w g F} {a:Act} (hF:FrOK w g F a) {x:Operand} {y:Opd} (h:opd x=some y):Rep w g false (evF F y) (a.eval x):=by
 cases x with
 | tmp t=>simp [opd] at h;subst h;exact hF t
 | const v=>simp [opd] at h;subst h;exact QY w g false v
 | func f =>
   simp [opd] at h;subst h
   have:=Rep.fn (w:=w) (g:=g) false (.func f) [] [] [] [] rfl rfl (fun i h=>by simp at h) (fun i h=>by simp at h)
   exact this
 | global n=>simp [opd] at h
def Post (hp:Hp) (g:G) (w:World) (r:AV) (ws:List (Nat × HObj)) (v:Value) (w':World):Prop :=
 ∃ g',Rep w' g' false r v∧HeapOK (Hp.write hp ws) g' w'∧Upd hp g w (Hp.write hp ws) g' w'
theorem Post.nil {hp g w r v} (hok:HeapOK hp g w) (h:Rep w g false r v):Post hp g w r [] v w:=⟨g,h,hok,.refl _ _ _⟩
def VRun (P:Program) (o:Oper) (a:Act) (w:World) (post:Value→World→Prop):Prop:=∃ v w',(execOp a.eval o).run P w = .ok (.value v) w'∧post v w'
theorem qgA {P:Program} {op a b z} (h:Y6 op a b=some z) (ty:TypeId) (p q:Operand) (w:World):(eqGuard op ty p q a b).run P w = .ok () w:=by
 cases a <;> cases b <;> first
  | (exfalso;revert h;cases op <;> simp [Y6];done)
  | (unfold eqGuard;cases op <;> rfl)
theorem qkF {P:Program} {op a b z} (h:Y6 op a b=some z) (ty:TypeId) (w:World):(binOp op ty a b).run P w = .ok z w:=by
 cases a with
 | int k x =>
   cases b with
   | int k' y =>
     cases op <;> simp only [Y6] at h <;> (try split at h) <;> simp only [Option.some.injEq,reduceCtorEq] at h <;> (try subst h) <;> (try (rename_i hk; try (obtain ⟨hk,hy⟩ := hk); try subst hk)) <;>
      simp_all [binOp,Op.intArith,Op.intDiv,Op.intBits,Op.intCmp,Op.shift] <;> (intro hlt;omega)
   | _=>cases op <;> simp [Y6] at h
 | string x =>
   cases b with
   | string y =>
     cases op <;> simp only [Y6] at h <;> (try split at h) <;> simp only [Option.some.injEq,reduceCtorEq] at h <;> (try subst h) <;> simp [binOp,Op.stringOp]
     rename_i hsz
     omega
   | _=>cases op <;> simp [Y6] at h
 | _=>cases op <;> simp [Y6] at h
theorem qkG {P:Program} {op a z} (h:unV op a=some z) (w:World):(Op.unary op a).run P w = .ok z w:=by
 cases op <;> cases a <;> simp [unV] at h <;> subst h <;> simp [Op.unary,Op.intArith]
theorem QS {w g p x v} (h:Rep w g p (.v x) v):v=x:=by cases h;rfl
theorem qhZ : ∀ {cs : List AV} {l : List Value},qqe cs = some l → l.length = cs.length ∧ ∀ i (h : i < cs.length) (h' : i < l.length),cs[i] = .v l[i]
 | [],l,h=>by simp [qqe] at h;subst h;simp
 | .v x::r,l,h=>by
   simp only [qqe,Option.map_eq_some_iff] at h
   obtain ⟨l',h',rfl⟩:=h
   obtain ⟨l1,l2⟩:=qhZ h'
   refine ⟨by simp [l1],fun i hi hi'=>?_⟩
   cases i with
   | zero=>rfl
   | succ i=>exact l2 i (by simpa using hi) (by simpa using hi')
 | .sl .. :: _,l,h=>by cases h
 | .agg .. :: _,l,h=>by cases h
 | .tup .. :: _,l,h=>by cases h
 | .ptr .. :: _,l,h=>by cases h
 | .ref .. :: _,l,h=>by cases h
 | .ms .. :: _,l,h=>by cases h
 | .fn .. :: _,l,h=>by cases h
 | .mp .. :: _,l,h=>by cases h
 | .mc .. :: _,l,h=>by cases h
 | .yl .. :: _,l,h=>by cases h
 | .any::_,l,h=>by cases h
theorem qgw {w g p x v a} (hx:x.val=some a) (h:Rep w g p x v):v=a:=by
 cases h with
 | v=>cases hx;rfl
 | agg _ cs vs hl hr =>
   simp only [AV.val,Option.map_eq_some_iff] at hx
   obtain ⟨l,h1,rfl⟩:=hx
   obtain ⟨l1,l2⟩:=qhZ h1
   congr 1
   congr 1
   refine List.ext_getElem (by omega) fun i hi hi'=>?_
   have:=hr i (by omega)
   rw [l2 i (by omega) hi'] at this
   have:=QS this
   simpa [hi] using this
 | any=>cases hx
 | sl=>cases hx
 | tup=>cases hx
 | ptr=>cases hx
 | ref=>cases hx
 | ms=>cases hx
 | msz=>cases hx
 | fn=>cases hx
 | mp=>cases hx
 | mc=>cases hx
 | mcz=>cases hx
 | yl=>cases hx
theorem qiE {w g p id off n c sz v} (h:Rep w g p (.mc id off n c sz) v):Rep w g false (.ms id off n sz) v:=by
 cases h with
 | mc _ _ _ _ _ b d arr ty fz h1 h2 h3 h4=>exact .ms _ _ _ _ _ _ _ _ _ _ h1 h2 h3 h4
 | mcz _ _ _ _ _ h1=>exact .msz _ _ _ _ _ h1
section
variable {P:Program} {o:Oper} {a:Act} {w:World} {g:G} {hp:Hp} {F:Nat→AV} {new:Nat} {r:AV} {ws:List (Nat × HObj)}
theorem qnO {x : Operand} {y : Opd} {d} (ho : o.op = .move x ∨ o.op = .assign x) (hx : opd x = some y) (hF : FrOK w g F a) (hok : HeapOK hp g w) (hs : (AOp.mv d y).sem P (evF F) hp new r ws) :
 VRun P o a w (Post hp g w r ws):=by
 obtain ⟨rfl,rfl⟩:=hs
 refine ⟨a.eval x,w,?_,.nil hok (qF hF hx)⟩
 rcases ho with ho | ho <;> simp [execOp,ho]
theorem qnb {x1 x2 x3 : Operand} {y1 y2 y3 : Opd} {d} (ho : o.op = .pick x1 x2 x3) (h1 : opd x1 = some y1) (h2 : opd x2 = some y2) (h3 : opd x3 = some y3) (hF : FrOK w g F a) (hok : HeapOK hp g w)
 (hs:(AOp.pick d y1 y2 y3).sem P (evF F) hp new r ws):VRun P o a w (Post hp g w r ws):=by
 have e1:=qF hF h1
 simp only [AOp.sem] at hs
 split at hs
 · rename_i t ht
   obtain ⟨rfl,rfl⟩:=hs
   rw [ht] at e1
   have e1':=QS e1
   refine ⟨if t then a.eval x2 else a.eval x3,w,by simp [execOp,ho,e1',asBool],.nil hok ?_⟩
   cases t
   · exact qF hF h3
   · exact qF hF h2
 · exact hs.elim
theorem qkM {op ty x y ty'} {y1 y2 : Opd} {d} (ho : o.op = .binOp op ty x y ty') (h1 : opd x = some y1) (h2 : opd y = some y2) (hF : FrOK w g F a) (hok : HeapOK hp g w)
 (hs:(AOp.bin d op y1 y2).sem P (evF F) hp new r ws):VRun P o a w (Post hp g w r ws):=by
 have e1:=qF hF h1
 have e2:=qF hF h2
 simp only [AOp.sem] at hs
 split at hs
 · rename_i u v hu hv
   obtain ⟨z,hz,rfl,rfl⟩:=hs
   rw [hu] at e1;rw [hv] at e2
   have e1':=QS e1
   have e2':=QS e2
   exact ⟨z,w,by simp [execOp,ho,e1',e2',qgA hz,qkF hz],.nil hok (.v _ _)⟩
 · exact hs.elim
theorem qm6 {op ty x y ty'} {y1 y2 : Opd} {d} (ho : o.op = .binOp op ty x y ty') (h1 : opd x = some y1) (h2 : opd y = some y2) (hF : FrOK w g F a) (hok : HeapOK hp g w)
 (hs:(AOp.bing d op ty y1 y2).sem P (evF F) hp new r ws):VRun P o a w (Post hp g w r ws):=by
 have e1:=qF hF h1
 have e2:=qF hF h2
 obtain ⟨u,v,z,hu,hv,hz,hg,rfl,rfl⟩:=hs
 have e1':=qgw hu e1
 have e2':=qgw hv e2
 exact ⟨z,w,by simp [execOp,ho,e1',e2',hz,hg],.nil hok (.v _ _)⟩
theorem qsw {op ty x} {y1 : Opd} {d} (ho : o.op = .unOp op ty x) (h1 : opd x = some y1) (hF : FrOK w g F a) (hok : HeapOK hp g w)
 (hs:(AOp.un d op y1).sem P (evF F) hp new r ws):VRun P o a w (Post hp g w r ws):=by
 have e1:=qF hF h1
 simp only [AOp.sem] at hs
 split at hs
 · rename_i u hu
   obtain ⟨z,hz,rfl,rfl⟩:=hs
   rw [hu] at e1
   have e1':=QS e1
   exact ⟨z,w,by simp [execOp,ho,e1',qkG hz],.nil hok (.v _ _)⟩
 · exact hs.elim
theorem qpI {x} {i : Nat} {y1 : Opd} {d} (ho : o.op = .extract x i) (h1 : opd x = some y1) (hF : FrOK w g F a) (hok : HeapOK hp g w)
 (hs:(AOp.ext d y1 i).sem P (evF F) hp new r ws):VRun P o a w (Post hp g w r ws):=by
 have e1:=qF hF h1
 simp only [AOp.sem] at hs
 split at hs
 · rename_i vs hu
   obtain ⟨y,hy,rfl,rfl⟩:=hs
   rw [hu] at e1
   generalize hv:a.eval x=v at e1
   cases e1 with
   | tup _ cs us hl hr =>
     obtain ⟨hlt,rfl⟩:=List.getElem?_eq_some_iff.1 hy
     refine ⟨us.getD i undef,w,?_,.nil hok (hr i hlt)⟩
     have:i<us.length:=by omega
     simp [execOp,ho,hv,Instr.extract,this]
 · exact hs.elim
theorem qsu {x} {t agg sz} {y1 : Opd} {d} (ho : o.op = .load t x) (ht : zC P t = some (agg,sz)) (h1 : opd x = some y1) (hF : FrOK w g F a) (hok : HeapOK hp g w)
 (hs:(AOp.ld d agg sz y1).sem P (evF F) hp new r ws):VRun P o a w (Post hp g w r ws):=by
 have e1:=qF hF h1
 simp only [AOp.sem,WH] at hs
 split at hs
 · rename_i cs off hu
   obtain ⟨rfl,hs⟩:=hs
   rw [hu] at e1
   obtain ⟨b,q,hv,hrow⟩:=WF e1
   obtain ⟨v,h2,h3⟩:=JP ht hrow hs
   exact ⟨v,w,by simp [execOp,ho,hv,Instr.loadAt,Instr.sureAddr,h2],.nil hok h3⟩
 · rename_i id off hu
   split at hs
   · rename_i cs hid
     obtain ⟨rfl,hs⟩:=hs
     rw [hu] at e1
     obtain ⟨b,q,hv,hrow,_⟩:=WG e1 hok hid
     obtain ⟨v,h2,h3⟩:=JP ht hrow hs
     exact ⟨v,w,by simp [execOp,ho,hv,Instr.loadAt,Instr.sureAddr,h2],.nil hok h3⟩
   · exact hs.elim
 · exact hs.elim
theorem qsv {x y} {t agg sz} {y1 y2 : Opd} (ho : o.op = .store t x y) (ht : zC P t = some (agg,sz)) (h1 : opd x = some y1) (h2 : opd y = some y2) (hF : FrOK w g F a) (hok : HeapOK hp g w)
 (hs:(AOp.st sz y1 y2).sem P (evF F) hp new r ws):∃ w',(execOp a.eval o).run P w = .ok .skip w'∧Post hp g w r ws undef w':=by
 have e1:=qF hF h1
 have e2:=qF hF h2
 simp only [AOp.sem,qkI] at hs
 split at hs
 · rename_i id off hu
   split at hs
   · rename_i cs hid
     obtain ⟨hsz,hc,hle,rfl,rfl⟩:=hs
     rw [hu] at e1
     obtain ⟨b,q,hv,hrow,hρ⟩:=WG e1 hok hid
     obtain ⟨c1,c2,c3⟩:=XS e2 hc
     obtain ⟨w',s1,s2,s3⟩ := hok.store (P := P) hid hρ off (a.eval y).cells.toList (evF F y2).cells (by simpa using c1) (by omega) c2 (fun i hi => by
      obtain ⟨u,hu,hr⟩:=c3 i hi
      exact ⟨u,by simpa using hu,hr⟩)
     refine ⟨w',?_,g,.any _ _,s2,s3⟩
     have:(a.eval y).cells.size=sz:=by omega
     simp [execOp,ho,hv,Instr.storeAt,Instr.sureAddr,storeVar,qA ht,this,s1]
   · exact hs.elim
 · exact hs.elim
theorem qpz {x} {t agg sz} {y1 : Opd} {d} (ho : o.op = .box t x) (ht : zC P t = some (agg,sz)) (h1 : opd x = some y1) (hF : FrOK w g F a) (hok : HeapOK hp g w) (hn : hp new = none)
 (hs:(AOp.box d sz y1).sem P (evF F) hp new r ws):VRun P o a w (Post hp g w r ws):=by
 have e1:=qF hF h1
 obtain ⟨hsz,hc,rfl,rfl⟩:=hs
 obtain ⟨c1,c2,c3⟩:=XS e1 hc
 obtain ⟨s2,s3⟩:=hok.alloc_priv hn (a.eval x).cells t (evF F y1).cells (by omega) c3
 refine ⟨.pointer (some ⟨w.heap.size,0,none⟩),w.alloc (.cells (a.eval x).cells t),by simp [execOp,ho,Instr.box,newVar,newRow],_,?_,s2,s3⟩
 have:=Rep.ref (w:=w.alloc (.cells (a.eval x).cells t)) (g:=g.home new (.blk w.heap.size 0)) new 0 w.heap.size 0 (by simp [G.home])
 simpa using this
theorem qna {x} {y1 : Opd} {d} (ho : o.op = .nilCheck x) (h1 : opd x = some y1) (hF : FrOK w g F a) (hok : HeapOK hp g w)
 (hs:(AOp.nilc d y1).sem P (evF F) hp new r ws):VRun P o a w (Post hp g w r ws):=by
 have e1:=qF hF h1
 simp only [AOp.sem] at hs
 split at hs
 · rename_i cs off hu
   obtain ⟨rfl,rfl⟩:=hs
   rw [hu] at e1
   obtain ⟨b,q,hv,hrow⟩:=WF e1
   exact ⟨a.eval x,w,by simp [execOp,ho,hv],.nil hok e1⟩
 · rename_i id off hu
   obtain ⟨rfl,rfl⟩:=hs
   rw [hu] at e1
   generalize hv:a.eval x=v at e1
   cases e1 with
   | ref _ _ c dd hl=>exact ⟨_,w,by simp [execOp,ho,hv],.nil hok (.ref _ _ c dd hl)⟩
 · rename_i f as bs hu
   obtain ⟨rfl,rfl⟩:=hs
   rw [hu] at e1
   generalize hv:a.eval x=v at e1
   cases e1 with
   | fn _ _ _ _ xs ys hl hl' hr hr'=>exact ⟨_,w,by simp [execOp,ho,hv],.nil hok (.fn _ _ _ _ xs ys hl hl' hr hr')⟩
 · exact hs.elim
theorem qss {x} {s fi} {fields : Array Field} {f : Field} {agg sz} {y1 : Opd} {d} (ho : o.op = .fieldAddr s x fi) (hu : P.underlying s = some (.struct fields)) (hf : fields[fi]? = some f)
 (ht:zC P f.type=some (agg,sz)) (hz:sz≠0) (h1:opd x=some y1) (hF:FrOK w g F a) (hok:HeapOK hp g w)
 (hs:(AOp.fa d y1 f.offset).sem P (evF F) hp new r ws):VRun P o a w (Post hp g w r ws):=by
 have e1:=qF hF h1
 have key : ∀ b q,a.eval x = .pointer (some ⟨b,q,none⟩) → (execOp a.eval o).run P w = .ok (.value (.pointer (some ⟨b,q + f.offset,none⟩))) w := fun b q hv => by
  simp [execOp,ho,hv,Instr.fieldAt,run_underlying hu,hf,Instr.sureAddr,fieldPlace,qA ht,hz,zM]
 simp only [AOp.sem] at hs
 split at hs
 · rename_i cs off hy
   obtain ⟨rfl,rfl⟩:=hs
   rw [hy] at e1
   generalize hv:a.eval x=v at e1
   cases e1 with
   | ptr _ _ _ b q vs hc hr =>
     refine ⟨_,w,key _ _ hv,.nil hok ?_⟩
     rw [Nat.add_assoc]
     exact .ptr _ _ _ b q vs hc hr
 · rename_i id off hy
   obtain ⟨rfl,rfl⟩:=hs
   rw [hy] at e1
   generalize hv:a.eval x=v at e1
   cases e1 with
   | ref _ _ c dd hl =>
     refine ⟨_,w,key _ _ hv,.nil hok ?_⟩
     rw [Nat.add_assoc]
     exact .ref _ _ c dd hl
 · exact hs.elim
theorem qst {t x i e} {agg sz} {y1 y2 : Opd} {d} (ho : o.op = .indexAddr t x i) (hu : P.underlying t = some (.slice e)) (ht : zC P e = some (agg,sz)) (hz : sz ≠ 0)
 (h1:opd x=some y1) (h2:opd i=some y2) (hF:FrOK w g F a) (hok:HeapOK hp g w)
 (hs:(AOp.ia d sz y1 y2).sem P (evF F) hp new r ws):VRun P o a w (Post hp g w r ws):=by
 have e1:=qF hF h1
 have e2:=qF hF h2
 have key : ∀ b q n cap k j,a.eval x = .slice (some ⟨b,q,none⟩) n cap → a.eval i = .int k j → 0 ≤ j ∧ j < n →
  (execOp a.eval o).run P w = .ok (.value (.pointer (some ⟨b,q+j.toNat*sz,none⟩))) w:=fun b q n cap k j hv hi hj=>by
  simp [execOp,ho,hv,hi,Instr.indexAt,asIntOf,run_underlying hu,hj,qA ht,zM]
 simp only [AOp.sem] at hs
 split at hs
 · rename_i f n cs k j hy hi
   obtain ⟨hj,rfl,rfl,hlen⟩:=hs
   rw [hy] at e1;rw [hi] at e2
   have e2':=QS e2
   generalize hv:a.eval x=v at e1
   cases e1 with
   | sl _ _ _ _ ad cap vs hn hf hc hr =>
     have hpos:0<cs.length:=by
      have:0<n:=by omega
      rw [hlen];exact Nat.mul_pos this (by omega)
     obtain ⟨ad',rfl,hsp,_⟩:=hc 0 hpos
     obtain ⟨b,q,sp⟩:=ad'
     simp at hsp;subst hsp
     refine ⟨_,w,key _ _ _ _ _ _ hv e2' hj,.nil hok ?_⟩
     exact .ptr _ _ _ b q vs (fun m hm => by
      obtain ⟨_,h3,_,h4,h5⟩:=hc m hm
      cases h3
      exact ⟨h4,h5⟩) hr
 · rename_i id off n sz' k j hy hi
   obtain ⟨hj,rfl,rfl,rfl⟩:=hs
   rw [hy] at e1;rw [hi] at e2
   have e2':=QS e2
   generalize hv:a.eval x=v at e1
   cases e1 with
   | ms _ _ _ _ c dd cap arr ty fz hl hn hb hs =>
     refine ⟨_,w,key _ _ _ _ _ _ hv e2' hj,.nil hok ?_⟩
     rw [Nat.add_assoc]
     exact .ref _ _ c dd hl
   | msz=>omega
 · rename_i id off n c' sz' k j hy hi
   obtain ⟨hj,rfl,rfl,rfl⟩:=hs
   rw [hy] at e1;rw [hi] at e2
   have e2':=QS e2
   generalize hv:a.eval x=v at e1
   cases qiE e1 with
   | ms _ _ _ _ c dd cap arr ty fz hl hn hb hs =>
     refine ⟨_,w,key _ _ _ _ _ _ hv e2' hj,.nil hok ?_⟩
     rw [Nat.add_assoc]
     exact .ref _ _ c dd hl
   | msz=>omega
 · exact hs.elim
theorem qpK {t x i e ln} {agg sz} {y1 y2 : Opd} {d} (ho : o.op = .indexAddr t x i) (hu : P.underlying t = some (.array ln e)) (ht : zC P e = some (agg,sz))
 (h1:opd x=some y1) (h2:opd i=some y2) (hF:FrOK w g F a) (hok:HeapOK hp g w)
 (hs:(AOp.iaa d ln sz y1 y2).sem P (evF F) hp new r ws):VRun P o a w (Post hp g w r ws):=by
 have e1:=qF hF h1
 have e2:=qF hF h2
 have key : ∀ b q k j,a.eval x = .pointer (some ⟨b,q,none⟩) → a.eval i = .int k j → 0 ≤ j ∧ j < ln →
  (execOp a.eval o).run P w = .ok (.value (.pointer (some ⟨b,q+j.toNat*sz,none⟩))) w:=fun b q k j hv hi hj=>by
  simp [execOp,ho,hv,hi,Instr.indexAt,asIntOf,run_underlying hu,hj,qA ht,zM,Instr.sureAddr]
 simp only [AOp.sem] at hs
 split at hs
 · rename_i cs off k j hy hi
   obtain ⟨hj,rfl,rfl⟩:=hs
   rw [hy] at e1;rw [hi] at e2
   have e2':=QS e2
   generalize hv:a.eval x=v at e1
   cases e1 with
   | ptr _ _ _ b q vs hc hr =>
     refine ⟨_,w,key _ _ _ _ hv e2' hj,.nil hok ?_⟩
     rw [Nat.add_assoc]
     exact .ptr _ _ _ b q vs hc hr
 · rename_i id off k j hy hi
   obtain ⟨hj,rfl,rfl⟩:=hs
   rw [hy] at e1;rw [hi] at e2
   have e2':=QS e2
   generalize hv:a.eval x=v at e1
   cases e1 with
   | ref _ _ c dd hl =>
     refine ⟨_,w,key _ _ _ _ hv e2' hj,.nil hok ?_⟩
     rw [Nat.add_assoc]
     exact .ref _ _ c dd hl
 · exact hs.elim
theorem qaP {w g p cs v} (h:Rep w g p (.agg cs) v):∃ us:List Value,v = .agg us.toArray∧us.length=cs.length∧∀ i (hi:i<cs.length),Rep w g p cs[i] (us.getD i undef):=by
 cases h with
 | agg _ _ vs hl hr=>exact ⟨vs,rfl,hl,hr⟩
theorem qhQ {P : Program} {t agg sz} (ht : zC P t = some (agg,sz)) {cs : List AV} {us : List Value} {w g off r} (hl : us.length = cs.length) (hr : ∀ i (hi : i < cs.length),Rep w g false cs[i] (us.getD i undef))
 (hs:match agg with | true=>off+sz≤cs.length∧r = .agg (zT cs off sz) | false=>∃ y,cs[off]?=some y∧r=y) :
 ∃ v,(part t us.toArray off).run P w = .ok v w∧Rep w g false r v:=by
 cases agg with
 | true =>
   obtain ⟨hle,rfl⟩:=hs
   refine ⟨.agg (us.toArray.extract off (off+sz)),by simp [part,Yh ht,qA ht],?_⟩
   have := Rep.agg (w := w) (g := g) false (zT cs off sz) ((us.drop off).take sz) (by simp [zT]; omega) (fun i hi => by
    have hi':i<sz:=by simp [zT] at hi;omega
    have:=hr (off+i) (by omega)
    simp only [zT,List.getElem_take,List.getElem_drop]
    simpa [List.getD,List.getElem?_take_of_lt hi',List.getElem?_drop] using this)
   rw [show us.toArray.extract off (off+sz)=((us.drop off).take sz).toArray by simp [List.extract_eq_take_drop,List.take_drop]]
   exact this
 | false =>
   obtain ⟨y,hy,rfl⟩:=hs
   obtain ⟨hlt,rfl⟩:=List.getElem?_eq_some_iff.1 hy
   have:off<us.length:=by omega
   refine ⟨us.getD off undef,by simp [part,Yh ht,this],hr off hlt⟩
theorem qpJ {t x fi} {fields : Array Field} {f : Field} {agg sz} {y1 : Opd} {d} (ho : o.op = .field t x fi) (hu : P.underlying t = some (.struct fields)) (hf : fields[fi]? = some f)
 (ht:zC P f.type=some (agg,sz)) (h1:opd x=some y1) (hF:FrOK w g F a) (hok:HeapOK hp g w)
 (hs:(AOp.fld d agg sz f.offset y1).sem P (evF F) hp new r ws):VRun P o a w (Post hp g w r ws):=by
 have e1:=qF hF h1
 simp only [AOp.sem] at hs
 split at hs
 · rename_i cs hy
   obtain ⟨hs,rfl⟩:=hs
   rw [hy] at e1
   obtain ⟨us,hv,hl,hr⟩:=qaP e1
   obtain ⟨v,h2,h3⟩:=qhQ ht hl hr hs
   exact ⟨v,w,by simp [execOp,ho,hv,Instr.field,run_underlying hu,hf,asAgg,h2],.nil hok h3⟩
 · exact hs.elim
theorem qpM {t x i e ln} {agg sz} {y1 y2 : Opd} {d} (ho : o.op = .index t x i) (hu : P.underlying t = some (.array ln e)) (ht : zC P e = some (agg,sz))
 (h1:opd x=some y1) (h2:opd i=some y2) (hF:FrOK w g F a) (hok:HeapOK hp g w)
 (hs:(AOp.idx d ln agg sz y1 y2).sem P (evF F) hp new r ws):VRun P o a w (Post hp g w r ws):=by
 have e1:=qF hF h1
 have e2:=qF hF h2
 simp only [AOp.sem] at hs
 split at hs
 · rename_i cs k j hy hi
   obtain ⟨hj,hs,rfl⟩:=hs
   rw [hy] at e1;rw [hi] at e2
   have e2':=QS e2
   obtain ⟨us,hv,hl,hr⟩:=qaP e1
   obtain ⟨v,h3,h4⟩:=qhQ ht hl hr hs
   exact ⟨v,w,by simp [execOp,ho,hv,e2',Instr.index,asIntOf,run_underlying hu,hj,qA ht,h3],.nil hok h4⟩
 · exact hs.elim
theorem qpL {t x i} {y1 y2 : Opd} {d} (ho : o.op = .index t x i) (hu : P.underlying t = some .string)
 (h1:opd x=some y1) (h2:opd i=some y2) (hF:FrOK w g F a) (hok:HeapOK hp g w)
 (hs:(AOp.ids d y1 y2).sem P (evF F) hp new r ws):VRun P o a w (Post hp g w r ws):=by
 have e1:=qF hF h1
 have e2:=qF hF h2
 simp only [AOp.sem] at hs
 split at hs
 · rename_i s k j hy hi
   obtain ⟨hj,⟨b,hb,rfl⟩,rfl⟩:=hs
   rw [hy] at e1;rw [hi] at e2
   have e1':=QS e1
   have e2':=QS e2
   exact ⟨_,w,by simp [execOp,ho,e1',e2',Instr.index,asIntOf,run_underlying hu,hj,hb],.nil hok (.v _ _)⟩
 · exact hs.elim
theorem qpD {t t' x k} {y1 : Opd} {d k0} (ho : o.op = .convert t t' x) (hu : P.underlying t = some (.int k0)) (hu' : P.underlying t' = some (.int k))
 (h1:opd x=some y1) (hF:FrOK w g F a) (hok:HeapOK hp g w)
 (hs:(AOp.cnv d k y1).sem P (evF F) hp new r ws):VRun P o a w (Post hp g w r ws):=by
 have e1:=qF hF h1
 simp only [AOp.sem] at hs
 split at hs
 · rename_i k1 n hy
   obtain ⟨rfl,rfl⟩:=hs
   rw [hy] at e1
   have e1':=QS e1
   exact ⟨_,w,by simp [execOp,ho,e1',convert,run_underlying hu,run_underlying hu',Conv.intToInt],.nil hok (.v _ _)⟩
 · exact hs.elim
end
def QJ (hp:Hp) (g:G) (ids:List Nat) (b q:Nat):Prop:=∃ id cs d,id∈ids∧hp id=some (.cells cs)∧g.ρ id=some (.blk b d)∧d≤q∧q<d+cs.length
theorem Qk (hp : Hp) : ∀ (ids : List Nat) (i : Nat),Hp.write hp (zB ids) i = if i ∈ ids then some .gone else hp i
 | [],i=>by simp [zB,Hp.write]
 | x::ids, i=>by
   simp only [zB,List.map_cons,Hp.write]
   have:=Qk (Hp.set hp x .gone) ids i
   simp only [zB] at this
   rw [this]
   by_cases h:i∈ids
   · simp [h]
   · by_cases e : i = x
     · subst e;simp [h,Hp.set_same]
     · simp [h,e,Hp.set_other _ _ e]
theorem HeapOK.giveAll {hp g w} (h : HeapOK hp g w) (ids : List Nat) (hids : ∀ i ∈ ids,∃ cs,hp i = some (.cells cs)) :
 HeapOK (Hp.write hp (zB ids)) (g.pub (QJ hp g ids)) w∧Upd hp g w (Hp.write hp (zB ids)) (g.pub (QJ hp g ids)) w:=by
 have tr:Trans w g w (g.pub (QJ hp g ids)):=⟨fun _ _ x => .inl x,fun _ _ _=>rfl,fun _ _ x=>x,fun b arr ty fz hb=>⟨arr,hb,rfl⟩,rfl,rfl,rfl,Nat.le_refl _,Nat.le_refl _⟩
 refine ⟨h.change (fun i=>i∈ids) tr (fun i hi=>by rw [Qk,if_neg hi]) (fun _ _=>rfl) (fun _ _ _ _ _ _ _ _=>rfl) (fun i o c' d' hi ho' hl hr' q hq=>?_) ?_ ?_ ?_,tr,?_,?_,fun b hb _=>rfl⟩
 · rcases hq with hq | ⟨id,cs,d,h1,h2,h3,_⟩
   · exact hq
   · exact absurd (h.inj i id o _ c' d' d ho' h2 hl rfl hr' h3) (fun e=>hi (e ▸ h1))
 · intro i hi
   obtain ⟨cs,hcs⟩:=hids i hi
   obtain ⟨l,h1,_⟩:=h.rep i _ hcs
   exact ⟨.gone,l,by rw [Qk,if_pos hi],h1,by cases l <;> trivial⟩
 · intro i i' o1 o' c1 d1 d1' hi ho1 ho1' hl hl' hr1 hr1'
   rw [Qk,if_pos hi] at ho1;cases ho1;cases hl
 · rintro b q (hs | ⟨id,cs,d,h1,h2,h3,hq,hq'⟩)
   · exact h.ex b q hs
   · obtain ⟨l,e1,e2⟩ := h.rep id _ h2
     rw [h3] at e1;cases e1
     obtain ⟨arr,ty,fz,g1,g2,_⟩:=e2
     refine ⟨arr[q]'(by omega),?_⟩
     simp only [World.cell?,g1]
     simp [show q<arr.size by omega]
 · rintro c1 ⟨i,o1,d1,ho1,hl,hr1⟩
   rw [Qk] at ho1
   by_cases e:i∈ids
   · rw [if_pos e] at ho1;cases ho1;cases hl
   · rw [if_neg e] at ho1
     exact .inl ⟨i,o1,d1,ho1,hl,hr1⟩
 · rintro b q (hs | ⟨id,cs,d,h1,h2,h3,_⟩)
   · exact .inl hs
   · exact .inr (.inl ⟨id,_,d,h2,rfl,h3⟩)
theorem jj {α} {p:α→Bool} {l:List α} (h:(l.all p)=true) (i:Nat) (hi:i<l.length):p l[i]=true:=List.all_eq_true.1 h _ (List.getElem_mem _)
theorem qe8 {w g x v} (hx:x.isPure0=true) (h:Rep w g false x v):Rep w g true x v:=by
 cases h with
 | v=>exact .v _ _
 | sl _ _ _ _ _ _ vs h1 h2 h3 h4=>exact .sl _ _ _ _ _ _ vs h1 h2 h3 h4
 | ptr _ _ _ _ _ vs h1 h2=>exact .ptr _ _ _ _ _ vs h1 h2
 | _=>simp [AV.isPure0] at hx
theorem Yz {w g x v} (hx:x.isPure=true) (h:Rep w g false x v):Rep w g true x v:=by
 cases h with
 | v=>exact .v _ _
 | sl _ _ _ _ _ _ vs h1 h2 h3 h4=>exact .sl _ _ _ _ _ _ vs h1 h2 h3 h4
 | ptr _ _ _ _ _ vs h1 h2=>exact .ptr _ _ _ _ _ vs h1 h2
 | fn _ f as bs xs ys h1 h2 h3 h4 =>
   simp only [AV.isPure,Bool.and_eq_true] at hx
   exact .fn _ f as bs xs ys h1 h2 (fun i hi=>qe8 (jj hx.1 i hi) (h3 i hi)) (fun i hi=>qe8 (jj hx.2 i hi) (h4 i hi))
 | _=>simp [AV.isPure] at hx
theorem jB {cs:List AV} {off m i:Nat} (h:i<(zT cs off m).length):(zT cs off m)[i]=cs[off+i]'(by simp [zT] at h;omega):=by
 simp [zT]
theorem zA {cs:List AV} {off m:Nat} (h:off+m≤cs.length):(zT cs off m).length=m:=by simp [zT];omega
theorem YA {hp g w} (hok : HeapOK hp g w) {ids : List Nat} {y : AV} {id off n sz : Nat} {is : List Nat} {v : Value} (hp1 : ze hp (.ms id off n sz) = some (y,is)) (hsub : ∀ i ∈ is,i ∈ ids) (h : Rep w g false (.ms id off n sz) v) :
 Rep w (g.pub (QJ hp g ids)) true y v∧∀ i∈is,∃ cs,hp i=some (.cells cs):=by
 have tr:Trans w g w (g.pub (QJ hp g ids)):=⟨fun _ _ x => .inl x,fun _ _ _=>rfl,fun _ _ x=>x,fun b arr ty fz hb=>⟨arr,hb,rfl⟩,rfl,rfl,rfl,Nat.le_refl _,Nat.le_refl _⟩
 cases h with
 | ms _ _ _ _ c d cap arr0 ty0 fz0 hl hn hb hs =>
   simp only [ze] at hp1
   split at hp1
   · rename_i cs hcs
     split at hp1
     · rename_i hpure
       simp only [Option.some.injEq,Prod.mk.injEq] at hp1
       obtain ⟨rfl,rfl⟩:=hp1
       obtain ⟨l,e1,e2⟩:=hok.rep id _ hcs
       rw [hl] at e1;cases e1
       obtain ⟨arr,ty,fz,g1,g2,g3,g4,g5⟩:=e2
       refine ⟨.sl _ _ _ _ _ _ (fun i=>arr.getD (d+off+i) undef) hn (fun h=>by cases h) (fun i hi=>?_) (fun i hi=>?_),?_⟩
       · rw [zA hpure.1] at hi
         refine ⟨_,rfl,rfl,.inr ⟨id,cs,d,hsub id (by simp),hcs,hl,by show d≤d+off+i;omega,by show d+off+i<d+cs.length;omega⟩,?_⟩
         simp [World.cell?,g1,show d+off+i<arr.size by omega]
       · have hi' := hi
         rw [zA hpure.1] at hi'
         obtain ⟨x,hx,hr⟩:=g5 (off+i) (by omega)
         have:arr.getD (d+off+i) undef=x:=by rw [Nat.add_assoc];simp [hx]
         rw [this,jB hi]
         exact (Yz (jj hpure.2 _ (by omega)) hr).mono tr
       · intro i hi;simp at hi;subst hi;exact ⟨cs,hcs⟩
     · cases hp1
   · cases hp1
 | msz _ _ _ a l hl =>
   simp only [ze] at hp1
   split at hp1
   · rename_i cs hcs
     split at hp1
     · simp only [Option.some.injEq,Prod.mk.injEq] at hp1
       obtain ⟨rfl,rfl⟩:=hp1
       refine ⟨.sl _ _ _ _ _ _ (fun i=>undef) (Nat.le_refl _) (fun h=>by cases h) (fun i hi=>by simp [zT] at hi) (fun i hi=>by simp [zT] at hi),?_⟩
       intro i hi;simp at hi;subst hi;exact ⟨cs,hcs⟩
     · cases hp1
   · cases hp1
theorem qaM {hp g w} (hok : HeapOK hp g w) {ids : List Nat} {x y : AV} {is : List Nat} {v : Value} (hp1 : ze hp x = some (y,is)) (hsub : ∀ i ∈ is,i ∈ ids) (h : Rep w g false x v) :
 Rep w (g.pub (QJ hp g ids)) true y v∧∀ i∈is,∃ cs,hp i=some (.cells cs):=by
 have tr:Trans w g w (g.pub (QJ hp g ids)):=⟨fun _ _ x => .inl x,fun _ _ _=>rfl,fun _ _ x=>x,fun b arr ty fz hb=>⟨arr,hb,rfl⟩,rfl,rfl,rfl,Nat.le_refl _,Nat.le_refl _⟩
 cases h with
 | v=>simp [ze] at hp1;obtain ⟨rfl,rfl⟩:=hp1;exact ⟨.v _ _,by simp⟩
 | sl _ _ _ _ _ _ vs h1 h2 h3 h4 =>
   simp [ze] at hp1;obtain ⟨rfl,rfl⟩:=hp1
   exact ⟨(Rep.sl true _ _ _ _ _ vs h1 h2 h3 h4).mono tr,by simp⟩
 | ptr _ _ _ _ _ vs h1 h2 =>
   simp [ze] at hp1;obtain ⟨rfl,rfl⟩:=hp1
   exact ⟨(Rep.ptr true _ _ _ _ vs h1 h2).mono tr,by simp⟩
 | ref id off c d hl =>
   simp only [ze] at hp1
   split at hp1
   · rename_i cs hcs
     split at hp1
     · rename_i hpure
       simp only [Option.some.injEq,Prod.mk.injEq] at hp1
       obtain ⟨rfl,rfl⟩:=hp1
       obtain ⟨l,e1,e2⟩:=hok.rep id _ hcs
       rw [hl] at e1;cases e1
       obtain ⟨arr,ty,fz,g1,g2,g3,g4,g5⟩:=e2
       refine ⟨.ptr _ _ _ c d (fun i=>arr.getD (d+i) undef) (fun i hi=>⟨.inr ⟨id,cs,d,hsub id (by simp),hcs,hl,by omega,by omega⟩,?_⟩) (fun i hi=>?_),?_⟩
       · simp [World.cell?,g1,show d+i<arr.size by omega]
       · obtain ⟨x,hx,hr⟩ := g5 i hi
         have:arr.getD (d+i) undef=x:=by simp [hx]
         rw [this]
         exact (Yz (jj hpure i hi) hr).mono tr
       · intro i hi;simp at hi;subst hi;exact ⟨cs,hcs⟩
     · cases hp1
   · cases hp1
 | ms id off n sz c d cap arr0 ty0 fz0 hl hn hb hs=>exact YA hok hp1 hsub (.ms _ _ _ _ _ _ _ _ _ _ hl hn hb hs)
 | msz id off sz a l hl=>exact YA hok hp1 hsub (.msz _ _ _ _ _ hl)
 | mc id off n cap sz c d arr0 ty0 fz0 hl hn hb hs=>exact YA (n:=n) hok hp1 hsub (qiE (p:=false) (.mc _ _ _ _ _ _ _ _ _ _ hl hn hb hs))
 | mcz id off sz a l hl=>exact YA (n:=0) hok hp1 hsub (qiE (p:=false) (.mcz _ _ _ _ _ hl))
 | any=>simp [ze] at hp1
 | agg=>simp [ze] at hp1
 | tup=>simp [ze] at hp1
 | fn=>simp [ze] at hp1
 | mp=>simp [ze] at hp1
 | yl=>simp [ze] at hp1
theorem qaL {hp:Hp} {x y:AV} {is:List Nat} (h:ze hp x=some (y,is)):∀ i∈is,∃ cs,hp i=some (.cells cs):=by
 cases x <;> simp only [ze] at h <;> (try (simp only [Option.some.injEq,Prod.mk.injEq,reduceCtorEq] at h)) <;> (try (obtain ⟨-,rfl⟩:=h;simp;done))
 all_goals
  split at h
  · rename_i cs hcs
    split at h
    · simp only [Option.some.injEq,Prod.mk.injEq] at h
      obtain ⟨-,rfl⟩:=h
      intro i hi;simp at hi;subst hi;exact ⟨cs,hcs⟩
    · cases h
  · cases h
theorem Jd {hp : Hp} : ∀ {xs ys : List AV} {is : List Nat},QT hp xs = some (ys,is) → ∀ i ∈ is,∃ cs,hp i = some (.cells cs)
 | [],ys,is,h=>by simp [QT] at h;obtain ⟨rfl,rfl⟩:=h;simp
 | x::xs, ys, is, h=>by
   simp only [QT] at h
   split at h
   · rename_i y a ys' b h1 h2
     simp only [Option.some.injEq,Prod.mk.injEq] at h
     obtain ⟨rfl,rfl⟩:=h
     intro i hi
     rcases List.mem_append.1 hi with hi | hi
     · exact qaL h1 i hi
     · exact Jd h2 i hi
   · cases h
theorem Je {hp g w} (hok : HeapOK hp g w) {ids : List Nat} : ∀ {xs ys : List AV} {is : List Nat},QT hp xs = some (ys,is) → (∀ i ∈ is,i ∈ ids) → ys.length = xs.length ∧
 ∀ j (hj:j<xs.length) (hj':j<ys.length) v,Rep w g false xs[j] v→Rep w (g.pub (QJ hp g ids)) true ys[j] v
 | [],ys,is,h,hsub=>by simp [QT] at h;obtain ⟨rfl,rfl⟩:=h;simp
 | x::xs, ys, is, h, hsub=>by
   simp only [QT] at h
   split at h
   · rename_i y a ys' b h1 h2
     simp only [Option.some.injEq,Prod.mk.injEq] at h
     obtain ⟨rfl,rfl⟩:=h
     obtain ⟨l1,l3⟩:=Je hok h2 (fun i hi=>hsub i (by simp [hi]))
     refine ⟨by simp [l1],fun j hj hj' v hr=>?_⟩
     cases j with
     | zero=>exact (qaM hok h1 (fun i hi=>hsub i (by simp [hi])) hr).1
     | succ j=>exact l3 j (by simpa using hj) (by simpa using hj') v hr
   · cases h
theorem Vj {hp:Hp} {x y:AV} {is:List Nat} (h:zu hp x=some (y,is)):∀ i∈is,∃ cs,hp i=some (.cells cs):=by
 cases x with
 | agg cs =>
   simp only [zu,Option.map_eq_some_iff] at h
   obtain ⟨⟨ys,a⟩,h1,h2⟩:=h
   simp only [Prod.mk.injEq] at h2
   obtain ⟨-,rfl⟩:=h2
   exact Jd h1
 | fn f as bs =>
   simp only [zu] at h
   split at h
   · rename_i xs a ys b h1 h2
     simp only [Option.some.injEq,Prod.mk.injEq] at h
     obtain ⟨-,rfl⟩:=h
     intro i hi
     rcases List.mem_append.1 hi with hi | hi
     · exact Jd h1 i hi
     · exact Jd h2 i hi
   · cases h
 | _=>simp only [zu] at h;exact qaL h
theorem Qx {hp g w} (hok : HeapOK hp g w) {ids : List Nat} {x y : AV} {is : List Nat} {v : Value} (hp1 : zu hp x = some (y,is)) (hsub : ∀ i ∈ is,i ∈ ids) (h : Rep w g false x v) :
 Rep w (g.pub (QJ hp g ids)) true y v∧∀ i∈is,∃ cs,hp i=some (.cells cs):=by
 refine ⟨?_,Vj hp1⟩
 cases x with
 | agg cs =>
   simp only [zu,Option.map_eq_some_iff] at hp1
   obtain ⟨⟨ys,a⟩,h1,h2⟩:=hp1
   simp only [Prod.mk.injEq] at h2
   obtain ⟨rfl,rfl⟩:=h2
   cases h with
   | agg _ cs vs hl hr =>
     obtain ⟨l1,l3⟩:=Je hok h1 hsub
     exact .agg _ _ _ (by omega) (fun i hi=>l3 i (by omega) hi _ (hr i (by omega)))
 | fn f as bs =>
   simp only [zu] at hp1
   split at hp1
   · rename_i xs a ys b h1 h2
     simp only [Option.some.injEq,Prod.mk.injEq] at hp1
     obtain ⟨rfl,rfl⟩:=hp1
     cases h with
     | fn _ f as bs us vs hl hl' hr hr' =>
       obtain ⟨l1,l3⟩:=Je hok h1 (fun i hi=>hsub i (by simp [hi]))
       obtain ⟨m1,m3⟩:=Je hok h2 (fun i hi=>hsub i (by simp [hi]))
       exact .fn _ _ _ _ _ _ (by omega) (by omega) (fun i hi=>l3 i (by omega) hi _ (hr i (by omega))) (fun i hi=>m3 i (by omega) hi _ (hr' i (by omega)))
   · cases hp1
 | _=>simp only [zu] at hp1;exact (qaM hok hp1 hsub h).1
theorem Vk {hp : Hp} : ∀ {xs ys : List AV} {is : List Nat},Qq hp xs = some (ys,is) → ∀ i ∈ is,∃ cs,hp i = some (.cells cs)
 | [],ys,is,h=>by simp [Qq] at h;obtain ⟨rfl,rfl⟩:=h;simp
 | x::xs, ys, is, h=>by
   simp only [Qq] at h
   split at h
   · rename_i y a ys' b h1 h2
     simp only [Option.some.injEq,Prod.mk.injEq] at h
     obtain ⟨rfl,rfl⟩:=h
     intro i hi
     rcases List.mem_append.1 hi with hi | hi
     · exact Vj h1 i hi
     · exact Vk h2 i hi
   · cases h
theorem Jx {hp:Hp} {x y:AV} {is:List Nat} (h:qU hp x=some (y,is)):∀ i∈is,∃ cs,hp i=some (.cells cs):=by
 cases x <;> simp only [qU,Option.map_eq_some_iff] at h <;> first
  | exact Vj h
  | (obtain ⟨⟨ys, a⟩, h1, h2⟩ := h
     simp only [Prod.mk.injEq] at h2
     obtain ⟨-,rfl⟩:=h2
     exact Vk h1)
theorem Qv {hp : Hp} : ∀ {xs ys : List AV} {is : List Nat},qE hp xs = some (ys,is) → ∀ i ∈ is,∃ cs,hp i = some (.cells cs)
 | [],ys,is,h=>by simp [qE] at h;obtain ⟨rfl,rfl⟩:=h;simp
 | x::xs, ys, is, h=>by
   simp only [qE] at h
   split at h
   · rename_i y a ys' b h1 h2
     simp only [Option.some.injEq,Prod.mk.injEq] at h
     obtain ⟨rfl,rfl⟩:=h
     intro i hi
     rcases List.mem_append.1 hi with hi | hi
     · exact Jx h1 i hi
     · exact Qv h2 i hi
   · cases h
theorem JM {hp g w} (hok : HeapOK hp g w) {ids : List Nat} : ∀ {xs ys : List AV} {is : List Nat},Qq hp xs = some (ys,is) → (∀ i ∈ is,i ∈ ids) → ys.length = xs.length ∧
 ∀ j (hj:j<xs.length) (hj':j<ys.length) v,Rep w g false xs[j] v→Rep w (g.pub (QJ hp g ids)) true ys[j] v
 | [],ys,is,h,hsub=>by simp [Qq] at h;obtain ⟨rfl,rfl⟩:=h;simp
 | x::xs, ys, is, h, hsub=>by
   simp only [Qq] at h
   split at h
   · rename_i y a ys' b h1 h2
     simp only [Option.some.injEq,Prod.mk.injEq] at h
     obtain ⟨rfl,rfl⟩:=h
     obtain ⟨l1,l3⟩:=JM hok h2 (fun i hi=>hsub i (by simp [hi]))
     refine ⟨by simp [l1],fun j hj hj' v hr=>?_⟩
     cases j with
     | zero=>exact (Qx hok h1 (fun i hi=>hsub i (by simp [hi])) hr).1
     | succ j=>exact l3 j (by simpa using hj) (by simpa using hj') v hr
   · cases h
theorem jE {hp g w} (hok : HeapOK hp g w) {ids : List Nat} {x y : AV} {is : List Nat} {v : Value} (h : qU hp x = some (y,is)) (hsub : ∀ i ∈ is,i ∈ ids) (hr : Rep w g false x v) :
 Rep w (g.pub (QJ hp g ids)) true y v:=by
 cases hr with
 | agg _ cs vs hl hr =>
   simp only [qU,Option.map_eq_some_iff] at h
   obtain ⟨⟨ys,a⟩,h1,h2⟩:=h
   simp only [Prod.mk.injEq] at h2
   obtain ⟨rfl,rfl⟩:=h2
   obtain ⟨l1,l3⟩:=JM hok h1 hsub
   exact .agg _ _ _ (by omega) (fun i hi=>l3 i (by omega) hi _ (hr i (by omega)))
 | tup _ cs vs hl hr =>
   simp only [qU,Option.map_eq_some_iff] at h
   obtain ⟨⟨ys,a⟩,h1,h2⟩:=h
   simp only [Prod.mk.injEq] at h2
   obtain ⟨rfl,rfl⟩:=h2
   obtain ⟨l1,l3⟩:=JM hok h1 hsub
   exact .tup _ _ _ (by omega) (fun i hi=>l3 i (by omega) hi _ (hr i (by omega)))
 | v=>exact (Qx (x:=_) hok (by simpa only [qU] using h) hsub (.v _ _)).1
 | any=>simp [qU,zu,ze] at h
 | sl _ _ _ _ _ _ vs h1 h2 h3 h4=>exact (Qx (x:=_) hok (by simpa only [qU] using h) hsub (.sl _ _ _ _ _ _ vs h1 h2 h3 h4)).1
 | ptr _ _ _ _ _ vs h1 h2=>exact (Qx (x:=_) hok (by simpa only [qU] using h) hsub (.ptr _ _ _ _ _ vs h1 h2)).1
 | ref _ _ _ _ h1=>exact (Qx (x:=_) hok (by simpa only [qU] using h) hsub (.ref _ _ _ _ h1)).1
 | ms _ _ _ _ _ _ _ _ _ _ h1 h2 h3 h4=>exact (Qx (x:=_) hok (by simpa only [qU] using h) hsub (.ms _ _ _ _ _ _ _ _ _ _ h1 h2 h3 h4)).1
 | msz _ _ _ _ _ h1=>exact (Qx (x:=_) hok (by simpa only [qU] using h) hsub (.msz _ _ _ _ _ h1)).1
 | fn _ _ _ _ _ _ h1 h2 h3 h4=>exact (Qx (x:=_) hok (by simpa only [qU] using h) hsub (.fn _ _ _ _ _ _ h1 h2 h3 h4)).1
 | mp=>simp [qU,zu,ze] at h
 | yl=>simp [qU,zu,ze] at h
 | mc _ _ _ _ _ _ _ _ _ _ h1 h2 h3 h4=>exact (Qx (x:=_) hok (by simpa only [qU] using h) hsub (.mc _ _ _ _ _ _ _ _ _ _ h1 h2 h3 h4)).1
 | mcz _ _ _ _ _ h1=>exact (Qx (x:=_) hok (by simpa only [qU] using h) hsub (.mcz _ _ _ _ _ h1)).1
theorem ZD {hp g w} (hok : HeapOK hp g w) {ids : List Nat} : ∀ {xs ys : List AV} {is : List Nat},qE hp xs = some (ys,is) → (∀ i ∈ is,i ∈ ids) → ys.length = xs.length ∧
 ∀ j (hj:j<xs.length) (hj':j<ys.length) v,Rep w g false xs[j] v→Rep w (g.pub (QJ hp g ids)) true ys[j] v
 | [],ys,is,h,hsub=>by simp [qE] at h;obtain ⟨rfl,rfl⟩:=h;simp
 | x::xs, ys, is, h, hsub=>by
   simp only [qE] at h
   split at h
   · rename_i y a ys' b h1 h2
     simp only [Option.some.injEq,Prod.mk.injEq] at h
     obtain ⟨rfl,rfl⟩:=h
     obtain ⟨l1,l3⟩:=ZD hok h2 (fun i hi=>hsub i (by simp [hi]))
     refine ⟨by simp [l1],fun j hj hj' v hr=>?_⟩
     cases j with
     | zero=>exact jE hok h1 (fun i hi=>hsub i (by simp [hi])) hr
     | succ j=>exact l3 j (by simpa using hj) (by simpa using hj') v hr
   · cases h
def RowA (w:World) (g:G) (p:Bool) (arr:Array Value) (cs:List AV):Prop:=arr.size=cs.length∧∀ i (h:i<cs.length),∃ x,arr[i]?=some x∧Rep w g p cs[i] x
theorem ZH (z : List AV) : ∀ n,(zP n z).length = n * z.length
 | 0=>by simp [zP]
 | n+1=>by simp [zP,ZH z n,Nat.add_mul];omega
theorem qh2 (z : List AV) : ∀ n i (h : i < (zP n z).length),∃ h' : i % z.length < z.length,(zP n z)[i] = z[i % z.length]
 | 0,i,h=>by simp [zP] at h
 | n+1, i, h=>by
   have hz:0<z.length:=by
    rcases Nat.eq_zero_or_pos z.length with e | e
    · rw [ZH,e] at h;simp at h
    · exact e
   refine ⟨Nat.mod_lt _ hz,?_⟩
   simp only [zP]
   by_cases hi:i<z.length
   · rw [List.getElem_append_left hi];simp [Nat.mod_eq_of_lt hi]
   · rw [List.getElem_append_right (by omega)]
     have hl:i - z.length<(zP n z).length:=by rw [ZH] at h ⊢;rw [Nat.add_mul] at h;omega
     obtain ⟨h1,h2⟩:=qh2 z n (i - z.length) hl
     rw [h2]
     congr 1
     have e:=Nat.add_mod_right (i - z.length) z.length
     rw [Nat.sub_add_cancel (by omega)] at e
     exact e.symm
def QU (P:Program) (t:TypeId):Option (List AV):=((P.info? t).bind (·.zero)).map fun v=>v.cells.toList.map AV.ofCell
theorem jF {P:Program} {t z} (h:QU P t=some z) (w:World):∃ v:Value,(zeroValue t).run P w = .ok v w∧z=v.cells.toList.map AV.ofCell:=by
 simp only [QU,Option.map_eq_some_iff,Option.bind_eq_some_iff] at h
 obtain ⟨v,⟨i,hi,hv⟩,rfl⟩:=h
 exact ⟨v,by simp [zeroValue,typeInfo,hi,hv],rfl⟩
theorem Yg {w g p} (v:Value):RowA w g p v.cells (v.cells.toList.map AV.ofCell):=by
 refine ⟨by simp,fun i hi=>?_⟩
 simp at hi
 exact ⟨v.cells[i],by simp [hi],by simp;exact Jy _ _ _ _⟩
theorem WE {w g p} (v:Value) (n:Nat):RowA w g p ((Array.range (n*v.cells.size)).map fun i=>v.cells[i % v.cells.size]!) (zP n (v.cells.toList.map AV.ofCell)):=by
 refine ⟨by simp [ZH],fun i hi=>?_⟩
 obtain ⟨h1,h2⟩:=qh2 _ n i hi
 have hi':i<n*v.cells.size:=by simpa [ZH] using hi
 have h1':i % v.cells.size<v.cells.size:=by simpa using h1
 refine ⟨v.cells[i % v.cells.size],by simp [hi',h1'],?_⟩
 rw [h2]
 simp
 exact Jy _ _ _ _
theorem qa4 (off : Nat) : ∀ (l : List Value) (k : Nat) (arr : Array Value),off + k + l.length ≤ arr.size → ∀ i,
 ((l.zipIdx k).foldl (fun cs (x:Value × Nat)=>cs.setIfInBounds (off+x.2) x.1) arr)[i]?=if i<off+k then arr[i]? else if i<off+k+l.length then l[i - (off+k)]? else arr[i]?
 | [],k,arr,_,i=>by simp;omega
 | c::l, k, arr, h, i=>by
   simp only [List.zipIdx_cons,List.foldl_cons]
   simp at h
   rw [qa4 off l (k+1) _ (by simp;omega) i]
   by_cases h1:i<off+k
   · rw [if_pos (by omega),if_pos h1,Array.getElem?_setIfInBounds_ne (by omega)]
   · rw [if_neg h1]
     by_cases h2:i=off+k
     · subst h2
       rw [if_pos (by omega),if_pos (by simp)]
       simp [show off+k<arr.size by omega]
     · rw [if_neg (by omega)]
       by_cases h3:i<off+k+(l.length+1)
       · rw [if_pos (by omega),if_pos (by simpa using h3),show i - (off+k)=(i - (off+(k+1)))+1 by omega];simp
       · rw [if_neg (by omega),if_neg (by simpa using h3),Array.getElem?_setIfInBounds_ne (by omega)]
theorem qi6 (off : Nat) (vs : Array Value) (arr : Array Value) (h : off + vs.size ≤ arr.size) :
 vs.zipIdx.foldl (fun cs (x:Value × Nat)=>cs.setIfInBounds (off+x.2) x.1) arr=Zc arr off vs.toList:=by
 apply Array.ext_getElem?
 intro i
 rw [Qy _ _ _ (by simpa using h),←Array.foldl_toList,Array.toList_zipIdx]
 rw [qa4 off vs.toList 0 arr (by simpa using h) i]
 simp
theorem RowA.splice {w g p arr cs} (h : RowA w g p arr cs) {off : Nat} {vs : List Value} {xs : List AV} (hlen : vs.length = xs.length) (hle : off + xs.length ≤ cs.length)
 (hr:∀ i (hi:i<xs.length),∃ u,vs[i]?=some u∧Rep w g p xs[i] u):RowA w g p (Zc arr off vs) (splice cs off xs):=by
 obtain ⟨h1,h2⟩:=h
 have hsz:=Ji arr off vs (by omega)
 have hl:(AM.splice cs off xs).length=cs.length:=by simp [AM.splice];omega
 refine ⟨by omega,fun i hi=>?_⟩
 rw [Qy _ _ _ (by omega)]
 have hk:(cs.take off).length=off:=by simp;omega
 by_cases a1:i<off
 · rw [if_pos a1]
   obtain ⟨x,hx,hx'⟩:=h2 i (by omega)
   refine ⟨x,hx,?_⟩
   have : (AM.splice cs off xs)[i] = cs[i]'(by omega) := by
    simp only [AM.splice,List.append_assoc]
    rw [List.getElem_append_left (by omega)];simp
   rw [this];exact hx'
 · rw [if_neg a1]
   by_cases a2:i<off+xs.length
   · rw [if_pos (by omega)]
     obtain ⟨u,hu,hu'⟩:=hr (i - off) (by omega)
     refine ⟨u,hu,?_⟩
     have : (AM.splice cs off xs)[i] = xs[i - off]'(by omega) := by
      simp only [AM.splice,List.append_assoc]
      rw [List.getElem_append_right (by omega),List.getElem_append_left (by omega)]
      simp only [hk]
     rw [this];exact hu'
   · rw [if_neg (by omega)]
     obtain ⟨x,hx,hx'⟩:=h2 i (by omega)
     refine ⟨x,hx,?_⟩
     have : (AM.splice cs off xs)[i] = cs[i]'(by omega) := by
      simp only [AM.splice,List.append_assoc]
      rw [List.getElem_append_right (by omega),List.getElem_append_right (by omega),List.getElem_drop]
      congr 1
      simp only [hk];omega
     rw [this];exact hx'
def qb6 (cs : List AV) : List (Nat × AV) → List AV
 | []=>cs
 | (off,x)::rest=>qb6 (splice cs off x.cells) rest
theorem Xr {w g p} (place : Nat → Option (Nat × Nat)) : ∀ (l : List (Nat × Value)) (m : List (Nat × AV)) (arr : Array Value) (cs : List AV),l.length = m.length → RowA w g p arr cs →
 (∀ i (h:i<l.length) (h':i<m.length),∃ sz,place l[i].1=some (m[i].1,sz)∧m[i].2.cells.length=sz∧m[i].1+sz≤cs.length∧(m[i].2.cells.all AV.isCell)=true∧Rep w g p m[i].2 l[i].2) →
 ∃ arr',Instr.fill place arr l=some arr'∧RowA w g p arr' (qb6 cs m)
 | [],m,arr,cs,hl,hr,_=>by
   cases m with
   | nil=>exact ⟨arr,rfl,hr⟩
   | cons=>simp at hl
 | (i, v)::l, m, arr, cs, hl, hr, h=>by
   cases m with
   | nil=>simp at hl
   | cons mm m =>
     obtain ⟨off,x⟩:=mm
     obtain ⟨sz,h1,h2,h3,h4,h5⟩:=h 0 (by simp) (by simp)
     simp only [List.getElem_cons_zero] at h1 h2 h3 h4 h5
     obtain ⟨c1,c2,c3⟩:=XS h5 h4
     have hsz:v.cells.size=sz:=by omega
     have hle:off+v.cells.size≤arr.size:=by have:=hr.1;omega
     have hrow := hr.splice (off := off) (vs := v.cells.toList) (xs := x.cells) (by simpa using c1) (by omega) (fun j hj => by
      obtain ⟨u,hu,hu'⟩:=c3 j hj
      exact ⟨u,by simpa using hu,hu'⟩)
     obtain ⟨arr',g1,g2⟩ := Xr place l m _ _ (by simpa using hl) hrow (fun j hj hj' => by
      obtain ⟨sz,a1,a2,a3,a4,a5⟩:=h (j+1) (by simpa using hj) (by simpa using hj')
      simp only [List.getElem_cons_succ] at a1 a2 a3 a4 a5
      exact ⟨sz, a1, a2, by have : (AM.splice cs off x.cells).length = cs.length := by { simp [AM.splice]; omega }
                            omega,a4,a5⟩)
     refine ⟨arr',?_,g2⟩
     unfold Instr.fill
     simp only [h1]
     have hcond:(v.cells.size≠sz || off+v.cells.size>arr.size)=false:=by simp [hsz];omega
     rw [hcond,qi6 off v.cells arr hle]
     simpa using g1
theorem qhH (sz : Nat) : ∀ (l : List (Nat × AV)) (cs : List AV),place cs sz l = qb6 cs (l.map fun p => (p.1 * sz,p.2))
 | [],cs=>rfl
 | (i,x)::l,cs=>by simp [place,qb6,qhH sz l]
theorem qaG : ∀ (l : List (Nat × Nat × AV)) (cs : List AV),WZ cs l = qb6 cs (l.map fun p => (p.1,p.2.2))
 | [],cs=>rfl
 | (i,n,x)::l,cs=>by simp [WZ,qb6,qaG l]
theorem VRun.of {P:Program} {o:Oper} {a:Act} {w w':World} {post:Value→World→Prop} {v:Value} (h:(execOp a.eval o).run P w = .ok (.value v) w') (hp:post v w'):VRun P o a w post:=⟨v,w',h,hp⟩
section
variable {P:Program} {o:Oper} {a:Act} {w:World} {g:G} {hp:Hp} {F:Nat→AV} {new:Nat} {r:AV} {ws:List (Nat × HObj)}
theorem Post.row (hok : HeapOK hp g w) (hn : hp new = none) {arr : Array Value} (ty : TypeId) {cs : List AV} (h : RowA w g false arr cs) :
 ∃ g',g'.ρ new=some (.blk w.heap.size 0)∧HeapOK (Hp.write hp [(new,.cells cs)]) g' (w.alloc (.cells arr ty))∧Upd hp g w (Hp.write hp [(new,.cells cs)]) g' (w.alloc (.cells arr ty)):=by
 obtain ⟨s2,s3⟩:=hok.alloc_priv hn arr ty cs (by have:=h.1;omega) h.2
 exact ⟨_,by simp [G.home],s2,s3⟩
theorem qsr {t z} {d} (ho : o.op = .alloc t) (hz : QU P t = some z) (hok : HeapOK hp g w) (hn : hp new = none)
 (hs:(AOp.al d z).sem P (evF F) hp new r ws):VRun P o a w (Post hp g w r ws):=by
 obtain ⟨rfl,rfl⟩:=hs
 obtain ⟨v,h1,rfl⟩:=jF hz w
 obtain ⟨g',h2,h3,h4⟩:=Post.row hok hn t (Yg (w:=w) (g:=g) (p:=false) v)
 refine .of (v := .pointer (some ⟨w.heap.size,0,none⟩)) (by simp [execOp,ho,Instr.alloc,h1,newVar,newRow]) ⟨g',?_,h3,h4⟩
 have:=Rep.ref (w:=w.alloc (.cells v.cells t)) (g:=g') new 0 w.heap.size 0 h2
 simpa using this
theorem qpA {t e n} {parts : Array (Nat × Operand)} {qs : List (Nat × Opd)} {agg sz z} {d} (ho : o.op = .buildSlice t n parts) (hu : P.underlying t = some (.slice e)) (ht : zC P e = some (agg,sz))
 (hz:QU P e=some z) (hzl:z.length=sz) (hmax:n*sz≤2 ^ 24) (hql:qs.length=parts.size) (hq:∀ i (h:i<parts.size) (h':i<qs.length),parts[i].1=qs[i].1∧opd parts[i].2=some qs[i].2∧qs[i].1<n)
 (hF:FrOK w g F a) (hok:HeapOK hp g w)
 (hs:(AOp.bsl d n sz z qs).sem P (evF F) hp new r ws):VRun P o a w (Post hp g w r ws):=by
 obtain ⟨ys,is,h1,h2,rfl,rfl⟩:=hs
 obtain ⟨hok',hupd⟩:=hok.giveAll is (Qv h1)
 obtain ⟨l1,l2⟩:=ZD hok h1 (fun i h=>h)
 simp at l1
 obtain ⟨zv,hzr,rfl⟩:=jF hz w
 simp at hzl
 have hzero : ∃ arr0 : Array Value,(do
  let zero ←if n*sz=0 then pure #[] else do pure (←zeroValue e).cells
  pure ((Array.range (n*sz)).map (zero[· % zero.size]!)):Sem (Array Value)).run P w = .ok arr0 w∧RowA w (g.pub (QJ hp g is)) true arr0 (zP n (zv.cells.toList.map AV.ofCell)):=by
  by_cases h0:n*sz=0
  · refine ⟨#[],by simp [h0],?_⟩
    have:(zP n (zv.cells.toList.map AV.ofCell))=[]:=List.eq_nil_of_length_eq_zero (by rw [ZH];simpa [hzl] using h0)
    rw [this];exact ⟨rfl,fun i hi=>by simp at hi⟩
  · refine ⟨_,by simp [h0,hzr]; rfl,?_⟩
    rw [←hzl]
    exact WE zv n
 obtain ⟨arr0,hz0,hrow0⟩:=hzero
 have hzlen:(zP n (zv.cells.toList.map AV.ofCell)).length=n*sz:=by rw [ZH];simp [hzl]
 obtain ⟨arr,hfill,hrow⟩ := Xr (fun i => some (i * sz,sz)) (parts.toList.map fun x => (x.1,a.eval x.2)) (((qs.map (·.1)).zip ys).map fun p => (p.1 * sz,p.2)) arr0 _
  (by simp [hql, l1]) hrow0 (fun i hi hi' => by
   have hi1:i<parts.size:=by simpa using hi
   have hi2:i<qs.length:=by omega
   obtain ⟨q1,q2,q3⟩:=hq i hi1 hi2
   have hc:=jj h2 i (by omega)
   simp only [Bool.and_eq_true,beq_iff_eq] at hc
   refine ⟨sz,by simp [q1],by simpa using hc.2,?_,by simpa using hc.1.1,?_⟩
   · rw [hzlen]
     simp
     calc qs[i].1 * sz + sz = (qs[i].1 + 1) * sz := by rw [Nat.add_mul]; omega
      _≤n*sz:=Nat.mul_le_mul_right _ q3
   · have := l2 i (by simpa using hi2) (by omega) (a.eval parts[i].2) (by simpa using qF hF q2)
     simpa using this)
 rw [←qhH] at hrow
 obtain ⟨hok2,hupd2⟩:=hok'.alloc_pub arr e
 refine .of (v := .slice (some ⟨w.heap.size,0,none⟩) n n) (w':=w.alloc (.cells arr e)) ?_ ⟨_,?_,hok2,hupd.trans hupd2⟩
 · have hmax' : ¬ (n * sz > 16777216) := by have : n * sz ≤ 16777216 := hmax; omega
   simp only [Sem.run_bind] at hz0
   by_cases h0:n*sz=0
   · simp [h0] at hz0
     subst hz0
     simp [execOp,ho,Instr.buildSlice,run_underlying hu,qA ht,hmax',h0,hfill,newRow]
   · simp [h0,hzr] at hz0
     subst hz0
     simp [execOp,ho,Instr.buildSlice,run_underlying hu,qA ht,hmax',h0,hzr,hfill,newRow]
 · refine .sl _ _ _ _ _ _ (fun i => arr.getD i undef) (Nat.le_refl _) (fun _ => rfl) (fun i hi => ?_) (fun i hi => ?_)
   · refine ⟨_,rfl,rfl,.inr ⟨rfl,by have := hrow.1; show 0 + i < _; omega⟩,?_⟩
     have:i<arr.size:=by have:=hrow.1;omega
     simp [this]
   · obtain ⟨x,hx,hr⟩ := hrow.2 i hi
     have:arr.getD i undef=x:=by simp [hx]
     rw [this]
     exact hr.mono hupd2.tr
theorem qpy {t} {fields : Array Field} {parts : Array (Nat × Operand)} {qs : List (Nat × Nat × Opd)} {z} {places : Array (Nat × Nat)} {d} (ho : o.op = .build t parts)
 (hu:(P.underlying t=some (.struct fields)∧places.size=fields.size∧∀ i (h:i<fields.size) (h':i<places.size),places[i].1=fields[i].offset∧∃ agg,zC P fields[i].type=some (agg,places[i].2)))
 (hz:QU P t=some z) (hql:qs.length=parts.size) (hq:∀ i (h:i<parts.size) (h':i<qs.length),places[parts[i].1]?=some (qs[i].1,qs[i].2.1)∧opd parts[i].2=some qs[i].2.2∧qs[i].1+qs[i].2.1≤z.length)
 (hF:FrOK w g F a) (hok:HeapOK hp g w)
 (hs:(AOp.bld d z qs).sem P (evF F) hp new r ws):VRun P o a w (Post hp g w r ws):=by
 obtain ⟨h2,rfl,rfl⟩:=hs
 obtain ⟨zv,hzr,rfl⟩:=jF hz w
 obtain ⟨hu,hps,hpl⟩:=hu
 have hplaces : (fields.mapM (fun f => Prod.mk f.offset <$> sizeOf f.type) : Sem (Array (Nat × Nat))).run P w = .ok places w := by
  rw [Array.mapM_eq_mapM_toList]
  have : ∀ (l : List Field) (m : List (Nat × Nat)), l.length = m.length → (∀ i (h : i < l.length) (h' : i < m.length), m[i].1 = l[i].offset ∧ ∃ agg, zC P l[i].type = some (agg, m[i].2)) →
   (l.mapM (fun f=>Prod.mk f.offset <$> sizeOf f.type):Sem (List (Nat × Nat))).run P w = .ok m w:=by
   intro l
   induction l with
   | nil=>intro m hm _;cases m <;> simp_all
   | cons f l ih =>
     intro m hm hh
     cases m with
     | nil=>simp at hm
     | cons p m =>
       obtain ⟨e1,agg,e2⟩:=hh 0 (by simp) (by simp)
       have:=ih m (by simpa using hm) (fun i h h'=>by have:=hh (i+1) (by simpa using h) (by simpa using h');simp only [List.getElem_cons_succ] at this;exact this)
       simp at e1 e2
       simp only [List.mapM_cons,Sem.run_bind,Sem.run_map,qA e2,Result.andThen_ok,Sem.run_pure,this]
       rw [←e1]
  have:=this fields.toList places.toList (by simp [hps]) (fun i h h'=>by simpa using hpl i (by simpa using h) (by simpa using h'))
  simp [this]
 obtain ⟨arr,hfill,hrow⟩ := Xr (w := w) (g := g) (p := false) (places[·]?) (parts.toList.map fun x => (x.1,a.eval x.2)) (qs.map fun p => (p.1,evF F p.2.2)) zv.cells _
  (by simp [hql]) (Yg zv) (fun i hi hi' => by
   have hi1:i<parts.size:=by simpa using hi
   have hi2:i<qs.length:=by omega
   obtain ⟨q1,q2,q3⟩:=hq i hi1 hi2
   have hc:=jj h2 i hi2
   simp only [Bool.and_eq_true,beq_iff_eq] at hc
   refine ⟨qs[i].2.1,by simpa using q1,by simpa using hc.2,by simpa using q3,by simpa using hc.1,?_⟩
   have:=qF hF q2
   simpa using this)
 refine .of (v := .agg arr) (w':=w) ?_ (.nil hok ?_)
 · simp [execOp,ho,Instr.build,hzr,run_underlying hu,hplaces,hfill]
 · rw [qaG]
   simp only [List.map_map]
   have := Rep.agg (w := w) (g := g) false _ arr.toList (by simpa using hrow.1) (fun i hi => by
    obtain ⟨x,hx,hr⟩:=hrow.2 i hi
    have:arr.toList.getD i undef=x:=by simp [List.getD,hx]
    rw [this];exact hr)
   simpa [Function.comp_def] using this
theorem qm7 {t} {ln : Nat} {e : TypeId} {agg : Bool} {sz : Nat} {parts : Array (Nat × Operand)} {qs : List (Nat × Nat × Opd)} {z} {d} (ho : o.op = .build t parts) (hu : P.underlying t = some (.array ln e)) (ht : zC P e = some (agg,sz))
 (hz:QU P t=some z) (hql:qs.length=parts.size) (hq:∀ i (h:i<parts.size) (h':i<qs.length),qs[i].1=parts[i].1*sz∧qs[i].2.1=sz∧opd parts[i].2=some qs[i].2.2∧qs[i].1+qs[i].2.1≤z.length)
 (hF:FrOK w g F a) (hok:HeapOK hp g w)
 (hs:(AOp.bld d z qs).sem P (evF F) hp new r ws):VRun P o a w (Post hp g w r ws):=by
 obtain ⟨h2,rfl,rfl⟩:=hs
 obtain ⟨zv,hzr,rfl⟩:=jF hz w
 obtain ⟨arr,hfill,hrow⟩ := Xr (w := w) (g := g) (p := false) (fun i => some (i * sz,sz)) (parts.toList.map fun x => (x.1,a.eval x.2)) (qs.map fun p => (p.1,evF F p.2.2)) zv.cells _
  (by simp [hql]) (Yg zv) (fun i hi hi' => by
   have hi1:i<parts.size:=by simpa using hi
   have hi2:i<qs.length:=by omega
   obtain ⟨q0,q1,q2,q3⟩:=hq i hi1 hi2
   have hc:=jj h2 i hi2
   simp only [Bool.and_eq_true,beq_iff_eq] at hc
   refine ⟨qs[i].2.1,by simp [q0,q1],by simpa using hc.2,by simpa using q3,by simpa using hc.1,?_⟩
   have:=qF hF q2
   simpa using this)
 refine .of (v := .agg arr) (w':=w) ?_ (.nil hok ?_)
 · simp [execOp,ho,Instr.build,hzr,run_underlying hu,qA ht,hfill]
 · rw [qaG]
   simp only [List.map_map]
   have := Rep.agg (w := w) (g := g) false _ arr.toList (by simpa using hrow.1) (fun i hi => by
    obtain ⟨x,hx,hr⟩:=hrow.2 i hi
    have:arr.toList.getD i undef=x:=by simp [List.getD,hx]
    rw [this];exact hr)
   simpa [Function.comp_def] using this
theorem qpN {at_ : TypeId} {c : Call} {x} {y1 : Opd} {d} {e} (ho : o.op = .call c) (hc : c = { callee := .builtin .len,args := #[x],argTypes := #[at_] }) (hu : P.underlying at_ = some (.slice e))
 (h1:opd x=some y1) (hF:FrOK w g F a) (hok:HeapOK hp g w) (hs:(AOp.len d y1).sem P (evF F) hp new r ws):VRun P o a w (Post hp g w r ws):=by
 have e1:=qF hF h1
 subst hc
 simp only [AOp.sem] at hs
 split at hs
 · rename_i full n cs hy
   obtain ⟨rfl,rfl⟩:=hs
   rw [hy] at e1
   generalize hv:a.eval x=v at e1
   cases e1 with
   | sl _ _ _ _ ad cap vs=>exact .of (by simp [execOp,ho,resolve,invoke,builtin,hv,Builtin.len_,run_underlying hu];rfl) (.nil hok (.v _ _))
 · rename_i id off n sz hy
   obtain ⟨rfl,rfl⟩:=hs
   rw [hy] at e1
   generalize hv:a.eval x=v at e1
   cases e1 with
   | ms=>exact .of (by simp [execOp,ho,resolve,invoke,builtin,hv,Builtin.len_,run_underlying hu];rfl) (.nil hok (.v _ _))
   | msz=>exact .of (by simp [execOp,ho,resolve,invoke,builtin,hv,Builtin.len_,run_underlying hu];rfl) (.nil hok (.v _ _))
 · rename_i id off n c' sz hy
   obtain ⟨rfl,rfl⟩:=hs
   rw [hy] at e1
   generalize hv:a.eval x=v at e1
   cases qiE e1 with
   | ms=>exact .of (by simp [execOp,ho,resolve,invoke,builtin,hv,Builtin.len_,run_underlying hu];rfl) (.nil hok (.v _ _))
   | msz=>exact .of (by simp [execOp,ho,resolve,invoke,builtin,hv,Builtin.len_,run_underlying hu];rfl) (.nil hok (.v _ _))
 · exact hs.elim
theorem qpQ {at_ : TypeId} {c : Call} {x} {y1 : Opd} {d} (ho : o.op = .call c) (hc : c = { callee := .builtin .len,args := #[x],argTypes := #[at_] }) (hu : P.underlying at_ = some .string)
 (h1:opd x=some y1) (hF:FrOK w g F a) (hok:HeapOK hp g w) (hs:(AOp.lns d y1).sem P (evF F) hp new r ws):VRun P o a w (Post hp g w r ws):=by
 have e1:=qF hF h1
 subst hc
 simp only [AOp.sem] at hs
 split at hs
 · rename_i s hy
   obtain ⟨rfl,rfl⟩:=hs
   rw [hy] at e1
   have e1':=QS e1
   exact .of (by simp [execOp,ho,resolve,invoke,builtin,e1',Builtin.len_,run_underlying hu];rfl) (.nil hok (.v _ _))
 · exact hs.elim
theorem qpP {at_ : TypeId} {c : Call} {x} {y1 : Opd} {d} {k e} (ho : o.op = .call c) (hc : c = { callee := .builtin .len,args := #[x],argTypes := #[at_] }) (hu : P.underlying at_ = some (.map k e))
 (h1:opd x=some y1) (hF:FrOK w g F a) (hok:HeapOK hp g w) (hs:(AOp.lnm d y1).sem P (evF F) hp new r ws):VRun P o a w (Post hp g w r ws):=by
 have e1:=qF hF h1
 subst hc
 simp only [AOp.sem] at hs
 split at hs
 · rename_i id hy
   split at hs
   · rename_i es clk hes
     obtain ⟨rfl,rfl⟩:=hs
     rw [hy] at e1
     generalize hv:a.eval x=v at e1
     cases e1 with
     | mp _ c dd hl =>
       obtain ⟨l,e1,e2⟩:=hok.rep id _ hes
       rw [hl] at e1;cases e1
       obtain ⟨ents,g1,g2,_⟩:=e2
       refine .of (v := .int .i64 es.length) (w':=w) ?_ (.nil hok (.v _ _))
       simp [execOp,ho,resolve,invoke,builtin,hv,Builtin.len_,run_underlying hu,getObj,Sem.run,g1,g2,goInt]
   · exact hs.elim
 · exact hs.elim
end
theorem qlE {P:Program} {y m:Nat} (h:m≤y) (code:BoundsCode) (w:World):(Instr.sliceBound (.int .i64 (m:Int)) y code).run P w = .ok m w:=by
 simp [Instr.sliceBound,asIntOf,show (m:Int)≤y by omega]
def qa7 : Option Operand → Option Opd → Prop
 | none,none=>True
 | some x,some y=>opd x=some y
 | _,_=>False
section
variable {P:Program} {o:Oper} {a:Act} {w:World} {g:G} {hp:Hp} {F:Nat→AV} {new:Nat} {r:AV} {ws:List (Nat × HObj)}
theorem z6 {lo : Option Operand} {lo' : Option Opd} (hlo : qa7 lo lo') (hF : FrOK w g F a) {l dflt : Nat}
 (h:match lo'.map (evF F) with | none=>l=dflt | some y=>y=I l):(lo.map a.eval=none∧l=dflt∧lo'=none)∨(lo.map a.eval=some (.int .i64 l)∧lo'.isSome=true):=by
 cases lo with
 | none=>cases lo' with
   | none=>exact .inl ⟨rfl,h,rfl⟩
   | some y=>exact hlo.elim
 | some x=>cases lo' with
   | none=>exact hlo.elim
   | some y =>
     simp at h
     have:=qF hF hlo
     rw [h] at this
     exact .inr ⟨by simp [QS this],rfl⟩
theorem ZS {lo hi mx : Option Value} {isS : Bool} {len cap l h m : Nat} (hl : (lo = none ∧ l = 0) ∨ lo = some (.int .i64 l)) (hh : (hi = none ∧ h = len ∧ mx = none) ∨ hi = some (.int .i64 h))
 (hm:(mx=none∧m=cap)∨mx=some (.int .i64 m)) (h1:l≤h) (h2:h≤m) (h3:m≤cap) :
 (Instr.sliceBounds isS len cap lo hi mx).run P w = .ok (l,h,m) w:=by
 rcases hm with ⟨rfl,rfl⟩ | rfl <;> rcases hl with ⟨rfl,rfl⟩ | rfl <;> rcases hh with ⟨rfl,rfl,hx⟩ | rfl <;> (try (cases hx)) <;> simp_all [Instr.sliceBounds,qlE]
theorem qpY {t x e lo hi mx} {lo' hi' mx' : Option Opd} {agg sz} {y1 : Opd} {d} (ho : o.op = .slice t x lo hi mx) (hu : P.underlying t = some (.slice e)) (ht : zC P e = some (agg, sz))
 (h1:opd x=some y1) (hlo:qa7 lo lo') (hhi:qa7 hi hi')
 (hmx:qa7 mx mx') (hF:FrOK w g F a) (hok:HeapOK hp g w)
 (hs:(AOp.slc d sz y1 lo' hi' mx').sem P (evF F) hp new r ws):VRun P o a w (Post hp g w r ws):=by
 have e1:=qF hF h1
 have key : ∀ b n cap l h m,a.eval x = .slice b n cap → (Instr.sliceBounds true n cap (lo.map a.eval) (hi.map a.eval) (mx.map a.eval)).run P w = .ok (l,h,m) w →
  (execOp a.eval o).run P w = .ok (.value (.slice (if m=l then b else b.map (·.add (l*sz))) (h - l) (m - l))) w:=fun b n cap l h m hv hb=>by
  simp [execOp,ho,hv,Instr.sliceAt,Instr.slice,run_underlying hu,qA ht,hb]
 simp only [AOp.sem,qfo] at hs
 split at hs
 · rename_i full n cs hy
   obtain ⟨l,h,hl,hh,hlh,hhn,hlen,hr,rfl⟩:=hs
   rw [hy] at e1
   have L:=z6 hlo hF hl
   have H:=z6 hhi hF hh
   generalize hv:a.eval x=v at e1
   cases e1 with
   | sl _ _ _ _ ad cap vs hn hf hc hrr =>
     have part : ∀ (m : Nat) (f' : Bool),h ≤ m → m ≤ cap → (f' = true → m = h) →
      Rep w g false (.sl f' (h - l) (zT cs (l*sz) ((h - l)*sz))) (.slice (if m=l then ad else ad.map (·.add (l*sz))) (h - l) (m - l)):=fun m f' hm1 hm2 hf'=>by
      have hbnd:l*sz+(h - l)*sz≤cs.length:=by
       rw [hlen,←Nat.add_mul]
       exact Nat.mul_le_mul_right _ (by omega)
      refine .sl _ _ _ _ _ _ (fun i=>vs (l*sz+i)) (by omega) (fun e=>by have:=hf' e;omega) (fun i hi=>?_) (fun i hi=>?_)
      · rw [zA hbnd] at hi
        obtain ⟨ad',rfl,hsp,hS,hcell⟩:=hc (l*sz+i) (by omega)
        obtain ⟨b,q,sp⟩:=ad'
        simp at hsp;subst hsp
        have hml : ¬ m = l := fun e => by
         have:h - l=0:=by omega
         rw [this] at hi;simp at hi
        rw [if_neg hml]
        exact ⟨⟨b,q+l*sz,none⟩,by simp [zM],rfl,by simpa [Nat.add_assoc] using hS,by simpa [Nat.add_assoc] using hcell⟩
      · have hi' := hi
        rw [zA hbnd] at hi'
        rw [jB hi]
        exact hrr _ (by omega)
     cases hmx':mx' with
     | none =>
       rw [hmx'] at hr hmx
       cases hmx'':mx with
       | some z=>rw [hmx''] at hmx;exact hmx.elim
       | none =>
         simp at hr
         subst hr
         refine .of (key _ _ _ l h cap hv ?_) (.nil hok (part cap _ (by omega) (Nat.le_refl _) (fun e=>?_)))
         · refine ZS ?_ ?_ (.inl ⟨by simp [hmx''],rfl⟩) hlh (by omega) (Nat.le_refl _)
           · rcases L with ⟨a1,a2,_⟩ | ⟨a1,_⟩
             · exact .inl ⟨a1,a2⟩
             · exact .inr a1
           · rcases H with ⟨a1,a2,_⟩ | ⟨a1,_⟩
             · exact .inl ⟨a1,a2,by simp [hmx'']⟩
             · exact .inr a1
         · simp at e
           obtain ⟨e2,this⟩:=e
           have:=hf e2;omega
     | some y =>
       rw [hmx'] at hr
       obtain ⟨hy',hsome,rfl⟩:=hr
       have M:=z6 (l:=h) (dflt:=0) hmx hF (by rw [hmx'];simpa using hy')
       refine .of (key _ _ _ l h h hv ?_) (.nil hok (part h true (Nat.le_refl _) (by omega) (fun _=>rfl)))
       refine ZS ?_ ?_ ?_ hlh (Nat.le_refl _) (by omega)
       · rcases L with ⟨a1,a2,_⟩ | ⟨a1,_⟩
         · exact .inl ⟨a1,a2⟩
         · exact .inr a1
       · rcases H with ⟨a1,a2,a3⟩ | ⟨a1,_⟩
         · rw [a3] at hsome;simp at hsome
         · exact .inr a1
       · rcases M with ⟨a1,a2,a3⟩ | ⟨a1,_⟩
         · rw [hmx'] at a3;cases a3
         · exact .inr a1
 · rename_i id off n sz' hy
   obtain ⟨l,h,hl,hh,hlh,hhn,hszz,hmxr,rfl,rfl⟩:=hs
   subst hszz
   rw [hy] at e1
   have L:=z6 hlo hF hl
   have H:=z6 hhi hF hh
   have M:∃ m':Nat→Nat, ∀ cap, n≤cap→((mx.map a.eval=none∧m' cap=cap)∨mx.map a.eval=some (.int .i64 (m' cap:Nat)))∧h≤m' cap∧m' cap≤cap∧(hi.map a.eval=none→mx.map a.eval=none):=by
    cases hmx':mx' with
    | none =>
      rw [hmx'] at hmx
      cases hmx'':mx with
      | some z=>rw [hmx''] at hmx;exact hmx.elim
      | none=>exact ⟨fun cap=>cap,fun cap hc=>⟨.inl ⟨by simp,rfl⟩,by show h≤cap;omega,Nat.le_refl _,fun _=>by simp⟩⟩
    | some y =>
      rw [hmx'] at hmxr
      obtain ⟨m,hy',hm1,hm2,hsome⟩:=hmxr
      have M:=z6 (l:=m) (dflt:=0) hmx hF (by rw [hmx'];simpa using hy')
      refine ⟨fun _=>m,fun cap hc=>⟨?_,hm1,by show m≤cap;omega,fun e=>?_⟩⟩
      · rcases M with ⟨a1,a2,a3⟩ | ⟨a1,_⟩
        · rw [hmx'] at a3;cases a3
        · exact .inr a1
      · rcases H with ⟨a1,a2,a3⟩ | ⟨a1,_⟩
        · rw [a3] at hsome;simp at hsome
        · rw [e] at a1;cases a1
   obtain ⟨m',M⟩:=M
   have bnds : ∀ cap,n ≤ cap → (Instr.sliceBounds true n cap (lo.map a.eval) (hi.map a.eval) (mx.map a.eval)).run P w = .ok (l,h,m' cap) w := fun cap hc => by
    obtain ⟨m1,m2,m3,m4⟩:=M cap hc
    refine ZS ?_ ?_ m1 hlh m2 m3
    · rcases L with ⟨a1,a2,_⟩ | ⟨a1,_⟩
      · exact .inl ⟨a1,a2⟩
      · exact .inr a1
    · rcases H with ⟨a1,a2,a3⟩ | ⟨a1,_⟩
      · exact .inl ⟨a1,a2,m4 a1⟩
      · exact .inr a1
   generalize hv:a.eval x=v at e1
   cases e1 with
   | ms _ _ _ _ c dd cap arr ty fz hl' hn hb hs =>
     obtain ⟨m1,m2,m3,m4⟩:=M cap hn
     refine .of (key _ _ _ _ _ _ hv (bnds cap hn)) (.nil hok ?_)
     by_cases e:m' cap=l
     · have z1 : h - l = 0 := by omega
       have z2:m' cap - l=0:=by omega
       rw [if_pos e,z1,z2]
       exact .msz _ _ _ _ _ hl'
     · rw [if_neg e]
       simp only [Option.map_some,zM,Nat.add_assoc]
       refine .ms _ _ _ _ c dd _ arr ty fz hl' (by omega) hb ?_
       have:(l+(m' cap - l))*_≤cap*_:=Nat.mul_le_mul_right sz' (by omega)
       rw [Nat.add_mul] at this
       omega
   | msz _ _ _ ad l' hl' =>
     obtain ⟨m1,m2,m3,m4⟩:=M 0 (Nat.le_refl _)
     refine .of (key _ _ _ _ _ _ hv (bnds 0 (Nat.le_refl _))) (.nil hok ?_)
     have e:m' 0=l:=by omega
     have z1:h - l=0:=by omega
     have z2:m' 0 - l=0:=by omega
     rw [if_pos e,z1,z2]
     exact .msz _ _ _ _ _ hl'
 · rename_i id off n c sz' hy
   obtain ⟨l,h,m,hl,hh,hm,hlh,hhm,hmc,hszz,rfl,rfl⟩:=hs
   subst hszz
   rw [hy] at e1
   have L:=z6 hlo hF hl
   have H:=z6 hhi hF hh
   have bnds:(Instr.sliceBounds true n c (lo.map a.eval) (hi.map a.eval) (mx.map a.eval)).run P w = .ok (l, h, m) w:=by
    have M:(mx.map a.eval=none∧m=c)∨(mx.map a.eval=some (.int .i64 m)∧hi'.isSome=true):=by
     cases hmx':mx' with
     | none =>
       rw [hmx'] at hm hmx
       cases hmx'':mx with
       | some z=>rw [hmx''] at hmx;exact hmx.elim
       | none=>exact .inl ⟨by simp,hm⟩
     | some y =>
       rw [hmx'] at hm
       obtain ⟨hy',hsome⟩:=hm
       have M:=z6 (l:=m) (dflt:=0) hmx hF (by rw [hmx'];simpa using hy')
       rcases M with ⟨a1,a2,a3⟩ | ⟨a1,_⟩
       · rw [hmx'] at a3;cases a3
       · exact .inr ⟨a1,by simpa using hsome⟩
    refine ZS ?_ ?_ (M.imp (fun h=>h) And.left) hlh hhm hmc
    · rcases L with ⟨a1,a2,_⟩ | ⟨a1,_⟩
      · exact .inl ⟨a1,a2⟩
      · exact .inr a1
    · rcases H with ⟨a1,a2,a3⟩ | ⟨a1,_⟩
      · rcases M with ⟨m1,_⟩ | ⟨_,m2⟩
        · exact .inl ⟨a1,a2,m1⟩
        · rw [a3] at m2;simp at m2
      · exact .inr a1
   generalize hv:a.eval x=v at e1
   cases e1 with
   | mc _ _ _ _ _ b dd arr ty fz hl' hn hb hs =>
     refine .of (key _ _ _ _ _ _ hv bnds) (.nil hok ?_)
     by_cases e:m=l
     · have z1 : h - l = 0 := by omega
       have z2:m - l=0:=by omega
       rw [if_pos e,z1,z2]
       exact .mcz _ _ _ _ _ hl'
     · rw [if_neg e]
       simp only [Option.map_some,zM,Nat.add_assoc]
       refine .mc _ _ _ _ _ b dd arr ty fz hl' (by omega) hb ?_
       have:(l+(m - l))*_≤c*_:=Nat.mul_le_mul_right sz' (by omega)
       rw [Nat.add_mul] at this
       omega
   | mcz _ _ _ ad l' hl' =>
     refine .of (key _ _ _ _ _ _ hv bnds) (.nil hok ?_)
     have e:m=l:=by omega
     have z1:h - l=0:=by omega
     have z2:m - l=0:=by omega
     rw [if_pos e,z1,z2]
     exact .mcz _ _ _ _ _ hl'
 · exact hs.elim
theorem qpZ {t x lo hi} {lo' hi' : Option Opd} {y1 : Opd} {d} (ho : o.op = .slice t x lo hi none) (hu : P.underlying t = some .string)
 (h1:opd x=some y1) (hlo:qa7 lo lo') (hhi:qa7 hi hi')
 (hF:FrOK w g F a) (hok:HeapOK hp g w)
 (hs:(AOp.sls d y1 lo' hi').sem P (evF F) hp new r ws):VRun P o a w (Post hp g w r ws):=by
 have e1:=qF hF h1
 simp only [AOp.sem] at hs
 split at hs
 · rename_i s hy
   obtain ⟨l,h,hl,hh,hlh,hhn,rfl,rfl⟩:=hs
   rw [hy] at e1
   have e1':=QS e1
   have L:=z6 hlo hF hl
   have H:=z6 hhi hF hh
   have hb:(Instr.sliceBounds false s.size s.size (lo.map a.eval) (hi.map a.eval) none).run P w = .ok (l,h,s.size) w:=by
    refine ZS ?_ ?_ (.inl ⟨rfl,rfl⟩) hlh hhn (Nat.le_refl _)
    · rcases L with ⟨a1,a2,_⟩ | ⟨a1,_⟩
      · exact .inl ⟨a1,a2⟩
      · exact .inr a1
    · rcases H with ⟨a1,a2,a3⟩ | ⟨a1,_⟩
      · exact .inl ⟨a1,a2,rfl⟩
      · exact .inr a1
   exact .of (by simp [execOp,ho,e1',Instr.sliceAt,Instr.slice,run_underlying hu,hb]) (.nil hok (.v _ _))
 · exact hs.elim
theorem qpR {f} {fs cs : Array Operand} {fs' cs' : List Opd} {d} (ho : o.op = .makeFunc f fs cs) (hl1 : fs'.length = fs.size) (hl2 : cs'.length = cs.size)
 (h1:∀ i (h:i<fs.size) (h':i<fs'.length),opd fs[i]=some fs'[i]) (h2:∀ i (h:i<cs.size) (h':i<cs'.length),opd cs[i]=some cs'[i]) (hF:FrOK w g F a) (hok:HeapOK hp g w)
 (hs:(AOp.mkf d f fs' cs').sem P (evF F) hp new r ws):VRun P o a w (Post hp g w r ws):=by
 obtain ⟨rfl,rfl⟩:=hs
 have q1:(fs.toList.map a.eval).toArray=fs.map a.eval:=by rw [←Array.toList_map]
 have q2:(cs.toList.map a.eval).toArray=cs.map a.eval:=by rw [←Array.toList_map]
 refine .of (by simp [execOp,ho,Instr.makeFunc];rfl) (.nil hok ?_)
 rw [←q1,←q2]
 have := Rep.fn (w := w) (g := g) false f (fs'.map (evF F)) (cs'.map (evF F)) (fs.toList.map a.eval) (cs.toList.map a.eval) (by simp [hl1]) (by simp [hl2])
  (fun i hi => by
   simp at hi
   have:=qF hF (h1 i (by omega) hi)
   simpa [List.getD,show i<fs.size by omega] using this)
  (fun i hi => by
   simp at hi
   have:=qF hF (h2 i (by omega) hi)
   simpa [List.getD,show i<cs.size by omega] using this)
 exact this
theorem qnP {mxm : Bool} {c : Call} {x y} {ats : Array TypeId} {y1 y2 : Opd} {d} (ho : o.op = .call c) (hc : c = { callee := .builtin (if mxm then .max else .min),args := #[x,y],argTypes := ats })
 (h1:opd x=some y1) (h2:opd y=some y2) (hF:FrOK w g F a) (hok:HeapOK hp g w)
 (hs:(AOp.mx d mxm y1 y2).sem P (evF F) hp new r ws):VRun P o a w (Post hp g w r ws):=by
 have e1:=qF hF h1
 have e2:=qF hF h2
 subst hc
 simp only [AOp.sem] at hs
 split at hs
 · rename_i k m k' n hy hy2
   obtain ⟨rfl,rfl⟩:=hs
   rw [hy] at e1;rw [hy2] at e2
   have e1':=QS e1
   have e2':=QS e2
   cases mxm with
   | true=>exact .of (by simp [execOp,ho,resolve,invoke,builtin,e1',e2',Builtin.max_,Builtin.max2]) (.nil hok (.v _ _))
   | false=>exact .of (by simp [execOp,ho,resolve,invoke,builtin,e1',e2',Builtin.min_,Builtin.min2]) (.nil hok (.v _ _))
 · exact hs.elim
theorem qpT {t e ln cp} {y1 y2 : Opd} {agg sz bytes z i} {d} (ho : o.op = .makeSlice t ln cp) (hu : P.underlying t = some (.slice e)) (ht : zC P e = some (agg,sz)) (hi : P.info? e = some i) (hib : i.bytes = bytes)
 (hz:QU P e=some z) (h1:opd ln=some y1) (h2:opd cp=some y2) (hF:FrOK w g F a) (hok:HeapOK hp g w) (hn:hp new=none)
 (hs:(AOp.mks d sz bytes z y1 y2).sem P (evF F) hp new r ws):VRun P o a w (Post hp g w r ws):=by
 have e1:=qF hF h1
 have e2:=qF hF h2
 obtain ⟨k,hk1,hk2,hb1,hb2,hzl,rfl,rfl⟩:=hs
 rw [hk1] at e1;rw [hk2] at e2
 have e1':=QS e1
 have e2':=QS e2
 obtain ⟨v,hzr,rfl⟩:=jF hz w
 simp at hzl
 have hw:IntKind.i64.wrap (k:Int)=k:=by
  simp only [IntKind.wrap,IntKind.bits,IntKind.signed]
  have:(k:Int) % 2 ^ 64=k:=Int.emod_eq_of_lt (by omega) (by omega)
  simp only [this]
  have:¬ ((k:Int)≥2 ^ 63):=by omega
  simp;omega
 have hk0:¬ ((k:Int)<0):=by omega
 have hk3:(0:Int)≤k:=by omega
 have hrow:∃ arr0:Array Value, RowA w g false arr0 (zP k (v.cells.toList.map AV.ofCell))∧(execOp a.eval o).run P w = .ok (.value (.slice (some ⟨w.heap.size, 0, none⟩) k k)) (w.alloc (.cells arr0 e)):=by
  have hbig:¬ ((i.bytes:Int)*k>281474976710656):=by
   have:((i.bytes*k:Nat):Int)=(i.bytes:Int)*k:=by simp
   rw [←this,hib,Nat.mul_comm]
   omega
  by_cases h0:k*sz=0
  · refine ⟨#[],?_,?_⟩
    · have : (zP k (v.cells.toList.map AV.ofCell)) = [] := List.eq_nil_of_length_eq_zero (by rw [ZH]; simpa [hzl] using h0)
      rw [this];exact ⟨rfl,fun i hi=>by simp at hi⟩
    · simp [execOp,ho,e1',e2',Instr.makeSlice,run_underlying hu,asInt,asIntOf,typeInfo,hi,hw,hk0,hk3,hbig,qA ht,h0,newRow]
      congr 2;apply Array.ext';simp
  · refine ⟨(Array.range (k * v.cells.size)).map fun i => v.cells[i % v.cells.size]!,WE v k,?_⟩
    simp [execOp,ho,e1',e2',Instr.makeSlice,run_underlying hu,asInt,asIntOf,typeInfo,hi,hw,hk0,hk3,hbig,qA ht,h0,hzr,newRow,hzl]
 obtain ⟨arr0,hr0,hrun⟩:=hrow
 obtain ⟨g',g1,g2,g3⟩:=Post.row hok hn e hr0
 refine .of hrun ⟨g',?_,g2,g3⟩
 have:=Rep.ms (w:=w.alloc (.cells arr0 e)) (g:=g') new 0 k sz w.heap.size 0 k arr0 e (0,0) g1 (Nat.le_refl _) (QI _ _) (by have:=hr0.1;rw [ZH] at this;simp [hzl] at this;simp;omega)
 simpa using this
end
theorem Hp.set_set (hp:Hp) (id:Nat) (x y:HObj):Hp.set (Hp.set hp id x) id y=Hp.set hp id y:=by
 funext i;simp only [Hp.set];split <;> rfl
theorem Hp.set_self (hp:Hp) {id:Nat} {x:HObj} (h:hp id=some x):Hp.set hp id x=hp:=by
 funext i;simp only [Hp.set];split
 · rename_i e;subst e;exact h.symm
 · rfl
theorem qb0 {need cap bytes:Nat} (h:cap<need) (hb:need*bytes≤140737488355328):¬ (Builtin.nextslicecap need cap*bytes>281474976710656):=by
 have:Builtin.nextslicecap need cap*bytes≤2*need*bytes:=Nat.mul_le_mul_right _ (nextslicecap_le h)
 rw [Nat.mul_assoc] at this
 omega
theorem qaF {x:AV} (h:x.isPC=true):x.isPure=true:=by
 cases x with
 | v y=>rfl
 | sl=>rfl
 | ptr=>rfl
 | _=>simp [AV.isPC] at h
theorem qnK {w g p x v} (hr:Rep w g p x v) (h:x.isPC=true):v.oneCell'=true:=by
 cases hr with
 | v=>cases v <;> simp_all [AV.isPC,Value.oneCell']
 | sl=>rfl
 | ptr=>rfl
 | _=>simp [AV.isPC] at h
theorem Wl {P : Program} {hp g w} (hok : HeapOK hp g w) {sz m : Nat} {y : AV} {ys : List AV} {v : Value} (h : ZO hp sz y = some (m,ys)) (q : Nat) (hp' : ((ys.take q).all AV.isPC) = true) (hr : Rep w g false y v) :
 ∃ ad cap,v = .slice ad m cap ∧ ys.length = m * sz ∧ ∃ vs : List Value,vs.length = m * sz ∧ (∀ k,k ≤ m → (Builtin.firstCells sz k v).run P w = .ok (vs.take (k * sz)).toArray w) ∧
   (∀ u∈vs.take q,u.oneCell'=true)∧∀ i (hi:i<ys.length),i<q→∃ u,vs[i]?=some u∧Rep w g true ys[i] u:=by
 have pc : ∀ i (hi : i < ys.length),i < q → (ys[i]).isPC = true := fun i hi hq => by
  have:=jj hp' i (by simp;omega)
  simpa using this
 have fin : ∀ (b q0 : Nat) (us : Nat → Value),ys.length = m * sz → (∀ i (h : i < ys.length),w.cell? ⟨b,q0 + i,none⟩ = some (us i) ∧ Rep w g false ys[i] (us i)) → ∀ cap,
  ∃ vs:List Value,vs.length=m*sz∧(∀ k,k≤m→(Builtin.firstCells sz k (.slice (some ⟨b,q0,none⟩) m cap)).run P w = .ok (vs.take (k*sz)).toArray w) ∧
  (∀ u∈vs.take q,u.oneCell'=true)∧∀ i (hi:i<ys.length),i<q→∃ u,vs[i]?=some u∧Rep w g true ys[i] u:=fun b q0 us hl hh cap=>by
  refine ⟨(List.range (m*sz)).map us,by simp,fun k hk=>?_,fun u hu=>?_,fun i hi hq=>⟨us i,by simp [show i<m*sz by omega],Yz (qaF (pc i hi hq)) (hh i hi).2⟩⟩
  · have hk' : k * sz ≤ m * sz := Nat.mul_le_mul_right _ hk
    simp only [Builtin.firstCells]
    rw [run_loadCells w _ (k*sz) us (fun j hj=>by rw [zM];exact (hh j (by omega)).1)]
    rw [←List.map_take,List.take_range,Nat.min_eq_left hk']
  · obtain ⟨i,hi,e⟩ := List.mem_take_iff_getElem.1 hu
    simp at hi
    have hi':i<ys.length:=by omega
    rw [←e]
    simp only [List.getElem_map,List.getElem_range]
    exact qnK (hh i hi').2 (pc i hi' (by omega))
 cases hr with
 | sl _ full n cs ad cap vs hn hf hc hrr =>
   simp only [ZO] at h
   split at h
   · rename_i hl
     simp only [Option.some.injEq,Prod.mk.injEq] at h
     obtain ⟨rfl,rfl⟩:=h
     by_cases h0:cs.length=0
     · refine ⟨ad,cap,rfl,hl,[],by simp; omega,fun k hk => ?_,by simp,fun i hi _ => by omega⟩
       have hk0:k*sz=0:=by have:k*sz≤n*sz:=Nat.mul_le_mul_right _ hk;omega
       cases ad with
       | none=>simp [Builtin.firstCells]
       | some b =>
         simp only [Builtin.firstCells]
         rw [run_loadCells w _ (k*sz) (fun _=>undef) (fun j hj=>by omega)]
         simp [hk0]
     · obtain ⟨ad',rfl,hsp,_⟩ := hc 0 (by omega)
       obtain ⟨b,q1,sp⟩:=ad'
       simp at hsp;subst hsp
       refine ⟨_,cap,rfl,hl,fin b q1 vs hl (fun i hi=>?_) cap⟩
       obtain ⟨_,e,_,_,h5⟩:=hc i hi
       cases e
       exact ⟨h5,(hrr i hi).of⟩
   · cases h
 | ms id off n sz' c d cap arr ty fz hl hn hb hs =>
   simp only [ZO] at h
   split at h
   · rename_i cs hcs
     split at h
     · rename_i hcond
       obtain ⟨rfl,hle⟩:=hcond
       simp only [Option.some.injEq,Prod.mk.injEq] at h
       obtain ⟨rfl,rfl⟩:=h
       obtain ⟨l,e1,e2⟩:=hok.rep id _ hcs
       rw [hl] at e1;cases e1
       obtain ⟨arr',ty',fz',g1,g2,g3,g4,g5⟩:=e2
       refine ⟨_,cap,rfl,zA hle,fin c (d+off) (fun i=>arr'.getD (d+off+i) undef) (zA hle) (fun i hi=>?_) cap⟩
       have hi':=hi
       rw [zA hle] at hi'
       obtain ⟨x,hx,hrx⟩:=g5 (off+i) (by omega)
       rw [←Nat.add_assoc] at hx
       refine ⟨by simp [World.cell?,g1,show d+off+i<arr'.size by omega],?_⟩
       have:arr'.getD (d+off+i) undef=x:=by simp [hx]
       rw [this,jB hi]
       exact hrx
     · cases h
   · cases h
 | msz id off sz' a l hl =>
   simp only [ZO] at h
   split at h
   · rename_i cs hcs
     split at h
     · rename_i hcond
       obtain ⟨rfl,hle⟩:=hcond
       simp only [Option.some.injEq,Prod.mk.injEq] at h
       obtain ⟨rfl,rfl⟩:=h
       refine ⟨_,0,rfl,by simp [zT],[],by simp,fun k hk=>?_,by simp,fun i hi _=>by simp [zT] at hi⟩
       have:k=0:=by omega
       subst this
       cases a with
       | none=>simp [Builtin.firstCells]
       | some b =>
         simp only [Builtin.firstCells]
         rw [run_loadCells w _ (0*sz') (fun _=>undef) (fun j hj=>by omega)]
         simp
     · cases h
   · cases h
 | mc id off n cap sz' c d arr ty fz hl hn hb hs =>
   simp only [ZO] at h
   split at h
   · rename_i cs hcs
     split at h
     · rename_i hcond
       obtain ⟨rfl,hle⟩:=hcond
       simp only [Option.some.injEq,Prod.mk.injEq] at h
       obtain ⟨rfl,rfl⟩:=h
       obtain ⟨l,e1,e2⟩:=hok.rep id _ hcs
       rw [hl] at e1;cases e1
       obtain ⟨arr',ty',fz',g1,g2,g3,g4,g5⟩:=e2
       refine ⟨_,cap,rfl,zA hle,fin c (d+off) (fun i=>arr'.getD (d+off+i) undef) (zA hle) (fun i hi=>?_) cap⟩
       have hi':=hi
       rw [zA hle] at hi'
       obtain ⟨x,hx,hrx⟩:=g5 (off+i) (by omega)
       rw [←Nat.add_assoc] at hx
       refine ⟨by simp [World.cell?,g1,show d+off+i<arr'.size by omega],?_⟩
       have:arr'.getD (d+off+i) undef=x:=by simp [hx]
       rw [this,jB hi]
       exact hrx
     · cases h
   · cases h
 | mcz id off sz' a l hl =>
   simp only [ZO] at h
   split at h
   · rename_i cs hcs
     split at h
     · rename_i hcond
       obtain ⟨rfl,hle⟩:=hcond
       simp only [Option.some.injEq,Prod.mk.injEq] at h
       obtain ⟨rfl,rfl⟩:=h
       refine ⟨_,0,rfl,by simp [zT],[],by simp,fun k hk=>?_,by simp,fun i hi _=>by simp [zT] at hi⟩
       have:k=0:=by omega
       subst this
       cases a with
       | none=>simp [Builtin.firstCells]
       | some b =>
         simp only [Builtin.firstCells]
         rw [run_loadCells w _ (0*sz') (fun _=>undef) (fun j hj=>by omega)]
         simp
     · cases h
   · cases h
 | _=>simp [ZO] at h
theorem X3 {P : Program} {hp g w} (hok : HeapOK hp g w) {sz m : Nat} {y : AV} {ys : List AV} {v : Value} (h : ZO hp sz y = some (m,ys)) (hp' : (ys.all AV.isPC) = true) (hr : Rep w g false y v) :
 ∃ ad cap,v = .slice ad m cap ∧ ys.length = m * sz ∧ ∃ vs : List Value,vs.length = m * sz ∧ (∀ k,k ≤ m → (Builtin.firstCells sz k v).run P w = .ok (vs.take (k * sz)).toArray w) ∧
   (∀ u∈vs,u.oneCell'=true)∧∀ i (hi:i<ys.length),∃ u,vs[i]?=some u∧Rep w g true ys[i] u:=by
 obtain ⟨ad,cap,h1,h2,vs,h3,h4,h5,h6⟩:=Wl (P:=P) hok h ys.length (by rw [List.take_of_length_le (Nat.le_refl _)];exact hp') hr
 exact ⟨ad,cap,h1,h2,vs,h3,h4,fun u hu=>h5 u (by rw [List.take_of_length_le (by omega)];exact hu),fun i hi=>h6 i hi hi⟩
section
variable {P:Program} {o:Oper} {a:Act} {w:World} {g:G} {hp:Hp} {F:Nat→AV} {new:Nat} {r:AV} {ws:List (Nat × HObj)}
theorem Ya {w : World} {g : G} {old vs : List Value} {cs ys : List AV} (h1 : old.length = cs.length) (h2 : vs.length = ys.length)
 (r1:∀ i (hi:i<cs.length),∃ u,old[i]?=some u∧Rep w g false cs[i] u) (r2:∀ i (hi:i<ys.length),∃ u,vs[i]?=some u∧Rep w g false ys[i] u) (rest:Array Value) :
 ∀ i (hi:i<(cs++ys).length),∃ x,(old.toArray++vs.toArray++rest)[i]?=some x∧Rep w g false (cs++ys)[i] x:=by
 intro i hi
 simp at hi
 by_cases a1:i<cs.length
 · obtain ⟨u,hu,hr⟩ := r1 i a1
   refine ⟨u,?_,by rw [List.getElem_append_left a1];exact hr⟩
   rw [Array.getElem?_append_left (by simp;omega),Array.getElem?_append_left (by simp;omega)]
   simpa using hu
 · obtain ⟨u,hu,hr⟩ := r2 (i - cs.length) (by omega)
   refine ⟨u,?_,by rw [List.getElem_append_right (by omega)];exact hr⟩
   rw [Array.getElem?_append_left (by simp;omega),Array.getElem?_append_right (by simp;omega)]
   simpa [h1] using hu
theorem jf {ts tx e ty : TypeId} {ex : TypeId} {sz : Nat} (hu : P.underlying ts = some (.slice e)) (hux : P.underlying tx = some (.slice ex) ∨ P.underlying tx = some .string) {agg} (ht : zC P e = some (agg,sz))
 {base:Option Addr} {n m cap:Nat} {yv:Value} {vs:List Value} (hlen:(Builtin.lenOf yv).run P w = .ok m w) (hf:(Builtin.firstCells sz m yv).run P w = .ok vs.toArray w) (hle:n+m≤cap) {w':World}
 (hst:match base with | some b=>(storeCells (b.add (n*sz)) vs).run P w = .ok () w' | none=>w'=w) :
 (Builtin.append_ #[ts,tx] ty #[.slice base n cap,yv]).run P w = .ok (.slice base (n+m) cap) w':=by
 rcases hux with hux | hux <;> cases base with
 | none =>
   subst hst
   simp [Builtin.append_,run_underlying hu,run_underlying hux,qA ht,hlen,hle,hf]
 | some b =>
   simp only at hst
   simp [Builtin.append_,run_underlying hu,run_underlying hux,qA ht,hlen,hle,hf,hst]
theorem Jf {ts tx e ty : TypeId} {ex : TypeId} {sz : Nat} (hu : P.underlying ts = some (.slice e)) (hux : P.underlying tx = some (.slice ex) ∨ P.underlying tx = some .string) {agg} (ht : zC P e = some (agg,sz)) {i : TypeInfo} (hi : P.info? e = some i) {zv : Value}
 (hz:∀ w,(zeroValue e).run P w = .ok zv w)
 {base:Option Addr} {n m cap:Nat} {yv:Value} {old vs:List Value} (hlen:(Builtin.lenOf yv).run P w = .ok m w) (hf:(Builtin.firstCells sz m yv).run P w.drew = .ok vs.toArray w.drew) (ho:(Builtin.firstCells sz n (.slice base n cap)).run P w.drew = .ok old.toArray w.drew)
 (hlt:cap<n+m) (hb:(n+m)*i.bytes≤140737488355328) (hb2:n+m≤140737488355328) :
 ∃ newCap,n + m ≤ newCap ∧ (Builtin.append_ #[ts,tx] ty #[.slice base n cap,yv]).run P w =
   .ok (.slice (some ⟨w.heap.size,0,none⟩) (n+m) newCap) (w.drew.alloc (.cells (old.toArray++vs.toArray++Builtin.zeroCells zv.cells (newCap - (n+m))) e)):=by
 have hnle:¬ (n+m≤cap):=by omega
 have hfit:=qb0 hlt hb
 have h63 : ¬ ((n : Int) + m > IntKind.i64.max ∧ i.bytes = 0) := fun ⟨h,_⟩ => by
  have:IntKind.i64.max=9223372036854775807:=rfl
  rw [this] at h;omega
 have h63':¬ (9223372036854775807<(n:Int)+m∧i.bytes=0):=h63
 refine ⟨(Question.appendCap (n+m) cap e).cut (w.tape w.drawn (Question.appendCap (n+m) cap e)),by simp [Question.cut],?_⟩
 rcases hux with hux | hux
 all_goals
  simp [Builtin.append_,run_underlying hu,run_underlying hux,qA ht,hlen,hnle,hf,ho,typeInfo,hi,hfit,Question.forced,hz,newRow]
  rw [if_neg h63',←Array.append_assoc,show old.toArray++vs.toArray=(old++vs).toArray by simp]
theorem W7 {c : Call} {x y} {ts tx e : TypeId} {ex : TypeId} {agg sz bytes z i} {y1 : Opd} (ho : o.op = .call c) (hc : c = { callee := .builtin .append, args := #[x, y], argTypes := #[ts, tx] })
 (hu:P.underlying ts=some (.slice e)) (hux:P.underlying tx=some (.slice ex)∨P.underlying tx=some .string) (ht:zC P e=some (agg,sz)) (hi:P.info? e=some i) (hib:i.bytes=bytes) (hz:QU P e=some z) (hzl:z.length=sz)
 (h1:opd x=some y1) (hF:FrOK w g F a) (hok:HeapOK hp g w) (hn:hp new=none)
 {m:Nat} {ys:List AV} (hylen:ys.length=m*sz) {vs vs':List Value} (hvlen:vs.length=m*sz) (hvlen':vs'.length=m*sz)
 (hlen:(Builtin.lenOf (a.eval y)).run P w = .ok m w)
 (hfirst':(Builtin.firstCells sz m (a.eval y)).run P w = .ok vs.toArray w) (hfirst2':(Builtin.firstCells sz m (a.eval y)).run P w.drew = .ok vs'.toArray w.drew)
 (hone:∀ u∈vs,u.oneCell'=true) (hvr:∀ i (hi:i<ys.length),∃ u,vs[i]?=some u∧Rep w g true ys[i] u) (hvr':∀ i (hi:i<ys.length),∃ u,vs'[i]?=some u∧Rep w.drew g true ys[i] u)
 (hs:jt hp new r ws sz bytes (evF F y1) m ys):VRun P o a w (Post hp g w r ws):=by
 have e1:=qF hF h1
 subst hc
 obtain ⟨hokd,hupdd⟩:=hok.drew
 obtain ⟨zv,hzr0,rfl⟩:=jF hz w
 have hzr:∀ w,(zeroValue e).run P w = .ok zv w:=by
  simp only [QU,Option.map_eq_some_iff,Option.bind_eq_some_iff] at hz
  obtain ⟨v,⟨i',hi',hv⟩,_⟩:=hz
  intro w'
  have h3:∀ w,(zeroValue e).run P w = .ok v w:=fun w=>by simp [zeroValue,typeInfo,hi',hv]
  have h4:=h3 w
  rw [h4] at hzr0;cases hzr0
  exact h3 w'
 simp at hzl
 have run : ∀ (base : Option Addr) (n cap : Nat) v w',a.eval x = .slice base n cap → (Builtin.append_ #[ts,tx] o.type #[.slice base n cap,a.eval y]).run P w = .ok v w' → (execOp a.eval o).run P w = .ok (.value v) w' := fun base n cap v w' hx hrun => by
  simp [execOp,ho,resolve,invoke,builtin,hx,hrun]
 have arrsz : ∀ (old : List Value) (n newCap : Nat),old.length = n * sz → n + m ≤ newCap → (old.toArray ++ vs'.toArray ++ Builtin.zeroCells zv.cells (newCap - (n + m))).size = newCap * sz := fun old n newCap h hle => by
  simp [Builtin.zeroCells,h,hvlen',hzl]
  rw [←Nat.add_mul,←Nat.add_mul];congr 1;omega
 simp only [jt] at hs
 split at hs
 · rename_i full n cs hy
   obtain ⟨rfl,hcl,hb1,hb2,hnm,rfl,rfl⟩:=hs
   rw [hy] at e1
   generalize hv:a.eval x=v at e1
   cases e1 with
   | sl _ _ _ _ ad cap us hn' hf hc hrr =>
     have hcap:=hf rfl
     subst hcap
     by_cases hm:m=0
     · -- nothing is appended to an empty slice
       subst hm
       have hn0:cap=0:=by omega
       subst hn0
       have hvs:vs=[]:=List.eq_nil_of_length_eq_zero (by omega)
       subst hvs
       have hcs:cs=[]:=List.eq_nil_of_length_eq_zero (by omega)
       have hys:ys=[]:=List.eq_nil_of_length_eq_zero (by omega)
       subst hcs hys
       obtain ⟨s1,s2⟩:=hok.virgin hn
       refine .of (run ad 0 0 (.slice ad 0 0) w hv ?_) ⟨_,.msz new 0 sz ad .virg (by simp [G.home]),s1,s2⟩
       exact jf (cap:=0) hu hux ht hlen hfirst' (Nat.le_refl _) (by cases ad <;> rfl)
     · have hold:∃ old:List Value, old.length=cap*sz∧(Builtin.firstCells sz cap (.slice ad cap cap)).run P w.drew = .ok old.toArray w.drew∧∀ i (hi:i<cs.length), ∃ u, old[i]?=some u∧Rep w.drew g false cs[i] u:=by
        by_cases h0:cs.length=0
        · refine ⟨[],by simp; omega,?_,fun i hi => by omega⟩
          have hk0:cap*sz=0:=by omega
          cases ad with
          | none=>simp [Builtin.firstCells]
          | some b =>
            simp only [Builtin.firstCells]
            rw [run_loadCells w.drew _ (cap*sz) (fun _=>undef) (fun j hj=>by omega)]
            simp [hk0]
        · obtain ⟨ad',rfl,hsp,_⟩ := hc 0 (by omega)
          obtain ⟨b,q,sp⟩:=ad'
          simp at hsp;subst hsp
          refine ⟨(List.range (cap*sz)).map us,by simp,?_,fun i hi=>⟨us i,by simp [show i<cap*sz by omega],((hrr i hi).of).mono hupdd.tr⟩⟩
          simp only [Builtin.firstCells]
          rw [run_loadCells w.drew _ (cap * sz) us (fun j hj => by
           obtain ⟨_,e,_,_,h5⟩:=hc j (by omega)
           cases e
           rw [zM];exact h5)]
       obtain ⟨old,hol,hof,hor⟩:=hold
       obtain ⟨newCap,hnc,hrun⟩:=Jf (ty:=o.type) hu hux ht hi hzr hlen hfirst2' hof (by omega) (by rw [hib];exact hb1) hb2
       obtain ⟨s1,s2⟩ := hokd.alloc_priv hn (old.toArray ++ vs'.toArray ++ Builtin.zeroCells zv.cells (newCap - (cap + m))) e (cs ++ ys) (by rw [arrsz old cap newCap hol hnc]; simp [hcl,hylen]; rw [← Nat.add_mul]; exact Nat.mul_le_mul_right _ hnc)
        (Ya (by omega) (by omega) hor (fun i hi=>by obtain ⟨u,hu,hr⟩:=hvr' i hi;exact ⟨u,hu,hr.of⟩) _)
       refine .of (run ad cap cap _ _ hv hrun) ⟨_,?_,s1,hupdd.trans s2⟩
       have:=Rep.ms (w:=w.drew.alloc (.cells (old.toArray++vs'.toArray++Builtin.zeroCells zv.cells (newCap - (cap+m))) e)) (g:=g.home new (.blk w.drew.heap.size 0)) new 0 (cap+m) sz w.heap.size 0 newCap _ e (0,0) (by simp [G.home]) hnc (QI _ _) (by rw [arrsz old cap newCap hol hnc];omega)
       simpa using this
 · rename_i id off n sz' hy
   split at hs
   · rename_i cs hcs
     obtain ⟨rfl,hle,hb1,hb2,rfl,rfl⟩:=hs
     have hne:id≠new:=fun e=>by subst e;rw [hcs] at hn;cases hn
     rw [hy] at e1
     generalize hv:a.eval x=v at e1
     cases e1 with
     | ms _ _ _ _ cb dd cap arr ty fz hl hn' hb hsz =>
       obtain ⟨l,q1,q2⟩:=hok.rep id _ hcs
       rw [hl] at q1;cases q1
       obtain ⟨arr',ty',fz',g1,g2,g3,g4,g5⟩:=q2
       rw [hb] at g1;cases g1
       by_cases hroom:n+m≤cap
       · -- in its place
         have hcapsz:(n+m)*sz'≤cap*sz':=Nat.mul_le_mul_right _ hroom
         rw [Nat.add_mul] at hcapsz
         have hst:=Z3 (P:=P) (c:=cb) (ty:=ty) (fz:=fz) (dd+off+n*sz') vs 0 arr w hb (by omega) (fun q hq hq'=>g4 q (by omega) (by omega)) hone
         simp only [Nat.add_zero] at hst
         have hszA:=Ji arr (dd+off+n*sz') vs (by omega)
         obtain ⟨s1,s2⟩ := hok.rewrite hcs hl hb (arr' := Zc arr (dd + off + n * sz') vs) hszA (cs' := cs.take (off + n * sz') ++ ys) (fun q hq => by rw [Qy _ _ _ (by omega),if_pos (by omega)])
          ⟨by rw [hszA]; simp; omega,fun j hj => by
           rw [Qy _ _ _ (by omega)]
           simp at hj
           have hk:(cs.take (off+n*sz')).length=off+n*sz':=by simp;omega
           by_cases a1:j<off+n*sz'
           · rw [if_pos (by omega)]
             obtain ⟨x,hx,hr⟩:=g5 j (by omega)
             exact ⟨x,hx,by rw [List.getElem_append_left (by omega)];simpa using hr⟩
           · rw [if_neg (by omega),if_pos (by omega)]
             obtain ⟨u,hu,hr⟩:=hvr (j - (off+n*sz')) (by omega)
             refine ⟨u,by rw [show dd+j - (dd+off+n*sz')=j - (off+n*sz') by omega];exact hu,?_⟩
             rw [List.getElem_append_right (by omega)]
             simp only [hk]
             exact hr.of⟩
         obtain ⟨s3,s4⟩:=s1.rename (id:=id) (new:=new) (off:=off) (Hp.set_same _ _ _) hl (by rw [Hp.set_other _ _ (Ne.symm hne)];exact hn) (by simp;omega)
         rw [Hp.set_set] at s3 s4
         have hview:List.drop off (cs.take (off+n*sz')++ys)=zT cs off (n*sz')++ys:=by
          rw [List.drop_append_of_le_length (by simp;omega),List.drop_take]
          simp [zT]
         rw [hview] at s3 s4
         refine .of (run (some ⟨cb,dd+off,none⟩) n cap (.slice (some ⟨cb,dd+off,none⟩) (n+m) cap) (World.setArr w cb (Zc arr (dd+off+n*sz') vs) ty fz) hv ?_) ⟨_,?_,s3,s2.trans s4⟩
         · exact jf hu hux ht hlen hfirst' hroom (by simp only [zM];exact hst)
         · have := Rep.ms (w := World.setArr w cb (Zc arr (dd + off + n * sz') vs) ty fz) (g := g.home new (.blk cb (dd + off))) new 0 (n + m) sz' cb (dd + off) cap _ ty fz (by simp [G.home]) hroom
            (Zm w _ ty fz (Array.getElem?_eq_some_iff.1 hb).1) (by rw [hszA];omega)
           simpa using this
       · -- it grows
         have hold : (Builtin.firstCells sz' n (.slice (some ⟨cb,dd + off,none⟩) n cap)).run P w.drew = .ok ((List.range (n * sz')).map fun j => arr.getD (dd + off + j) undef).toArray w.drew := by
          simp only [Builtin.firstCells]
          rw [run_loadCells w.drew _ (n * sz') (fun j => arr.getD (dd + off + j) undef) (fun j hj => by
           rw [zM];show World.cell? w _=_;simp [World.cell?,hb,show dd+off+j<arr.size by omega])]
         obtain ⟨newCap,hnc,hrun⟩:=Jf (ty:=o.type) hu hux ht hi hzr hlen hfirst2' hold (by omega) (by rw [hib];exact hb1) hb2
         obtain ⟨s1,s2⟩:=hokd.drop hcs
         obtain ⟨s3,s4⟩ := s1.alloc_priv (id := new) (by rw [Hp.set_other _ _ (Ne.symm hne)]; exact hn) (((List.range (n * sz')).map fun j => arr.getD (dd + off + j) undef).toArray ++ vs'.toArray ++ Builtin.zeroCells zv.cells (newCap - (n + m))) e (zT cs off (n * sz') ++ ys)
          (by rw [arrsz _ n newCap (by simp) hnc];simp [zA hle,hylen];rw [←Nat.add_mul];exact Nat.mul_le_mul_right _ hnc)
          (Ya (by simp [zA hle]) (by omega) (fun j hj => by
           have hj':=hj
           rw [zA hle] at hj'
           obtain ⟨x,hx,hr⟩:=g5 (off+j) (by omega)
           rw [←Nat.add_assoc] at hx
           refine ⟨x,by simp [hj',hx],by rw [jB hj];exact hr.mono hupdd.tr⟩) (fun i hi=>by obtain ⟨u,hu,hr⟩:=hvr' i hi;exact ⟨u,hu,hr.of⟩) _)
         refine .of (run _ n cap _ _ hv hrun) ⟨_,?_,s3,(hupdd.trans s2).trans s4⟩
         have:=Rep.ms (w:=w.drew.alloc (.cells (((List.range (n*sz')).map fun j=>arr.getD (dd+off+j) undef).toArray++vs'.toArray++Builtin.zeroCells zv.cells (newCap - (n+m))) e)) (g:=g.home new (.blk w.drew.heap.size 0)) new 0 (n+m) sz' w.heap.size 0 newCap _ e (0,0) (by simp [G.home]) hnc (QI _ _) (by rw [arrsz _ n newCap (by simp) hnc];omega)
         simpa using this
     | msz _ _ _ ad l hl =>
       by_cases hm:m=0
       · subst hm
         have hvs:vs=[]:=List.eq_nil_of_length_eq_zero (by omega)
         subst hvs
         have hys:ys=[]:=List.eq_nil_of_length_eq_zero (by omega)
         subst hys
         obtain ⟨s1,s2⟩:=hok.drop hcs
         obtain ⟨s3,s4⟩:=s1.virgin (id:=new) (by rw [Hp.set_other _ _ (Ne.symm hne)];exact hn)
         have hview:zT cs off (0*sz')++[]=[]:=by simp [zT]
         simp only [hview]
         refine .of (run ad 0 0 (.slice ad 0 0) w hv ?_) ⟨_,.msz new 0 sz' ad .virg (by simp [G.home]),s3,s2.trans s4⟩
         exact jf (cap:=0) hu hux ht hlen hfirst' (Nat.le_refl _) (by cases ad <;> rfl)
       · have hold:(Builtin.firstCells sz' 0 (.slice ad 0 0)).run P w.drew = .ok ([]:List Value).toArray w.drew:=by
          cases ad with
          | none=>simp [Builtin.firstCells]
          | some b =>
            simp only [Builtin.firstCells]
            rw [run_loadCells w.drew _ (0*sz') (fun _=>undef) (fun j hj=>by omega)]
            simp
         obtain ⟨newCap,hnc,hrun⟩:=Jf (ty:=o.type) hu hux ht hi hzr hlen hfirst2' hold (by omega) (by rw [hib];exact hb1) hb2
         obtain ⟨s1,s2⟩:=hokd.drop hcs
         have hview:zT cs off (0*sz')++ys=ys:=by simp [zT]
         simp only [hview]
         obtain ⟨s3,s4⟩ := s1.alloc_priv (id := new) (by rw [Hp.set_other _ _ (Ne.symm hne)]; exact hn) ((([] : List Value)).toArray ++ vs'.toArray ++ Builtin.zeroCells zv.cells (newCap - (0 + m))) e ys
          (by rw [arrsz _ 0 newCap (by simp) hnc,hylen];exact Nat.mul_le_mul_right _ (by omega))
          (by
           have:=Ya (w:=w.drew) (g:=g) (old:=[]) (vs:=vs') (cs:=[]) (ys:=ys) rfl (by omega) (fun i hi=>by simp at hi) (fun i hi=>by obtain ⟨u,hu,hr⟩:=hvr' i hi;exact ⟨u,hu,hr.of⟩) (Builtin.zeroCells zv.cells (newCap - (0+m)))
           simpa using this)
         refine .of (run _ 0 0 _ _ hv hrun) ⟨_,?_,s3,(hupdd.trans s2).trans s4⟩
         have:=Rep.ms (w:=w.drew.alloc (.cells (([]:List Value).toArray++vs'.toArray++Builtin.zeroCells zv.cells (newCap - (0+m))) e)) (g:=g.home new (.blk w.drew.heap.size 0)) new 0 (0+m) sz' w.heap.size 0 newCap _ e (0,0) (by simp [G.home]) hnc (QI _ _) (by rw [arrsz _ 0 newCap (by simp) hnc];omega)
         simpa using this
   · exact hs.elim
 · rename_i id off n c sz' hy
   split at hs
   · rename_i cs hcs
     obtain ⟨rfl,hle,hb1,hb2,hs⟩:=hs
     have hne:id≠new:=fun e=>by subst e;rw [hcs] at hn;cases hn
     rw [hy] at e1
     rcases hs with ⟨hroom,hle2,rfl,rfl⟩ | ⟨hlt,rfl,rfl⟩
     · generalize hv : a.eval x = v at e1
       cases e1 with
       | mc _ _ _ _ _ cb dd arr ty fz hl hn' hb hsz =>
         obtain ⟨l,q1,q2⟩:=hok.rep id _ hcs
         rw [hl] at q1;cases q1
         obtain ⟨arr',ty',fz',g1,g2,g3,g4,g5⟩:=q2
         rw [hb] at g1;cases g1
         have hsum:(n+m)*sz'=n*sz'+m*sz':=Nat.add_mul _ _ _
         obtain ⟨w',s1,s2,s3⟩ := hok.store (P := P) hcs hl (off + n * sz') vs ys (by omega) (by omega) hone (fun i hi => by
          obtain ⟨u,hu,hr⟩:=hvr i hi;exact ⟨u,hu,hr.of⟩)
         refine .of (run (some ⟨cb,dd+off,none⟩) n c (.slice (some ⟨cb,dd+off,none⟩) (n+m) c) w' hv ?_) ⟨g,?_,s2,s3⟩
         · exact jf hu hux ht hlen hfirst' hroom (by simp only [zM,Nat.add_assoc];exact s1)
         · obtain ⟨arr2,k1,k2⟩ := s3.tr.shp _ _ _ _ hb
           exact .mc _ _ _ _ _ cb dd arr2 ty fz hl hroom k1 (by omega)
       | mcz _ _ _ ad l hl =>
         have hm:m=0:=by omega
         subst hm
         have hvs:vs=[]:=List.eq_nil_of_length_eq_zero (by omega)
         subst hvs
         have hys:ys=[]:=List.eq_nil_of_length_eq_zero (by omega)
         subst hys
         have hw0:Hp.write hp [(id,.cells (splice cs (off+0*sz') []))]=hp:=by
          have:splice cs (off+0*sz') []=cs:=by simp [splice]
          rw [this];exact Hp.set_self hp hcs
         refine .of (run ad 0 0 (.slice ad 0 0) w hv ?_) ⟨g,.mcz _ _ _ _ _ hl,by rw [hw0];exact hok,by rw [hw0];exact .refl _ _ _⟩
         exact jf (cap:=0) hu hux ht hlen hfirst' (Nat.le_refl _) (by cases ad <;> rfl)
     · have grows : ∀ (ad : Option Addr) (old : List Value), a.eval x = .slice ad n c → n ≤ c → old.length = n * sz' → (Builtin.firstCells sz' n (.slice ad n c)).run P w.drew = .ok old.toArray w.drew →
        (∀ i (hi:i<(zT cs off (n*sz')).length),∃ u,old[i]?=some u∧Rep w.drew g false (zT cs off (n*sz'))[i] u) →
        VRun P o a w (Post hp g w (.ms new 0 (n+m) sz') [(new,.cells (zT cs off (n*sz')++ys))]):=fun ad old hv hnc0 hol hof hor=>by
        obtain ⟨newCap,hnc,hrun⟩:=Jf (ty:=o.type) hu hux ht hi hzr hlen hfirst2' hof (by omega) (by rw [hib];exact hb1) hb2
        obtain ⟨s3,s4⟩ := hokd.alloc_priv (id := new) hn (old.toArray ++ vs'.toArray ++ Builtin.zeroCells zv.cells (newCap - (n + m))) e (zT cs off (n * sz') ++ ys)
         (by rw [arrsz _ n newCap hol hnc];simp [zA hle,hylen];rw [←Nat.add_mul];exact Nat.mul_le_mul_right _ hnc)
         (Ya (by simp [zA hle,hol]) (by omega) hor (fun i hi=>by obtain ⟨u,hu,hr⟩:=hvr' i hi;exact ⟨u,hu,hr.of⟩) _)
        refine .of (run _ n c _ _ hv hrun) ⟨_,?_,s3,hupdd.trans s4⟩
        have:=Rep.ms (w:=w.drew.alloc (.cells (old.toArray++vs'.toArray++Builtin.zeroCells zv.cells (newCap - (n+m))) e)) (g:=g.home new (.blk w.drew.heap.size 0)) new 0 (n+m) sz' w.heap.size 0 newCap _ e (0,0) (by simp [G.home]) hnc (QI _ _) (by rw [arrsz _ n newCap hol hnc];omega)
        simpa using this
       generalize hv:a.eval x=v at e1
       cases e1 with
       | mc _ _ _ _ _ cb dd arr ty fz hl hn' hb hsz =>
         obtain ⟨l,q1,q2⟩:=hok.rep id _ hcs
         rw [hl] at q1;cases q1
         obtain ⟨arr',ty',fz',g1,g2,g3,g4,g5⟩:=q2
         rw [hb] at g1;cases g1
         refine grows (some ⟨cb,dd+off,none⟩) ((List.range (n*sz')).map fun j=>arr.getD (dd+off+j) undef) hv hn' (by simp) ?_ (fun j hj=>?_)
         · simp only [Builtin.firstCells]
           rw [run_loadCells w.drew _ (n * sz') (fun j => arr.getD (dd + off + j) undef) (fun j hj => by
            rw [zM];show World.cell? w _=_;simp [World.cell?,hb,show dd+off+j<arr.size by omega])]
         · have hj' := hj
           rw [zA hle] at hj'
           obtain ⟨x,hx,hr⟩:=g5 (off+j) (by omega)
           rw [←Nat.add_assoc] at hx
           exact ⟨x,by simp [hj',hx],by rw [jB hj];exact hr.mono hupdd.tr⟩
       | mcz _ _ _ ad l hl =>
         refine grows ad [] hv (Nat.le_refl _) (by simp) ?_ (fun j hj=>by simp [zT] at hj)
         cases ad with
         | none=>simp [Builtin.firstCells]
         | some b =>
           simp only [Builtin.firstCells]
           rw [run_loadCells w.drew _ (0*sz') (fun _=>undef) (fun j hj=>by omega)]
           simp
   · exact hs.elim
 · exact hs.elim
theorem qpw {c : Call} {x y} {ts tx e : TypeId} {ex : TypeId} {agg sz bytes z i} {y1 y2 : Opd} {d} (ho : o.op = .call c) (hc : c = { callee := .builtin .append,args := #[x,y],argTypes := #[ts,tx] })
 (hu:P.underlying ts=some (.slice e)) (hux:P.underlying tx=some (.slice ex)) (ht:zC P e=some (agg,sz)) (hi:P.info? e=some i) (hib:i.bytes=bytes) (hz:QU P e=some z) (hzl:z.length=sz)
 (h1:opd x=some y1) (h2:opd y=some y2) (hF:FrOK w g F a) (hok:HeapOK hp g w) (hn:hp new=none)
 (hs:(AOp.app d sz bytes y1 y2).sem P (evF F) hp new r ws):VRun P o a w (Post hp g w r ws):=by
 have e2:=qF hF h2
 obtain ⟨m,ys,hel,hpc,hs⟩:=hs
 obtain ⟨ad2,cap2,hv2,hylen,vs,hvlen,hfirst,hone,hvr⟩:=X3 (P:=P) hok hel hpc e2
 have hfirst':=hfirst m (Nat.le_refl _)
 rw [List.take_of_length_le (by omega)] at hfirst'
 obtain ⟨hokd,hupdd⟩:=hok.drew
 obtain ⟨_,_,hvd,_,vs',hvlen',hfirst2,_,hvr'⟩:=X3 (P:=P) hokd hel hpc (e2.mono hupdd.tr)
 have hfirst2':=hfirst2 m (Nat.le_refl _)
 rw [List.take_of_length_le (by omega)] at hfirst2'
 exact W7 ho hc hu (.inl hux) ht hi hib hz hzl h1 hF hok hn hylen hvlen hvlen' (by rw [hv2];simp [Builtin.lenOf]) hfirst' hfirst2' hone hvr hvr' hs
theorem qfH (s:ByteArray):(s.data.map fun b=>Value.int .u8 b.toNat)=(s.data.toList.map fun b:UInt8=>Value.int .u8 b.toNat).toArray:=by
 rw [←Array.toList_map]
theorem qex {P:Program} (s:ByteArray) (w:World):(Builtin.firstCells 1 s.size (.string s)).run P w = .ok (s.data.toList.map fun b:UInt8=>Value.int .u8 b.toNat).toArray w:=by
 have:s.extract 0 s.size=s:=by
  apply ByteArray.ext
  simp
 simp [Builtin.firstCells,this]
 exact qfH s
theorem qbL {w g} {p:Bool} (l:List UInt8) (i:Nat) (hi:i<(qw l).length):∃ u,(l.map fun b:UInt8=>Value.int .u8 b.toNat)[i]?=some u∧Rep w g p (qw l)[i] u:=by
 have hi':i<l.length:=by simpa [qw] using hi
 refine ⟨.int .u8 l[i].toNat,by simp [hi'],?_⟩
 simp only [qw,List.getElem_map]
 exact .v _ _
theorem qm4 {c : Call} {x y} {ts tx e : TypeId} {agg bytes z i} {y1 y2 : Opd} {d} (ho : o.op = .call c) (hc : c = { callee := .builtin .append,args := #[x,y],argTypes := #[ts,tx] })
 (hu:P.underlying ts=some (.slice e)) (hux:P.underlying tx=some .string) (ht:zC P e=some (agg,1)) (hi:P.info? e=some i) (hib:i.bytes=bytes) (hz:QU P e=some z) (hzl:z.length=1)
 (h1:opd x=some y1) (h2:opd y=some y2) (hF:FrOK w g F a) (hok:HeapOK hp g w) (hn:hp new=none)
 (hs:(AOp.apps d bytes y1 y2).sem P (evF F) hp new r ws):VRun P o a w (Post hp g w r ws):=by
 have e2:=qF hF h2
 simp only [AOp.sem] at hs
 split at hs
 · rename_i s hy
   rw [hy] at e2
   have e2':=QS e2
   have hl:(qw s.data.toList).length=s.size*1:=by rw [qw,List.length_map,Nat.mul_one];rfl
   have hl2:(s.data.toList.map fun b:UInt8=>Value.int .u8 b.toNat).length=s.size*1:=by rw [List.length_map,Nat.mul_one];rfl
   refine W7 (ex:=0) ho hc hu (.inr hux) ht hi hib hz hzl h1 hF hok hn hl hl2 hl2 (by rw [e2'];simp [Builtin.lenOf]) (by rw [e2'];exact qex s w) (by rw [e2'];exact qex s w.drew) (fun u hu=>?_) (qbL _) (qbL _) hs
   obtain ⟨b,_,rfl⟩:=List.mem_map.1 hu
   rfl
 · exact hs.elim
end
abbrev W (ro:Option Nat):Fence:={ Fence.wide with round:=ro }
def OpRun (ro:Option Nat) (n:Nat) (P:Program) (o:Oper) (a:Act) (w:World) (post:Value→World→Prop):Prop :=
 ∀ (next:Act→World→Prop) (Q:Exit→Act→World→Prop),(∀ v w',post v w'→next (a.put o.dst v) w')→o.wpIn (W ro) n P a w next Q
section
variable {P:Program} {o:Oper} {a:Act} {w:World} {g:G} {hp:Hp} {F:Nat→AV} {new:Nat} {r:AV} {ws:List (Nat × HObj)} {ro:Option Nat} {n:Nat}
theorem OpRun.of_value {post:Value→World→Prop} (hd:∀ c,o.op≠.defer c) (h:VRun P o a w post):OpRun ro n P o a w post:=by
 obtain ⟨v,w',h1,h2⟩:=h
 intro next Q hn
 refine ⟨fun _ _=>trivial,?_⟩
 rw [Oper.semAt_eq _ _ _ hd,h1]
 exact hn v w' h2
theorem OpRun.of_skip {post:Value→World→Prop} (hd:∀ c,o.op≠.defer c) (h:∃ w',(execOp a.eval o).run P w = .ok .skip w'∧post undef w'):OpRun ro n P o a w post:=by
 obtain ⟨w',h1,h2⟩:=h
 intro next Q hn
 refine ⟨fun _ _=>trivial,?_⟩
 rw [Oper.semAt_eq _ _ _ hd,h1]
 exact hn undef w' h2
theorem qpE {c : Call} {x y} {ts e : TypeId} {ats : Array TypeId} {agg sz} {y1 y2 : Opd} {d} (ho : o.op = .call c) (hc : c = { callee := .builtin .copy,args := #[x,y],argTypes := ats }) (hats : ats[0]? = some ts)
 (hu:P.underlying ts=some (.slice e)) (ht:zC P e=some (agg,sz))
 (h1:opd x=some y1) (h2:opd y=some y2) (hF:FrOK w g F a) (hok:HeapOK hp g w)
 (hs:(AOp.cpy d sz y1 y2).sem P (evF F) hp new r ws):VRun P o a w (Post hp g w r ws):=by
 have e1:=qF hF h1
 have e2:=qF hF h2
 subst hc
 simp only [AOp.sem] at hs
 split at hs
 · rename_i id off n sz' hy
   obtain ⟨m,ys,cs,hel,hpc,hcs,rfl,hle,rfl,rfl⟩:=hs
   obtain ⟨ad2,cap2,hv2,hylen,vs,hvlen,hfirst,hone,hvr⟩:=Wl (P:=P) hok hel _ hpc e2
   have hmin:Nat.min m n≤m:=Nat.min_le_left _ _
   have hf:=hfirst (Nat.min m n) hmin
   rw [hv2] at hf
   have hmsz:Nat.min m n*sz'≤m*sz':=Nat.mul_le_mul_right _ hmin
   have hnsz:Nat.min m n*sz'≤n*sz':=Nat.mul_le_mul_right _ (Nat.min_le_right _ _)
   rw [hy] at e1
   generalize hv:a.eval x=v at e1
   cases e1 with
   | ms _ _ _ _ cb dd cap arr ty fz hl hn hb hsz =>
     obtain ⟨w',s1,s2,s3⟩ := hok.store (P := P) hcs hl off (vs.take (Nat.min m n * sz')) (ys.take (Nat.min m n * sz')) (by simp; omega) (by simp; omega) hone (fun i hi => by
      rw [List.length_take] at hi
      obtain ⟨u,hu,hr⟩:=hvr i (by omega) (by omega)
      exact ⟨u,by rw [List.getElem?_take_of_lt (by omega)];exact hu,by simpa using hr.of⟩)
     refine .of (v := .int .i64 (Nat.min m n:Nat)) (w':=w') ?_ ⟨g,.v _ _,s2,s3⟩
     simp [execOp,ho,resolve,invoke,builtin,hv,hv2,Builtin.copy_,hats,run_underlying hu,qA ht,Builtin.lenOf,goInt]
     rw [hf]
     simp [s1]
   | msz _ _ _ ad l hl =>
     have hz:Nat.min m 0=0:=by simp
     have hsp:splice cs off (List.take (Nat.min m 0*sz') ys)=cs:=by simp [splice]
     rw [hsp]
     have hw0:Hp.write hp [(id,.cells cs)]=hp:=Hp.set_self hp hcs
     refine .of (v := .int .i64 (Nat.min m 0:Nat)) (w':=w) ?_ ⟨g,.v _ _,by rw [hw0];exact hok,by rw [hw0];exact .refl _ _ _⟩
     simp [execOp,ho,resolve,invoke,builtin,hv,hv2,Builtin.copy_,hats,run_underlying hu,qA ht,Builtin.lenOf,goInt]
     rw [hz] at hf
     rw [hf]
     cases ad <;> first | rfl | (simp [storeCells];done)
 · rename_i id off n c0 sz' hy
   obtain ⟨m,ys,cs,hel,hpc,hcs,rfl,hle,rfl,rfl⟩:=hs
   obtain ⟨ad2,cap2,hv2,hylen,vs,hvlen,hfirst,hone,hvr⟩:=Wl (P:=P) hok hel _ hpc e2
   have hmin:Nat.min m n≤m:=Nat.min_le_left _ _
   have hf:=hfirst (Nat.min m n) hmin
   rw [hv2] at hf
   have hmsz:Nat.min m n*sz'≤m*sz':=Nat.mul_le_mul_right _ hmin
   have hnsz:Nat.min m n*sz'≤n*sz':=Nat.mul_le_mul_right _ (Nat.min_le_right _ _)
   rw [hy] at e1
   generalize hv:a.eval x=v at e1
   cases qiE e1 with
   | ms _ _ _ _ cb dd cap arr ty fz hl hn hb hsz =>
     obtain ⟨w',s1,s2,s3⟩ := hok.store (P := P) hcs hl off (vs.take (Nat.min m n * sz')) (ys.take (Nat.min m n * sz')) (by simp; omega) (by simp; omega) hone (fun i hi => by
      rw [List.length_take] at hi
      obtain ⟨u,hu,hr⟩:=hvr i (by omega) (by omega)
      exact ⟨u,by rw [List.getElem?_take_of_lt (by omega)];exact hu,by simpa using hr.of⟩)
     refine .of (v := .int .i64 (Nat.min m n:Nat)) (w':=w') ?_ ⟨g,.v _ _,s2,s3⟩
     simp [execOp,ho,resolve,invoke,builtin,hv,hv2,Builtin.copy_,hats,run_underlying hu,qA ht,Builtin.lenOf,goInt]
     rw [hf]
     simp [s1]
   | msz _ _ _ ad l hl =>
     have hz:Nat.min m 0=0:=by simp
     have hsp:splice cs off (List.take (Nat.min m 0*sz') ys)=cs:=by simp [splice]
     rw [hsp]
     have hw0:Hp.write hp [(id,.cells cs)]=hp:=Hp.set_self hp hcs
     refine .of (v := .int .i64 (Nat.min m 0:Nat)) (w':=w) ?_ ⟨g,.v _ _,by rw [hw0];exact hok,by rw [hw0];exact .refl _ _ _⟩
     simp [execOp,ho,resolve,invoke,builtin,hv,hv2,Builtin.copy_,hats,run_underlying hu,qA ht,Builtin.lenOf,goInt]
     rw [hz] at hf
     rw [hf]
     cases ad <;> first | rfl | (simp [storeCells];done)
 · exact hs.elim
theorem qiU {w w' g g' p p' x v} (hx:x.scalar=true) (h:Rep w g p x v):Rep w' g' p' x v:=by
 cases h with
 | v=>exact .v _ _
 | tup _ cs vs hl hr =>
   refine .tup _ _ _ hl (fun i hi=>?_)
   have:=jj hx i hi
   have h2:=hr i hi
   generalize cs[i]=y at this h2
   cases y with
   | v z=>rw [QS h2];exact .v _ _
   | _=>simp at this
 | agg _ cs vs hl hr =>
   refine .agg _ _ _ hl (fun i hi=>?_)
   have:=jj hx i hi
   have h2:=hr i hi
   generalize cs[i]=y at this h2
   cases y with
   | v z=>rw [QS h2];exact .v _ _
   | _=>simp at this
 | _=>simp [AV.scalar] at hx
theorem qek {f : FuncId} {xs ys : List AV} {is : List Nat} {vs : Array Value} (hok : HeapOK hp g w) (hp1 : qE hp xs = some (ys,is)) (hvs : vs.size = xs.length) (hr : ∀ i (h : i < xs.length),Rep w g false xs[i] (vs.getD i undef))
 (hpure:qC P f ys r):CallsIn (W ro) n P f vs w fun e w'=>∃ v,e = .returned v∧Post hp g w r (bif r.scalar then [] else zB is) v w':=by
 obtain ⟨hokA,updA⟩:=hok.giveAll is (Qv hp1)
 obtain ⟨l1,l2⟩:=ZD hok hp1 (fun i h=>h)
 have hok0:HeapOK (fun _=>none) { (g.pub (QJ hp g is)) with ρ:=fun _=>none } w:=⟨fun _ _=>rfl,(fun _ _ h=>nomatch h),(fun _ _ _ _ _ _ _ h=>nomatch h),hokA.ex,hokA.tab⟩
 refine (hpure ro n w { (g.pub (QJ hp g is)) with ρ:=fun _=>none } vs hok0 (by omega) (fun i hi=>(l2 i (by omega) hi _ (hr i (by omega))).pure rfl _)).mono ?_
 rintro e w' ⟨v,g1,rfl,hr1,hok1,upd1⟩
 refine ⟨v,rfl,?_⟩
 have keep:∀ b,b<w.heap.size→w'.heap[b]?=w.heap[b]?:=fun b hb=>upd1.keep b hb (fun ⟨_,_,_,h,_⟩=>by cases h)
 have newS : ∀ b q,g1.S b q → (g.pub (QJ hp g is)).S b q ∨ w.heap.size ≤ b := fun b q h => by
  rcases upd1.S b q h with h | ⟨_,_,_,h,_⟩ | h
  · exact .inl h
  · cases h
  · exact .inr h
 cases hsc:r.scalar with
 | true =>
   have hcell:∀ b q,g.S b q→w'.cell? ⟨b,q,none⟩=w.cell? ⟨b,q,none⟩:=fun b q h=>upd1.tr.cell b q (.inl h)
   have tr:Trans w g w' { S:=fun b q=>g1.S b q∧(g.S b q∨w.heap.size≤b),ρ:=g.ρ } :=
    ⟨fun b q h=>⟨upd1.tr.S b q (.inl h),.inl h⟩,hcell,fun _ _ h=>h,upd1.tr.shp,upd1.tr.os,upd1.tr.tape,upd1.tr.output,upd1.tr.size,upd1.tr.drawn⟩
   refine ⟨_,qiU hsc hr1,?_,tr,fun c hc => .inl hc,fun b q h=>?_,fun b hb _=>keep b hb⟩
   · refine hok.change (fun _ => False) tr (fun _ _ => rfl) (fun _ _ => rfl) (fun i o c d hi ho hl hr' => keep c (hok.lt ho hl hr')) (fun i o c d hi ho hl hr' q hq => ?_) (fun _ h => h.elim) (fun _ _ _ _ _ _ _ h => h.elim) (fun b q h => hok1.ex b q h.1)
     rcases hq.2 with h | h
     · exact h
     · have:=hok.lt ho hl hr';omega
   · rcases h.2 with h | h
     · exact .inl h
     · exact .inr (.inr h)
 | false =>
   have tr:Trans w (g.pub (QJ hp g is)) w' { S:=g1.S,ρ:=g.ρ } :=
    ⟨fun b q h=>upd1.tr.S b q h,fun b q h=>upd1.tr.cell b q h,fun _ _ h=>h,upd1.tr.shp,upd1.tr.os,upd1.tr.tape,upd1.tr.output,upd1.tr.size,upd1.tr.drawn⟩
   refine ⟨_,(hr1.pure rfl g.ρ).of,?_,updA.trans ⟨tr,fun c hc => .inl hc,fun b q h=>?_,fun b hb _=>keep b hb⟩⟩
   · refine hokA.change (fun _ => False) tr (fun _ _ => rfl) (fun _ _ => rfl) (fun i o c d hi ho hl hr' => keep c (hokA.lt ho hl hr')) (fun i o c d hi ho hl hr' q hq => ?_) (fun _ h => h.elim) (fun _ _ _ _ _ _ _ h => h.elim) (fun b q h => hok1.ex b q h)
     rcases newS c q hq with h | h
     · exact h
     · have:=hokA.lt ho hl hr';omega
   · rcases newS b q h with h | h
     · exact .inl h
     · exact .inr (.inr h)
theorem ji (hp : Hp) : ∀ (ws : List (Nat × HObj)) (id : Nat) (o : HObj),Hp.write hp (ws ++ [(id,o)]) = Hp.set (Hp.write hp ws) id o
 | [],id,o=>rfl
 | (i,x)::ws,id,o=>ji (Hp.set hp i x) ws id o
theorem qjt {f : FuncId} {xs ys : List AV} {is : List Nat} {vs : Array Value} {m sz : Nat} {cs : List AV} (hok : HeapOK hp g w) (hn : hp new = none) (hp1 : qE hp xs = some (ys,is)) (hvs : vs.size = xs.length)
 (hr:∀ i (h:i<xs.length),Rep w g false xs[i] (vs.getD i undef)) (hmade:qbH P f ys m sz cs) :
 CallsIn (W ro) n P f vs w fun e w'=>∃ v,e = .returned v∧Post hp g w (.ms new 0 m sz) (zB is++[(new,.cells cs)]) v w':=by
 obtain ⟨hpc,hm⟩:=hmade
 obtain ⟨hokA,updA⟩:=hok.giveAll is (Qv hp1)
 obtain ⟨l1,l2⟩:=ZD hok hp1 (fun i h=>h)
 have hnew : new ∉ is := fun h => by
  obtain ⟨cs,hcs⟩:=Qv hp1 new h
  rw [hn] at hcs;cases hcs
 have hnA:Hp.write hp (zB is) new=none:=by rw [Qk,if_neg hnew];exact hn
 have hok0:HeapOK (fun _=>none) { (g.pub (QJ hp g is)) with ρ:=fun _=>none } w:=⟨fun _ _=>rfl,(fun _ _ h=>nomatch h),(fun _ _ _ _ _ _ _ h=>nomatch h),hokA.ex,hokA.tab⟩
 refine (hm ro n w { (g.pub (QJ hp g is)) with ρ:=fun _=>none } vs hok0 (by omega) (fun i hi=>(l2 i (by omega) hi _ (hr i (by omega))).pure rfl _)).mono ?_
 rintro e w' ⟨v,g1,rfl,hr1,hok1,upd1⟩
 refine ⟨v,rfl,?_⟩
 have keep:∀ b,b<w.heap.size→w'.heap[b]?=w.heap[b]?:=fun b hb=>upd1.keep b hb (fun ⟨_,_,_,h,_⟩=>by cases h)
 have newS : ∀ b q,g1.S b q → (g.pub (QJ hp g is)).S b q ∨ w.heap.size ≤ b := fun b q h => by
  rcases upd1.S b q h with h | ⟨_,_,_,h,_⟩ | h
  · exact .inl h
  · cases h
  · exact .inr h
 obtain ⟨l,hl,hrep⟩:=hok1.rep 0 (.cells cs) rfl
 have newB : ∀ c d,l = .blk c d → w.heap.size ≤ c := fun c d e => by
  rcases upd1.live c ⟨0,.cells cs,d,rfl,rfl,by rw [hl,e]⟩ with ⟨_,_,_,h,_⟩ | h
  · cases h
  · exact h
 have tr:Trans w (g.pub (QJ hp g is)) w' (G.home { S:=g1.S,ρ:=g.ρ } new l) :=
  ⟨fun b q h => upd1.tr.S b q h,fun b q h => upd1.tr.cell b q h,fun id l' h => by
   have:id≠new:=fun e=>by subst e;have:=hokA.dom id hnA;rw [this] at h;cases h
   simp only [G.home,if_neg this];exact h,upd1.tr.shp,upd1.tr.os,upd1.tr.tape,upd1.tr.output,upd1.tr.size,upd1.tr.drawn⟩
 have hrv:Rep w' (G.home { S:=g1.S,ρ:=g.ρ } new l) false (.ms new 0 m sz) v:=by
  cases hr1 with
  | ms _ _ _ _ c d cap arr ty fz h1 h2 h3 h4=>rw [hl] at h1;cases h1;exact .ms _ _ _ _ c d cap arr ty fz (by simp [G.home]) h2 h3 h4
  | msz _ _ _ a l' h1=>rw [hl] at h1;cases h1;exact .msz _ _ _ a l (by simp [G.home])
 refine ⟨G.home { S:=g1.S,ρ:=g.ρ } new l,hrv,?_,?_⟩
 · rw [ji]
   refine hokA.change (fun i=>i=new) tr (fun i hi=>Hp.set_other _ _ hi) (fun i hi=>by simp [G.home,hi,G.pub]) (fun i o c d hi ho hl' hr'=>keep c (hokA.lt ho hl' hr')) (fun i o c d hi ho hl' hr' q hq=>?_) ?_ ?_ (fun b q h=>hok1.ex b q h)
   · rcases newS c q hq with h | h
     · exact h
     · have:=hokA.lt ho hl' hr';omega
   · rintro i rfl
     refine ⟨_,l,Hp.set_same _ _ _,by simp [G.home],?_⟩
     cases l with
     | virg=>exact hrep
     | base L=>exact hrep
     | blk c d =>
       obtain ⟨arr,ty,fz,a1,a2,a3,a4,a5⟩:=hrep
       refine ⟨arr,ty,fz,a1,a2,a3,a4,fun j hj=>?_⟩
       obtain ⟨x,b1,b2⟩:=a5 j hj
       exact ⟨x,b1,((Yz (qaF (jj hpc j hj)) b2).pure rfl _).of⟩
   · rintro i i' o o' c d d' rfl ho ho' hl1 hl2 hr1 hr2
     simp only [G.home] at hr1 hr2
     simp at hr1
     by_cases e:i'=i
     · exact e.symm
     · rw [Hp.set_other _ _ e] at ho'
       simp [e] at hr2
       have h1:=hokA.lt ho' hl2 hr2
       have h2:=newB c d hr1
       omega
 · rw [ji]
   refine updA.trans ⟨tr,?_,fun b q h=>?_,fun b hb _=>keep b hb⟩
   · rintro c ⟨i,o,d,ho,hl1,hr1⟩
     by_cases e:i=new
     · subst e;simp [G.home] at hr1;exact .inr (newB c d hr1)
     · rw [Hp.set_other _ _ e] at ho
       simp [G.home,e] at hr1
       exact .inl ⟨i,o,d,ho,hl1,hr1⟩
   · rcases newS b q h with h | h
     · exact .inl h
     · exact .inr (.inr h)
theorem qlK {f : FuncId} {xs ys : List AV} {is : List Nat} {vs : Array Value} {Φ : List (Value × Nat × AV) → Nat → Prop} (hok : HeapOK hp g w) (hn : hp new = none) (hp1 : qE hp xs = some (ys, is)) (hvs : vs.size = xs.length)
 (hr:∀ i (h:i<xs.length),Rep w g false xs[i] (vs.getD i undef)) (hmade:qnY P f ys Φ) :
 CallsIn (W ro) n P f vs w fun e w'=>∃ v,e = .returned v∧Post hp g w (.mp new) (zB is++[(new,.mpp Φ)]) v w':=by
 obtain ⟨hpc,hm⟩:=hmade
 obtain ⟨hokA,updA⟩:=hok.giveAll is (Qv hp1)
 obtain ⟨l1,l2⟩:=ZD hok hp1 (fun i h=>h)
 have hnew : new ∉ is := fun h => by
  obtain ⟨cs,hcs⟩:=Qv hp1 new h
  rw [hn] at hcs;cases hcs
 have hnA:Hp.write hp (zB is) new=none:=by rw [Qk,if_neg hnew];exact hn
 have hok0:HeapOK (fun _=>none) { (g.pub (QJ hp g is)) with ρ:=fun _=>none } w:=⟨fun _ _=>rfl,(fun _ _ h=>nomatch h),(fun _ _ _ _ _ _ _ h=>nomatch h),hokA.ex,hokA.tab⟩
 refine (hm ro n w { (g.pub (QJ hp g is)) with ρ:=fun _=>none } vs hok0 (by omega) (fun i hi=>(l2 i (by omega) hi _ (hr i (by omega))).pure rfl _)).mono ?_
 rintro e w' ⟨v,g1,rfl,hr1,hok1,upd1⟩
 refine ⟨v,rfl,?_⟩
 have keep:∀ b,b<w.heap.size→w'.heap[b]?=w.heap[b]?:=fun b hb=>upd1.keep b hb (fun ⟨_,_,_,h,_⟩=>by cases h)
 have newS : ∀ b q,g1.S b q → (g.pub (QJ hp g is)).S b q ∨ w.heap.size ≤ b := fun b q h => by
  rcases upd1.S b q h with h | ⟨_,_,_,h,_⟩ | h
  · exact .inl h
  · cases h
  · exact .inr h
 obtain ⟨l,hl,hrep⟩:=hok1.rep 0 (.mpp Φ) rfl
 have newB : ∀ c d,l = .blk c d → w.heap.size ≤ c := fun c d e => by
  rcases upd1.live c ⟨0,.mpp Φ,d,rfl,rfl,by rw [hl,e]⟩ with ⟨_,_,_,h,_⟩ | h
  · cases h
  · exact h
 have tr:Trans w (g.pub (QJ hp g is)) w' (G.home { S:=g1.S,ρ:=g.ρ } new l) :=
  ⟨fun b q h => upd1.tr.S b q h,fun b q h => upd1.tr.cell b q h,fun id l' h => by
   have:id≠new:=fun e=>by subst e;have:=hokA.dom id hnA;rw [this] at h;cases h
   simp only [G.home,if_neg this];exact h,upd1.tr.shp,upd1.tr.os,upd1.tr.tape,upd1.tr.output,upd1.tr.size,upd1.tr.drawn⟩
 have hrv:Rep w' (G.home { S:=g1.S,ρ:=g.ρ } new l) false (.mp new) v:=by
  cases hr1 with
  | mp _ c d h1=>rw [hl] at h1;cases h1;exact .mp _ c d (by simp [G.home])
 refine ⟨G.home { S:=g1.S,ρ:=g.ρ } new l,hrv,?_,?_⟩
 · rw [ji]
   refine hokA.change (fun i=>i=new) tr (fun i hi=>Hp.set_other _ _ hi) (fun i hi=>by simp [G.home,hi,G.pub]) (fun i o c d hi ho hl' hr'=>keep c (hokA.lt ho hl' hr')) (fun i o c d hi ho hl' hr' q hq=>?_) ?_ ?_ (fun b q h=>hok1.ex b q h)
   · rcases newS c q hq with h | h
     · exact h
     · have:=hokA.lt ho hl' hr';omega
   · rintro i rfl
     refine ⟨_,l,Hp.set_same _ _ _,by simp [G.home],?_⟩
     cases l with
     | virg=>exact hrep
     | base L=>exact hrep
     | blk c d =>
       obtain ⟨es,clk,hΦ,ents,a1,a2,a3,a4,a5⟩:=hrep
       refine ⟨es,clk,hΦ,ents,a1,a2,a3,a4,fun j hj=>?_⟩
       obtain ⟨x,b1,b2,b3,b4⟩:=a5 j hj
       exact ⟨x,b1,b2,b3,((Yz (qaF (by
        have:=List.all_eq_true.1 (hpc es clk hΦ) es[j] (List.getElem_mem hj)
        exact this)) b4).pure rfl _).of⟩
   · rintro i i' o o' c d d' rfl ho ho' hl1 hl2 hr1 hr2
     simp only [G.home] at hr1 hr2
     simp at hr1
     by_cases e:i'=i
     · exact e.symm
     · rw [Hp.set_other _ _ e] at ho'
       simp [e] at hr2
       have h1:=hokA.lt ho' hl2 hr2
       have h2:=newB c d hr1
       omega
 · rw [ji]
   refine updA.trans ⟨tr,?_,fun b q h=>?_,fun b hb _=>keep b hb⟩
   · rintro c ⟨i,o,d,ho,hl1,hr1⟩
     by_cases e:i=new
     · subst e;simp [G.home] at hr1;exact .inr (newB c d hr1)
     · rw [Hp.set_other _ _ e] at ho
       simp [G.home,e] at hr1
       exact .inl ⟨i,o,d,ho,hl1,hr1⟩
   · rcases newS b q h with h | h
     · exact .inl h
     · exact .inr (.inr h)
def opds : List Operand → Option (List Opd)
 | []=>some []
 | x::xs=>match opd x,opds xs with
   | some y,some ys=>some (y::ys)
   | _,_=>none
theorem Jc : ∀ {xs : List Operand} {ys : List Opd},opds xs = some ys → ys.length = xs.length ∧ ∀ i (h : i < xs.length) (h' : i < ys.length),opd xs[i] = some ys[i]
 | [],ys,h=>by simp [opds] at h;subst h;simp
 | x::xs, ys, h=>by
   simp only [opds] at h
   split at h
   · rename_i y ys' h1 h2
     simp only [Option.some.injEq] at h
     subst h
     obtain ⟨l1,l2⟩:=Jc h2
     refine ⟨by simp [l1],fun i hi hi'=>?_⟩
     cases i with
     | zero=>simpa using h1
     | succ i=>simpa using l2 i (by simpa using hi) (by simpa using hi')
   · cases h
def Wu (P:Program) (f:FuncId):Bool:=match P.funcs[f]? with
 | some fn => !(fn.name == "runtime.NumGoroutine") && fn.body.isSome
 | none=>false
theorem jh {f:FuncId} (h:Wu P f=true) (args:Array Value) (w:World):(callFunc f args).run P w = .ok (.enter f args) w:=by
 unfold Wu at h
 cases hf:P.funcs[f]? with
 | none=>simp [hf] at h
 | some fn =>
   simp [hf] at h
   obtain ⟨h1,h2⟩:=h
   have h3:fn.body.isNone=false:=by cases hb:fn.body <;> simp_all
   have h5:¬ fn.body=none:=by cases hb:fn.body <;> simp_all
   simp [callFunc,hf,h1,h5]
theorem qm8 {c : Call} {f : FuncId} {args : Array Operand} {ats : Array TypeId} {qs : List Opd} {d} (ho : o.op = .call c) (hc : c = { callee := .value (.func f),args := args,argTypes := ats }) (hf : Wu P f = true)
 (hq:opds args.toList=some qs) (hF:FrOK w g F a) (hok:HeapOK hp g w) (hnw:hp new=none)
 (hs:(AOp.call d f qs).sem P (evF F) hp new r ws):OpRun ro n P o a w (Post hp g w r ws):=by
 subst hc
 obtain ⟨ys,is,hp1,hs⟩:=hs
 obtain ⟨l1,l2⟩:=Jc hq
 intro next Q hn
 refine ⟨fun _ _=>trivial,?_⟩
 rw [Oper.semAt_eq _ _ _ (by rw [ho];simp)]
 have hrun:(execOp a.eval o).run P w = .ok (.enter f (args.map a.eval)) w:=by
  simp [execOp,ho,resolve,Act.eval,Deferred.ofValue,invoke,jh hf]
 rw [hrun]
 refine ⟨fun h=>by simp [Fence.wide] at h,?_⟩
 have hargs : ∀ i (hi : i < (qs.map (evF F)).length),Rep w g false (qs.map (evF F))[i] ((args.map a.eval).getD i undef) := fun i hi => by
  simp at hi
  have:=qF hF (l2 i (by omega) hi)
  simpa [show i<args.size by simp at l1;omega] using this
 rcases hs with ⟨hpure,rfl⟩ | ⟨m,sz,cs,hmade,rfl,rfl⟩ | ⟨Φ,hmade,rfl,rfl⟩
 · refine (qek hok hp1 (vs := args.map a.eval) (by simp [l1]) hargs hpure).mono ?_
   rintro e w' ⟨v,rfl,hpst⟩
   exact hn v w' hpst
 · refine (qjt hok hnw hp1 (vs := args.map a.eval) (by simp [l1]) hargs hmade).mono ?_
   rintro e w' ⟨v,rfl,hpst⟩
   exact hn v w' hpst
 · refine (qlK hok hnw hp1 (vs := args.map a.eval) (by simp [l1]) hargs hmade).mono ?_
   rintro e w' ⟨v,rfl,hpst⟩
   exact hn v w' hpst
end
section
variable {P:Program} {o:Oper} {a:Act} {w:World} {g:G} {hp:Hp} {F:Nat→AV} {new:Nat} {r:AV} {ws:List (Nat × HObj)} {ro:Option Nat} {n:Nat}
theorem qpB {c : Call} {x} {ts e : TypeId} {y1 : Opd} {d} (ho : o.op = .call c) (hc : c = { callee := .builtin .cap,args := #[x],argTypes := #[ts] }) (hu : P.underlying ts = some (.slice e))
 (h1:opd x=some y1) (hF:FrOK w g F a) (hok:HeapOK hp g w) (hs:(AOp.cap d y1).sem P (evF F) hp new r ws):VRun P o a w (Post hp g w r ws):=by
 have e1:=qF hF h1
 subst hc
 simp only [AOp.sem] at hs
 split at hs
 · rename_i full n cs hy
   obtain ⟨rfl,rfl,rfl⟩:=hs
   rw [hy] at e1
   generalize hv:a.eval x=v at e1
   cases e1 with
   | sl _ _ _ _ ad cap vs hn hf =>
     have:=hf rfl;subst this
     exact .of (by simp [execOp,ho,resolve,invoke,builtin,hv,Builtin.cap_,run_underlying hu];rfl) (.nil hok (.v _ _))
 · rename_i id off n c sz hy
   obtain ⟨rfl,rfl⟩:=hs
   rw [hy] at e1
   generalize hv:a.eval x=v at e1
   cases e1 with
   | mc=>exact .of (by simp [execOp,ho,resolve,invoke,builtin,hv,Builtin.cap_,run_underlying hu];rfl) (.nil hok (.v _ _))
   | mcz=>exact .of (by simp [execOp,ho,resolve,invoke,builtin,hv,Builtin.cap_,run_underlying hu];rfl) (.nil hok (.v _ _))
 · exact hs.elim
theorem QP (zv:Value) (n:Nat):(Builtin.zeroCells zv.cells n).toList.length=n*zv.cells.size:=by simp [Builtin.zeroCells]
theorem qa3 {P:Program} {e:TypeId} {zv:Value} {sz:Nat} (hone:(zv.cells.toList.map AV.ofCell).all AV.isPC=true) (n:Nat):∀ u∈(Builtin.zeroCells zv.cells n).toList,u.oneCell'=true:=by
 intro u hu
 simp [Builtin.zeroCells] at hu
 obtain ⟨i,hi,rfl⟩:=hu
 have hlt : i % zv.cells.size < zv.cells.size := Nat.mod_lt _ (by
  rcases Nat.eq_zero_or_pos zv.cells.size with h | h
  · rw [h] at hi;simp at hi
  · exact h)
 rw [getElem!_pos zv.cells _ hlt]
 have:=List.all_eq_true.1 hone (AV.ofCell zv.cells[i % zv.cells.size]) (by simp;exact ⟨_,by simp,rfl⟩)
 exact qnK (Jy (World.settled P default) ⟨fun _ _=>False,fun _=>none⟩ true _) this
theorem VY {w g p} (zv:Value) (n:Nat):∀ i (hi:i<(zP n (zv.cells.toList.map AV.ofCell)).length),∃ u,(Builtin.zeroCells zv.cells n).toList[i]?=some u∧Rep w g p (zP n (zv.cells.toList.map AV.ofCell))[i] u:=by
 intro i hi
 obtain ⟨x,h1,h2⟩:=(WE (w:=w) (g:=g) (p:=p) zv n).2 i hi
 exact ⟨x,by rw [Array.getElem?_toList];exact h1,h2⟩
theorem qcj {e:TypeId} {z:List AV} (hz:QU P e=some z):∃ zv:Value,(∀ w,(zeroValue e).run P w = .ok zv w)∧z=zv.cells.toList.map AV.ofCell:=by
 simp only [QU,Option.map_eq_some_iff,Option.bind_eq_some_iff] at hz
 obtain ⟨v,⟨i,hi,hv⟩,rfl⟩:=hz
 exact ⟨v,fun w=>by simp [zeroValue,typeInfo,hi,hv],rfl⟩
theorem qpC {c : Call} {x} {ts e : TypeId} {agg sz} {z : List AV} {y1 : Opd} (ho : o.op = .call c) (hc : c = { callee := .builtin .clear,args := #[x],argTypes := #[ts] }) (hu : P.underlying ts = some (.slice e))
 (ht:zC P e=some (agg,sz)) (hz:QU P e=some z) (hzl:z.length=sz) (hpc:(z.all AV.isPC)=true) (h1:opd x=some y1) (hF:FrOK w g F a) (hok:HeapOK hp g w)
 (hs:(AOp.clr sz z y1).sem P (evF F) hp new r ws):VRun P o a w (Post hp g w r ws):=by
 have e1:=qF hF h1
 subst hc
 obtain ⟨zv,hzr,rfl⟩:=qcj hz
 simp at hzl
 have main : ∀ {id off n sz'}, Rep w g false (.ms id off n sz') (a.eval x) → (∃ cs, hp id = some (.cells cs) ∧ sz' = sz ∧ off + n * sz ≤ cs.length ∧ r = .any ∧ ws = [(id, .cells (splice cs off (zP n (zv.cells.toList.map AV.ofCell))))]) →
  VRun P o a w (Post hp g w r ws):=fun {id off n sz'} e1 hs=>by
  obtain ⟨cs,hcs,rfl,hle,rfl,rfl⟩:=hs
  have hzn:(zP n (zv.cells.toList.map AV.ofCell)).length=n*sz':=by rw [ZH];simp [hzl]
  generalize hv:a.eval x=v at e1
  cases e1 with
  | ms _ _ _ _ cb dd cap arr ty fz hl hn hb hsz =>
    obtain ⟨w',s1,s2,s3⟩:=hok.store (P:=P) hcs hl off (Builtin.zeroCells zv.cells n).toList (zP n (zv.cells.toList.map AV.ofCell)) (by rw [QP,hzn,hzl]) (by omega) (qa3 (P:=P) (e:=e) (sz:=sz') hpc n) (VY zv n)
    refine .of (v := .tuple #[]) (w':=w') ?_ ⟨g,.any _ _,s2,s3⟩
    by_cases h0:n=0
    · subst h0
      have:(Builtin.zeroCells zv.cells 0).toList=[]:=by simp [Builtin.zeroCells]
      rw [this] at s1
      simp [storeCells] at s1
      subst s1
      simp [execOp,ho,resolve,invoke,builtin,hv,Builtin.clear_,run_underlying hu]
    · cases n with
      | zero=>exact absurd rfl h0
      | succ n=>simp [execOp,ho,resolve,invoke,builtin,hv,Builtin.clear_,run_underlying hu,hzr,s1]
  | msz _ _ _ ad l hl =>
    have hsp:splice cs off (zP 0 (zv.cells.toList.map AV.ofCell))=cs:=by simp [splice,zP]
    rw [hsp]
    have hw0:Hp.write hp [(id,.cells cs)]=hp:=Hp.set_self hp hcs
    refine .of (v := .tuple #[]) (w':=w) ?_ ⟨g,.any _ _,by rw [hw0];exact hok,by rw [hw0];exact .refl _ _ _⟩
    cases ad <;> simp [execOp,ho,resolve,invoke,builtin,hv,Builtin.clear_,run_underlying hu]
 simp only [AOp.sem] at hs
 split at hs
 · rename_i id off n sz' hy;rw [hy] at e1;exact main e1 hs
 · rename_i id off n c0 sz' hy;rw [hy] at e1;exact main (qiE e1) hs
 · exact hs.elim
theorem ZF {ts e ty t2 : TypeId} {k : IntKind} {sz : Nat} (hu : P.underlying ts = some (.slice e)) (hu2 : P.underlying t2 = some (.int k)) {agg} (ht : zC P e = some (agg,sz)) {i : TypeInfo} (hi : P.info? e = some i) {zv : Value}
 (hz:∀ w,(zeroValue e).run P w = .ok zv w) (hzl:zv.cells.size=sz)
 {base:Option Addr} {n m cap:Nat} {w':World} (hle:n+m≤cap) (hb:m*i.bytes≤140737488355328) (hb2:m≤140737488355328)
 (hst:match base with | none=>w'=w | some b=>(storeCells (b.add (n*sz)) (Builtin.zeroCells zv.cells m).toList).run P w = .ok () w') :
 (Builtin.append_ #[ts,t2] ty #[.slice base n cap,.int .i64 (m:Int)]).run P w = .ok (.slice base (n+m) cap) w':=by
 have hw:IntKind.i64.wrap (m:Int)=m:=by
  simp only [IntKind.wrap,IntKind.bits,IntKind.signed]
  have:(m:Int) % 2 ^ 64=m:=Int.emod_eq_of_lt (by omega) (by omega)
  simp only [this]
  have:¬ ((m:Int)≥2 ^ 63):=by omega
  simp;omega
 have hneg:¬ ((m:Int)<0):=by omega
 have hbig:¬ ((m:Int)*i.bytes>281474976710656):=by
  have:((m*i.bytes:Nat):Int)=(m:Int)*i.bytes:=by simp
  rw [←this];omega
 have key : ∀ b w',(storeCells (Addr.add b (n * sz)) (Builtin.zeroCells zv.cells m).toList).run P w = .ok () w' → m * sz = 0 → w' = w := fun b w' h h0 => by
  have:(Builtin.zeroCells zv.cells m).toList=[]:=by
   apply List.eq_nil_of_length_eq_zero;rw [QP,hzl,h0]
  rw [this] at h;simp [storeCells] at h;exact h.symm
 by_cases h0:m*sz=0
 · cases base with
   | none =>
     subst hst
     simp [Builtin.append_,run_underlying hu,run_underlying hu2,qA ht,asInt,asIntOf,hw,hneg,typeInfo,hi,hbig,hle,h0]
   | some b =>
     have:=key b w' hst h0
     subst this
     simp [Builtin.append_,run_underlying hu,run_underlying hu2,qA ht,asInt,asIntOf,hw,hneg,typeInfo,hi,hbig,hle,h0,storeCells]
 · cases base with
   | none =>
     subst hst
     simp [Builtin.append_,run_underlying hu,run_underlying hu2,qA ht,asInt,asIntOf,hw,hneg,typeInfo,hi,hbig,hle,h0,hz]
   | some b =>
     simp only at hst
     simp [Builtin.append_,run_underlying hu,run_underlying hu2,qA ht,asInt,asIntOf,hw,hneg,typeInfo,hi,hbig,hle,h0,hz,hst]
theorem qdr {ts e ty t2 : TypeId} {k : IntKind} {sz : Nat} (hu : P.underlying ts = some (.slice e)) (hu2 : P.underlying t2 = some (.int k)) {agg} (ht : zC P e = some (agg,sz)) {i : TypeInfo} (hi : P.info? e = some i) {zv : Value}
 (hz:∀ w,(zeroValue e).run P w = .ok zv w) (hzl:zv.cells.size=sz)
 {base:Option Addr} {n m cap:Nat} {old:List Value} (ho:(Builtin.firstCells sz n (.slice base n cap)).run P w.drew = .ok old.toArray w.drew)
 (hlt:cap<n+m) (hb:(n+m)*i.bytes≤140737488355328) (hb2:n+m≤140737488355328) :
 ∃ newCap,n + m ≤ newCap ∧ (Builtin.append_ #[ts,t2] ty #[.slice base n cap,.int .i64 (m : Int)]).run P w =
   .ok (.slice (some ⟨w.heap.size,0,none⟩) (n+m) newCap) (w.drew.alloc (.cells (old.toArray++Builtin.zeroCells zv.cells m++Builtin.zeroCells zv.cells (newCap - (n+m))) e)):=by
 have hw:IntKind.i64.wrap (m:Int)=m:=by
  simp only [IntKind.wrap,IntKind.bits,IntKind.signed]
  have:(m:Int) % 2 ^ 64=m:=Int.emod_eq_of_lt (by omega) (by omega)
  simp only [this]
  have:¬ ((m:Int)≥2 ^ 63):=by omega
  simp;omega
 have hneg:¬ ((m:Int)<0):=by omega
 have hmb:m*i.bytes≤(n+m)*i.bytes:=Nat.mul_le_mul_right _ (by omega)
 have hbig:¬ ((m:Int)*i.bytes>281474976710656):=by
  have:((m*i.bytes:Nat):Int)=(m:Int)*i.bytes:=by simp
  rw [←this];omega
 have hnle:¬ (n+m≤cap):=by omega
 have hfit:=qb0 hlt hb
 have h63:¬ ((n:Int)+m>IntKind.i64.max):=by
  have:IntKind.i64.max=9223372036854775807:=rfl
  rw [this];omega
 have h63':¬ (9223372036854775807<(n:Int)+m):=by omega
 refine ⟨(Question.appendCap (n+m) cap e).cut (w.tape w.drawn (Question.appendCap (n+m) cap e)),by simp [Question.cut],?_⟩
 by_cases h0:m*sz=0
 · have hz0 : Builtin.zeroCells zv.cells m = #[] := by simp [Builtin.zeroCells,hzl,h0]
   simp [Builtin.append_,run_underlying hu,run_underlying hu2,qA ht,asInt,asIntOf,hw,hneg,typeInfo,hi,hbig,hnle,h0,ho,hfit,h63',Question.forced,hz,newRow,hz0]
   try (intro h;omega)
 · simp [Builtin.append_,run_underlying hu,run_underlying hu2,qA ht,asInt,asIntOf,hw,hneg,typeInfo,hi,hbig,hnle,h0,ho,hfit,h63',Question.forced,hz,newRow]
   try (intro h;omega)
theorem qm5 {c : Call} {x y} {ts t2 e : TypeId} {k : IntKind} {agg sz bytes i} {z : List AV} {y1 y2 : Opd} {d} (ho : o.op = .call c) (hc : c = { callee := .builtin .append, args := #[x, y], argTypes := #[ts, t2] })
 (hu:P.underlying ts=some (.slice e)) (hu2:P.underlying t2=some (.int k)) (ht:zC P e=some (agg,sz)) (hi:P.info? e=some i) (hib:i.bytes=bytes) (hz:QU P e=some z) (hzl:z.length=sz) (hpc:(z.all AV.isPC)=true)
 (h1:opd x=some y1) (h2:opd y=some y2) (hF:FrOK w g F a) (hok:HeapOK hp g w) (hn:hp new=none)
 (hs:(AOp.appz d sz bytes z y1 y2).sem P (evF F) hp new r ws):VRun P o a w (Post hp g w r ws):=by
 have e1:=qF hF h1
 have e2:=qF hF h2
 subst hc
 obtain ⟨zv,hzr,rfl⟩:=qcj hz
 simp at hzl
 obtain ⟨m,hm,hs⟩:=hs
 rw [hm] at e2
 have e2':=QS e2
 obtain ⟨hokd,hupdd⟩:=hok.drew
 have hzn:(zP m (zv.cells.toList.map AV.ofCell)).length=m*sz:=by rw [ZH];simp [hzl]
 have hlist:(Builtin.zeroCells zv.cells m)=(Builtin.zeroCells zv.cells m).toList.toArray:=by simp
 have run : ∀ (base : Option Addr) (n cap : Nat) v w',a.eval x = .slice base n cap → (Builtin.append_ #[ts,t2] o.type #[.slice base n cap,.int .i64 (m : Int)]).run P w = .ok v w' → (execOp a.eval o).run P w = .ok (.value v) w' := fun base n cap v w' hx hrun => by
  simp [execOp,ho,resolve,invoke,builtin,hx,e2',hrun]
 have arrsz : ∀ (old : List Value) (n newCap : Nat),old.length = n * sz → n + m ≤ newCap → (old.toArray ++ Builtin.zeroCells zv.cells m ++ Builtin.zeroCells zv.cells (newCap - (n + m))).size = newCap * sz := fun old n newCap h hle => by
  simp [Builtin.zeroCells,h,hzl]
  rw [←Nat.add_mul,←Nat.add_mul];congr 1;omega
 have grows : ∀ {hp1 : Hp} {wn : List (Nat × HObj)} (ad : Option Addr) (n cap : Nat) (old : List Value) (cs : List AV),a.eval x = .slice ad n cap → n ≤ cap → cap < n + m → (n + m) * bytes ≤ 140737488355328 → n + m ≤ 140737488355328 →
  HeapOK hp1 g w.drew→Upd hp g w.drew hp1 g w.drew→hp1 new=none→Hp.write hp wn=Hp.set hp1 new (.cells (cs++zP m (zv.cells.toList.map AV.ofCell)))→cs.length=n*sz→old.length=n*sz →
  (Builtin.firstCells sz n (.slice ad n cap)).run P w.drew = .ok old.toArray w.drew→(∀ i (hi:i<cs.length),∃ u,old[i]?=some u∧Rep w.drew g false cs[i] u) →
  VRun P o a w (Post hp g w (.ms new 0 (n+m) sz) wn):=fun {hp1 wn} ad n cap old cs hv hnc0 hlt hb1 hb2 s1 s2 hn1 hwn hcl hol hof hor=>by
  obtain ⟨newCap,hnc,hrun⟩:=qdr (ty:=o.type) hu hu2 ht hi hzr hzl hof hlt (by rw [hib];exact hb1) hb2
  obtain ⟨s3,s4⟩ := s1.alloc_priv (id := new) hn1 (old.toArray ++ Builtin.zeroCells zv.cells m ++ Builtin.zeroCells zv.cells (newCap - (n + m))) e (cs ++ zP m (zv.cells.toList.map AV.ofCell))
   (by rw [arrsz _ n newCap hol hnc];simp [hcl,hzn];rw [←Nat.add_mul];exact Nat.mul_le_mul_right _ hnc)
   (by
    rw [hlist]
    exact Ya (by omega) (by rw [QP,hzn,hzl]) hor (fun i hi=>by obtain ⟨u,h1,h2⟩:=VY (w:=w.drew) (g:=g) (p:=false) zv m i hi;exact ⟨u,h1,h2⟩) _)
  refine .of (run _ n cap _ _ hv hrun) ⟨_,?_,by rw [hwn];exact s3,by rw [hwn];exact (hupdd.trans s2).trans s4⟩
  have:=Rep.ms (w:=w.drew.alloc (.cells (old.toArray++Builtin.zeroCells zv.cells m++Builtin.zeroCells zv.cells (newCap - (n+m))) e)) (g:=g.home new (.blk w.drew.heap.size 0)) new 0 (n+m) sz w.heap.size 0 newCap _ e (0,0) (by simp [G.home]) hnc (QI _ _) (by rw [arrsz _ n newCap hol hnc];omega)
  simpa using this
 simp only [jt] at hs
 split at hs
 · rename_i full n cs hy
   obtain ⟨rfl,hcl,hb1,hb2,hnm,rfl,rfl⟩:=hs
   rw [hy] at e1
   generalize hv:a.eval x=v at e1
   cases e1 with
   | sl _ _ _ _ ad cap us hn' hf hc hrr =>
     have hcap:=hf rfl
     subst hcap
     by_cases hm0:m=0
     · subst hm0
       have hn0:cap=0:=by omega
       subst hn0
       have hcs:cs=[]:=List.eq_nil_of_length_eq_zero (by omega)
       subst hcs
       obtain ⟨s1,s2⟩:=hok.virgin hn
       refine .of (run ad 0 0 (.slice ad 0 0) w hv ?_) ⟨_,.msz new 0 sz ad .virg (by simp [G.home]),s1,s2⟩
       refine ZF (n:=0) (m:=0) (cap:=0) hu hu2 ht hi hzr hzl (Nat.le_refl _) (by omega) (by omega) ?_
       cases ad with
       | none=>rfl
       | some b=>simp [Builtin.zeroCells,storeCells]
     · have hold:∃ old:List Value, old.length=cap*sz∧(Builtin.firstCells sz cap (.slice ad cap cap)).run P w.drew = .ok old.toArray w.drew∧∀ i (hi:i<cs.length), ∃ u, old[i]?=some u∧Rep w.drew g false cs[i] u:=by
        by_cases h0:cs.length=0
        · refine ⟨[],by simp; omega,?_,fun i hi => by omega⟩
          have hk0:cap*sz=0:=by omega
          cases ad with
          | none=>simp [Builtin.firstCells]
          | some b =>
            simp only [Builtin.firstCells]
            rw [run_loadCells w.drew _ (cap*sz) (fun _=>undef) (fun j hj=>by omega)]
            simp [hk0]
        · obtain ⟨ad',rfl,hsp,_⟩ := hc 0 (by omega)
          obtain ⟨b,q,sp⟩:=ad'
          simp at hsp;subst hsp
          refine ⟨(List.range (cap*sz)).map us,by simp,?_,fun i hi=>⟨us i,by simp [show i<cap*sz by omega],((hrr i hi).of).mono hupdd.tr⟩⟩
          simp only [Builtin.firstCells]
          rw [run_loadCells w.drew _ (cap * sz) us (fun j hj => by
           obtain ⟨_,e,_,_,h5⟩:=hc j (by omega)
           cases e
           rw [zM];exact h5)]
       obtain ⟨old,hol,hof,hor⟩:=hold
       exact grows (hp1:=hp) ad cap cap old cs hv (Nat.le_refl _) (by omega) hb1 hb2 hokd (.refl _ _ _) hn rfl hcl hol hof hor
 · rename_i id off n sz' hy
   split at hs
   · rename_i cs hcs
     obtain ⟨rfl,hle,hb1,hb2,rfl,rfl⟩:=hs
     have hne:id≠new:=fun e=>by subst e;rw [hcs] at hn;cases hn
     rw [hy] at e1
     generalize hv:a.eval x=v at e1
     cases e1 with
     | ms _ _ _ _ cb dd cap arr ty fz hl hn' hb hsz =>
       obtain ⟨l,q1,q2⟩:=hok.rep id _ hcs
       rw [hl] at q1;cases q1
       obtain ⟨arr',ty',fz',g1,g2,g3,g4,g5⟩:=q2
       rw [hb] at g1;cases g1
       by_cases hroom:n+m≤cap
       · have hcapsz : (n + m) * sz' ≤ cap * sz' := Nat.mul_le_mul_right _ hroom
         rw [Nat.add_mul] at hcapsz
         have hmb:m*i.bytes≤(n+m)*i.bytes:=Nat.mul_le_mul_right _ (by omega)
         have hst:=Z3 (P:=P) (c:=cb) (ty:=ty) (fz:=fz) (dd+off+n*sz') (Builtin.zeroCells zv.cells m).toList 0 arr w hb (by rw [QP,hzl];omega) (fun q hq hq'=>g4 q (by omega) (by rw [QP,hzl] at hq';omega)) (qa3 (P:=P) (e:=e) (sz:=sz') hpc m)
         simp only [Nat.add_zero] at hst
         have hszA:=Ji arr (dd+off+n*sz') (Builtin.zeroCells zv.cells m).toList (by rw [QP,hzl];omega)
         obtain ⟨s1,s2⟩ := hok.rewrite hcs hl hb (arr' := Zc arr (dd + off + n * sz') (Builtin.zeroCells zv.cells m).toList) hszA (cs' := cs.take (off + n * sz') ++ zP m (zv.cells.toList.map AV.ofCell)) (fun q hq => by rw [Qy _ _ _ (by rw [QP,hzl]; omega),if_pos (by omega)])
          ⟨by rw [hszA]; simp [hzn]; omega,fun j hj => by
           rw [Qy _ _ _ (by rw [QP,hzl];omega)]
           simp [hzn] at hj
           have hk:(cs.take (off+n*sz')).length=off+n*sz':=by simp;omega
           by_cases a1:j<off+n*sz'
           · rw [if_pos (by omega)]
             obtain ⟨x,hx,hr⟩:=g5 j (by omega)
             exact ⟨x,hx,by rw [List.getElem_append_left (by omega)];simpa using hr⟩
           · rw [if_neg (by omega),if_pos (by rw [QP,hzl]; omega)]
             obtain ⟨u,hu,hr⟩:=VY (w:=w) (g:=g) (p:=false) zv m (j - (off+n*sz')) (by omega)
             refine ⟨u,by rw [show dd+j - (dd+off+n*sz')=j - (off+n*sz') by omega];exact hu,?_⟩
             rw [List.getElem_append_right (by omega)]
             simp only [hk]
             exact hr⟩
         obtain ⟨s3,s4⟩:=s1.rename (id:=id) (new:=new) (off:=off) (Hp.set_same _ _ _) hl (by rw [Hp.set_other _ _ (Ne.symm hne)];exact hn) (by simp [hzn];omega)
         rw [Hp.set_set] at s3 s4
         have hview:List.drop off (cs.take (off+n*sz')++zP m (zv.cells.toList.map AV.ofCell))=zT cs off (n*sz')++zP m (zv.cells.toList.map AV.ofCell):=by
          rw [List.drop_append_of_le_length (by simp;omega),List.drop_take]
          simp [zT]
         rw [hview] at s3 s4
         refine .of (run (some ⟨cb,dd+off,none⟩) n cap (.slice (some ⟨cb,dd+off,none⟩) (n+m) cap) (World.setArr w cb (Zc arr (dd+off+n*sz') (Builtin.zeroCells zv.cells m).toList) ty fz) hv ?_) ⟨_,?_,s3,s2.trans s4⟩
         · exact ZF hu hu2 ht hi hzr hzl hroom (by rw [←hib] at hb1;omega) (by omega) (by simp only [zM];exact hst)
         · have := Rep.ms (w := World.setArr w cb (Zc arr (dd + off + n * sz') (Builtin.zeroCells zv.cells m).toList) ty fz) (g := g.home new (.blk cb (dd + off))) new 0 (n + m) sz' cb (dd + off) cap _ ty fz (by simp [G.home]) hroom
            (Zm w _ ty fz (Array.getElem?_eq_some_iff.1 hb).1) (by rw [hszA];omega)
           simpa using this
       · have hold : (Builtin.firstCells sz' n (.slice (some ⟨cb,dd + off,none⟩) n cap)).run P w.drew = .ok ((List.range (n * sz')).map fun j => arr.getD (dd + off + j) undef).toArray w.drew := by
          simp only [Builtin.firstCells]
          rw [run_loadCells w.drew _ (n * sz') (fun j => arr.getD (dd + off + j) undef) (fun j hj => by
           rw [zM];show World.cell? w _=_;simp [World.cell?,hb,show dd+off+j<arr.size by omega])]
         obtain ⟨s1,s2⟩:=hokd.drop hcs
         refine grows _ n cap _ (zT cs off (n*sz')) hv hn' (by omega) hb1 hb2 s1 s2 (by rw [Hp.set_other _ _ (Ne.symm hne)];exact hn) rfl (zA hle) (by simp) hold (fun j hj=>?_)
         have hj':=hj
         rw [zA hle] at hj'
         obtain ⟨x,hx,hr⟩:=g5 (off+j) (by omega)
         rw [←Nat.add_assoc] at hx
         exact ⟨x,by simp [hj',hx],by rw [jB hj];exact hr.mono hupdd.tr⟩
     | msz _ _ _ ad l hl =>
       by_cases hm0:m=0
       · subst hm0
         obtain ⟨s1,s2⟩:=hok.drop hcs
         obtain ⟨s3,s4⟩:=s1.virgin (id:=new) (by rw [Hp.set_other _ _ (Ne.symm hne)];exact hn)
         have hview:zT cs off (0*sz')++zP 0 (zv.cells.toList.map AV.ofCell)=[]:=by simp [zT,zP]
         simp only [hview]
         refine .of (run ad 0 0 (.slice ad 0 0) w hv ?_) ⟨_,.msz new 0 sz' ad .virg (by simp [G.home]),s3,s2.trans s4⟩
         refine ZF (n:=0) (m:=0) (cap:=0) hu hu2 ht hi hzr hzl (Nat.le_refl _) (by omega) (by omega) ?_
         cases ad with
         | none=>rfl
         | some b=>simp [Builtin.zeroCells,storeCells]
       · obtain ⟨s1,s2⟩ := hokd.drop hcs
         refine grows ad 0 0 [] (zT cs off (0*sz')) hv (Nat.le_refl _) (by omega) hb1 hb2 s1 s2 (by rw [Hp.set_other _ _ (Ne.symm hne)];exact hn) rfl (zA hle) (by simp) ?_ (fun j hj=>by simp [zT] at hj)
         cases ad with
         | none=>simp [Builtin.firstCells]
         | some b =>
           simp only [Builtin.firstCells]
           rw [run_loadCells w.drew _ (0*sz') (fun _=>undef) (fun j hj=>by omega)]
           simp
   · exact hs.elim
 · rename_i id off n c sz' hy
   split at hs
   · rename_i cs hcs
     obtain ⟨rfl,hle,hb1,hb2,hs⟩:=hs
     have hne:id≠new:=fun e=>by subst e;rw [hcs] at hn;cases hn
     rw [hy] at e1
     rcases hs with ⟨hroom,hle2,rfl,rfl⟩ | ⟨hlt,rfl,rfl⟩
     · generalize hv : a.eval x = v at e1
       have hmb:m*i.bytes≤(n+m)*i.bytes:=Nat.mul_le_mul_right _ (by omega)
       rw [←hib] at hb1
       cases e1 with
       | mc _ _ _ _ _ cb dd arr ty fz hl hn' hb hsz =>
         obtain ⟨l,q1,q2⟩:=hok.rep id _ hcs
         rw [hl] at q1;cases q1
         obtain ⟨arr',ty',fz',g1,g2,g3,g4,g5⟩:=q2
         rw [hb] at g1;cases g1
         have hsum:(n+m)*sz'=n*sz'+m*sz':=Nat.add_mul _ _ _
         obtain ⟨w',s1,s2,s3⟩:=hok.store (P:=P) hcs hl (off+n*sz') (Builtin.zeroCells zv.cells m).toList (zP m (zv.cells.toList.map AV.ofCell)) (by rw [QP,hzn,hzl]) (by omega) (qa3 (P:=P) (e:=e) (sz:=sz') hpc m) (VY zv m)
         refine .of (run (some ⟨cb,dd+off,none⟩) n c (.slice (some ⟨cb,dd+off,none⟩) (n+m) c) w' hv ?_) ⟨g,?_,s2,s3⟩
         · exact ZF hu hu2 ht hi hzr hzl hroom (by omega) (by omega) (by simp only [zM,Nat.add_assoc];exact s1)
         · obtain ⟨arr2,k1,k2⟩ := s3.tr.shp _ _ _ _ hb
           exact .mc _ _ _ _ _ cb dd arr2 ty fz hl hroom k1 (by omega)
       | mcz _ _ _ ad l hl =>
         have hm0:m=0:=by omega
         subst hm0
         have hw0:Hp.write hp [(id,.cells (splice cs (off+0*sz') (zP 0 (zv.cells.toList.map AV.ofCell))))]=hp:=by
          have:splice cs (off+0*sz') (zP 0 (zv.cells.toList.map AV.ofCell))=cs:=by simp [splice,zP]
          rw [this];exact Hp.set_self hp hcs
         refine .of (run ad 0 0 (.slice ad 0 0) w hv ?_) ⟨g,.mcz _ _ _ _ _ hl,by rw [hw0];exact hok,by rw [hw0];exact .refl _ _ _⟩
         refine ZF (n:=0) (m:=0) (cap:=0) hu hu2 ht hi hzr hzl (Nat.le_refl _) (by omega) (by omega) ?_
         cases ad with
         | none=>rfl
         | some b=>simp [Builtin.zeroCells,storeCells]
     · generalize hv : a.eval x = v at e1
       cases e1 with
       | mc _ _ _ _ _ cb dd arr ty fz hl hn' hb hsz =>
         obtain ⟨l,q1,q2⟩:=hok.rep id _ hcs
         rw [hl] at q1;cases q1
         obtain ⟨arr',ty',fz',g1,g2,g3,g4,g5⟩:=q2
         rw [hb] at g1;cases g1
         refine grows (some ⟨cb,dd+off,none⟩) n c ((List.range (n*sz')).map fun j=>arr.getD (dd+off+j) undef) (zT cs off (n*sz')) hv hn' hlt hb1 hb2 hokd (.refl _ _ _) hn rfl (zA hle) (by simp) ?_ (fun j hj=>?_)
         · simp only [Builtin.firstCells]
           rw [run_loadCells w.drew _ (n * sz') (fun j => arr.getD (dd + off + j) undef) (fun j hj => by
            rw [zM];show World.cell? w _=_;simp [World.cell?,hb,show dd+off+j<arr.size by omega])]
         · have hj' := hj
           rw [zA hle] at hj'
           obtain ⟨x,hx,hr⟩:=g5 (off+j) (by omega)
           rw [←Nat.add_assoc] at hx
           exact ⟨x,by simp [hj',hx],by rw [jB hj];exact hr.mono hupdd.tr⟩
       | mcz _ _ _ ad l hl =>
         refine grows ad 0 0 [] (zT cs off (0*sz')) hv (Nat.le_refl _) hlt hb1 hb2 hokd (.refl _ _ _) hn rfl (zA hle) (by simp) ?_ (fun j hj=>by simp [zT] at hj)
         cases ad with
         | none=>simp [Builtin.firstCells]
         | some b =>
           simp only [Builtin.firstCells]
           rw [run_loadCells w.drew _ (0*sz') (fun _=>undef) (fun j hj=>by omega)]
           simp
   · exact hs.elim
 · exact hs.elim
theorem qkS {t x tp e lo hi mx} {lo' hi' mx' : Option Opd} {agg sz ln} {y1 : Opd} {d} (ho : o.op = .slice t x lo hi mx) (hu : (P.underlying t = some (.pointer tp) ∧ P.underlying tp = some (.array ln e)) ∨ P.underlying t = some (.array ln e)) (ht : zC P e = some (agg, sz))
 (h1:opd x=some y1) (hlo:qa7 lo lo') (hhi:qa7 hi hi') (hmx:qa7 mx mx') (hF:FrOK w g F a) (hok:HeapOK hp g w)
 (hs:(AOp.slp d sz ln y1 lo' hi' mx').sem P (evF F) hp new r ws):VRun P o a w (Post hp g w r ws):=by
 have e1:=qF hF h1
 have key : ∀ b q l h m,a.eval x = .pointer (some ⟨b,q,none⟩) → (Instr.sliceBounds false ln ln (lo.map a.eval) (hi.map a.eval) (mx.map a.eval)).run P w = .ok (l,h,m) w →
  (execOp a.eval o).run P w = .ok (.value (.slice (some (if m=l then ⟨b,q,none⟩ else ⟨b,q+l*sz,none⟩)) (h - l) (m - l))) w:=fun b q l h m hv hb=>by
  rcases hu with ⟨hu,hup⟩ | hu
  · simp [execOp,ho,hv,Instr.sliceAt,Instr.slice,run_underlying hu,run_underlying hup,qA ht,hb,asAddr,zM]
  · simp [execOp,ho,hv,Instr.sliceAt,run_underlying hu,qA ht,hb,Instr.sureAddr,zM]
 simp only [AOp.sem] at hs
 split at hs
 · rename_i id off hy
   split at hs
   · rename_i cs hcs
     obtain ⟨l,h,m,hl,hh,hm,hlh,hhm,hmc,hle,rfl,rfl⟩:=hs
     rw [hy] at e1
     have L:=z6 hlo hF hl
     have H:=z6 hhi hF hh
     have bnds:(Instr.sliceBounds false ln ln (lo.map a.eval) (hi.map a.eval) (mx.map a.eval)).run P w = .ok (l, h, m) w:=by
      have M:(mx.map a.eval=none∧m=ln)∨(mx.map a.eval=some (.int .i64 m)∧hi'.isSome=true):=by
       cases hmx':mx' with
       | none =>
         rw [hmx'] at hm hmx
         cases hmx'':mx with
         | some z=>rw [hmx''] at hmx;exact hmx.elim
         | none=>exact .inl ⟨by simp,hm⟩
       | some y =>
         rw [hmx'] at hm
         obtain ⟨hy',hsome⟩:=hm
         have M:=z6 (l:=m) (dflt:=0) hmx hF (by rw [hmx'];simpa using hy')
         rcases M with ⟨a1,a2,a3⟩ | ⟨a1,_⟩
         · rw [hmx'] at a3;cases a3
         · exact .inr ⟨a1,by simpa using hsome⟩
      refine ZS ?_ ?_ (M.imp (fun h=>h) And.left) hlh hhm hmc
      · rcases L with ⟨a1,a2,_⟩ | ⟨a1,_⟩
        · exact .inl ⟨a1,a2⟩
        · exact .inr a1
      · rcases H with ⟨a1,a2,a3⟩ | ⟨a1,_⟩
        · rcases M with ⟨m1,_⟩ | ⟨_,m2⟩
          · exact .inl ⟨a1,a2,m1⟩
          · rw [a3] at m2;simp at m2
        · exact .inr a1
     generalize hv:a.eval x=v at e1
     cases e1 with
     | ref _ _ c dd hl' =>
       obtain ⟨l0,q1,q2⟩:=hok.rep id _ hcs
       rw [hl'] at q1;cases q1
       obtain ⟨arr,ty,fz,g1,g2,_⟩:=q2
       refine .of (key _ _ _ _ _ hv bnds) (.nil hok ?_)
       by_cases e:m=l
       · have z1 : h - l = 0 := by omega
         have z2:m - l=0:=by omega
         rw [if_pos e,z1,z2]
         exact .mcz _ _ _ _ _ hl'
       · rw [if_neg e]
         have hml:l*sz+(m - l)*sz=m*sz:=by rw [←Nat.add_mul];congr 1;omega
         have hmln:m*sz≤ln*sz:=Nat.mul_le_mul_right _ hmc
         have:=Rep.mc (w:=w) (g:=g) id (off+l*sz) (h - l) (m - l) sz c dd arr ty fz hl' (by omega) g1 (by omega)
         rw [←Nat.add_assoc] at this
         exact this
   · exact hs.elim
 · rename_i cs off hy
   obtain ⟨l,h,hl,hh,hmn,hlh,hhl,hle,rfl,rfl⟩:=hs
   subst hmn
   have hmx0:mx=none:=by cases mx with
    | none=>rfl
    | some z=>exact hmx.elim
   subst hmx0
   rw [hy] at e1
   have L:=z6 hlo hF hl
   have H:=z6 hhi hF hh
   have bnds:(Instr.sliceBounds false ln ln (lo.map a.eval) (hi.map a.eval) (Option.map a.eval none)).run P w = .ok (l,h,ln) w:=by
    refine ZS ?_ ?_ (.inl ⟨rfl,rfl⟩) hlh hhl (Nat.le_refl _)
    · rcases L with ⟨a1,a2,_⟩ | ⟨a1,_⟩
      · exact .inl ⟨a1,a2⟩
      · exact .inr a1
    · rcases H with ⟨a1,a2,a3⟩ | ⟨a1,_⟩
      · exact .inl ⟨a1,a2,rfl⟩
      · exact .inr a1
   generalize hv:a.eval x=v at e1
   cases e1 with
   | ptr _ _ _ b q vs hc hr =>
     refine .of (key _ _ _ _ _ hv bnds) (.nil hok ?_)
     have hbnd:off+l*sz+(h - l)*sz≤cs.length:=by
      have:l*sz+(h - l)*sz=h*sz:=by rw [←Nat.add_mul];congr 1;omega
      have:h*sz≤ln*sz:=Nat.mul_le_mul_right _ hhl
      omega
     refine .sl _ _ _ _ _ _ (fun i=>vs (off+l*sz+i)) (by omega) (fun e=>by simp at e;omega) (fun i hi=>?_) (fun i hi=>?_)
     · rw [zA hbnd] at hi
       have hml : ¬ ln = l := fun e => by
        have:h - l=0:=by omega
        rw [this] at hi;simp at hi
       rw [if_neg hml]
       obtain ⟨c1,c2⟩:=hc (off+l*sz+i) (by omega)
       exact ⟨_,rfl,rfl,by simpa [Nat.add_assoc] using c1,by simpa [Nat.add_assoc] using c2⟩
     · have hi' := hi
       rw [zA hbnd] at hi'
       rw [jB hi]
       exact hr _ (by omega)
 · exact hs.elim
def qqF (P:Program) (f:FuncId) (xs:List AV) (hp:Hp) (r:AV):Prop :=
 ∀ (w:World) (g:G) (vs:Array Value),HeapOK hp g w→vs.size=xs.length→(∀ i (h:i<xs.length),Rep w g false xs[i] (vs.getD i undef))→∃ v,(callFunc f vs).run P w = .ok (.value v) w∧Rep w g false r v
end
end Go.AM
