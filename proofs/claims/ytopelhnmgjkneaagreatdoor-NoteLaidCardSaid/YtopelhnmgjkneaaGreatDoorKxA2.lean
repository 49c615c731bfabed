/-
  KxA2: texts joined: FmNL Lk1 Lx9 Lx4 Lx22 Lx23 Lx24. Own work.
-/
import Derived.Test.YtopelhnmgjkneaaGreatDoorKxA1
import Derived.Test.YtopelhnmgjkneaaGreatDoorProg
set_option linter.all false
set_option linter.unusedSimpArgs false
set_option linter.unusedVariables false
set_option linter.unusedSectionVars false

set_option maxRecDepth 100000
set_option maxHeartbeats 0
namespace Go.AM
open Go.RowKit Go.Proofs
def qww:AC:=Subtype.val (p:=fun g=>qo Tryz.prog Tryz.f16 [4]=some g) (by refine ⟨?g,?h⟩;case h=>conv=>lhs;reduce;simp only[qwo,qwp,UInt8.reduceOfNat,Int.reduceOfNat,Int.reduceNegSucc])
theorem qwA:qo Tryz.prog Tryz.f16 [4]=some qww:=by kernel_rfl
theorem qw7 {l:List Int}:(fl qjb l).length=l.length:=by rw [J9 qms,Nat.mul_one]
theorem qwT {c:Int} (h:VZ c=true):97≤c∧c≤122:=by
 unfold VZ at h
 simp only [Bool.and_eq_true,decide_eq_true_eq] at h
 exact h
theorem qwP (s:List UInt8):PlV (qaw s).length (jQ (qaw s)):=by
 have:=qdg (qgh (s:=s)).1 (qaw s).length (Nat.le_refl _)
 rwa [List.take_length] at this
theorem qxk (s:List UInt8):DyI (qku s):=by
 unfold qku
 split
 · exact (qwP s).day.1.w.i
 · exact day0_V.w.i
theorem qwB {w:Wd} (h:WdV w):(∀ b∈qjf w, 42≤b.toNat)∧(qjf w).length≤13:=by
 obtain ⟨h1,h2,h3⟩:=h
 have hb:(∀ b∈(if w.2.1=[] then [UInt8.ofNat w.1.toNat] else w.2.1), 42≤b.toNat)∧(if w.2.1=[] then [UInt8.ofNat w.1.toNat] else w.2.1).length≤8:=by
  rcases h1 with ⟨e,ha⟩ | ⟨_,hn⟩
  · rw [if_pos e]
    have:=qwT ha
    refine ⟨fun b hb=>?_,by simp⟩
    obtain rfl:b=UInt8.ofNat w.1.toNat:=by simpa using hb
    rw [UInt8.toNat_ofNat',Nat.mod_eq_of_lt (by omega)];omega
  · rw [if_neg (qgk hn)]
    refine ⟨fun b hb=>?_,qc9 hn⟩
    cases hw:w.2.1 with
    | nil=>rw [hw] at hb;cases hb
    | cons c r =>
      rw [hw] at hn hb
      unfold QW at hn
      simp only [Bool.and_eq_true,decide_eq_true_eq,List.all_eq_true] at hn
      rcases List.mem_cons.1 hb with rfl | hb
      · omega
      · have := hn.2 b hb
        unfold YN at this
        simp only [Bool.and_eq_true,decide_eq_true_eq] at this
        omega
 have hd:(∀ b∈(if w.2.2=1 then ([]:List UInt8) else 42::X0 (max 0 w.2.2).toNat), 42≤b.toNat)∧(if w.2.2=1 then ([]:List UInt8) else 42::X0 (max 0 w.2.2).toNat).length≤5:=by
  split
  · exact ⟨fun b hb=>(by cases hb),by simp⟩
  · have hl := j8 3 (max 0 w.2.2).toNat (by have : (10 : Nat) ^ (3 + 1) = 10000 := (by decide); omega)
    have ha:=qlW (max 0 w.2.2).toNat
    rw [List.all_eq_true] at ha
    refine ⟨fun b hb=>?_,by rw [List.length_cons];omega⟩
    rcases List.mem_cons.1 hb with rfl | hb
    · decide
    · have := ha b hb
      unfold qfQ at this
      simp only [Bool.and_eq_true,decide_eq_true_eq] at this
      omega
 unfold qjf
 refine ⟨fun b h=>?_,by rw [List.length_append];omega⟩
 rcases List.mem_append.1 h with h | h
 · exact hb.1 b h
 · exact hd.1 b h
theorem qw4 {w:Wd} (h:WdV w):(∀ b∈qjf w,b≠32)∧∀ b∈qjf w,b≠10 :=
 ⟨fun b hb e=>by have:=(qwB h).1 b hb;rw [e] at this;exact absurd this (by decide),fun b hb e=>by have:=(qwB h).1 b hb;rw [e] at this;exact absurd this (by decide)⟩
theorem qws : ∀ {ws : List Wd},(∀ w ∈ ws,WdV w) → ∀ {a : List UInt8},(∀ b ∈ a,b ≠ 32) → qM 32 (a ++ ws.flatMap fun w => 32 :: qjf w) = a :: ws.map qjf
 | [],_,a,ha=>by rw [List.flatMap_nil,List.append_nil];exact YD ha
 | w::ws,h,a,ha=>by
   rw [List.flatMap_cons,List.cons_append,List.map_cons,qfs ha,qws (ws:=ws) (fun x hx=>h x (by simp [hx])) (qw4 (h w (by simp))).1]
theorem qwt : ∀ {ws : List Wd},(∀ w ∈ ws,WdV w) → zg (ws.map qjf) = some ws
 | [],_=>rfl
 | w::ws,h=>by
   rw [List.map_cons]
   simp only [zg,qi4 (h w (by simp)),qwt (ws:=ws) (fun x hx=>h x (by simp [hx]))]
theorem qwL : ∀ {ws : List Wd},(∀ w ∈ ws,WdV w) → (ws.flatMap fun w => 32 :: qjf w).length ≤ 14 * ws.length
 | [],_=>Nat.le_refl _
 | w::ws,h=>by
   have h1:=(qwB (h w (by simp))).2
   have h2:=qwL (ws:=ws) (fun x hx=>h x (by simp [hx]))
   rw [List.flatMap_cons,List.length_append,List.length_cons,List.length_cons];omega
theorem qxe {ws:List Wd} (h:∀ w∈ws,WdV w):∀ b∈(ws.flatMap fun w=>32::qjf w),b≠10:=by
 intro b hb
 obtain ⟨w,hw,hb⟩:=List.mem_flatMap.1 hb
 rcases List.mem_cons.1 hb with rfl | hb
 · decide
 · exact (qw4 (h w hw)).2 b hb
abbrev qwK:List UInt8:=[87,97,118,101]
def qwR (w:Wd):Ln:=⟨3,[],[w],0⟩
def doT (w:Wd):List UInt8:=100::111::32::qjf w
def qxs (ws:List Wd):Ln:=⟨1,qwK,ws,0⟩
def rcT (ws:List Wd):List UInt8:=[114,101,99,105,112,101,32,87,97,118,101]++ws.flatMap fun w=>32::qjf w
theorem qxg (w:Wd):qp2 (qwR w)=doT w:=by
 unfold qp2 qwR doT
 simp only [show ¬ (3:Int)=2 by decide,show ¬ (3:Int)=5 by decide,show ¬ (3:Int)=6 by decide,show ¬ (3:Int)=4 by decide,show ¬ (3:Int)=1 by decide,if_false,List.flatMap_cons,List.flatMap_nil,List.append_nil]
 rfl
theorem qw1 {s:List UInt8} {l:Ln} (h1:s.length≤200) (h2:WY s=some l):jc s=0∧zd s=l:=by
 unfold jc zd
 rw [if_pos h1,if_pos h1,h2]
 exact ⟨rfl,rfl⟩
theorem qwz {w:Wd} (h:WdV w):jc (doT w)=0∧zd (doT w)=qwR w:=by
 have hw : ∀ x ∈ [w],WdV x := fun x hx => by
  obtain rfl:x=w:=by simpa using hx
  exact h
 have hs:qM 32 (doT w)=[tDo,qjf w]:=by
  have:=qws hw (a:=tDo) (by decide)
  rw [List.flatMap_cons,List.flatMap_nil,List.append_nil] at this
  exact this
 refine qw1 (by have:=(qwB h).2;unfold doT;simp only [List.length_cons];omega) ?_
 unfold WY
 rw [hs]
 have hf:=qwt hw
 rw [List.map_cons,List.map_nil] at hf
 simp only [qhF,show ¬ tDo=Zd by decide,if_false,if_true,hf,Option.map_some]
 rfl
theorem qxn {ws:List Wd} (h:∀ w∈ws,WdV w) (h1:1≤ws.length) (h8:ws.length≤8):jc (rcT ws)=0∧zd (rcT ws)=qxs ws:=by
 have hs:qM 32 (rcT ws)=Zd::qwK::ws.map qjf:=by
  have e:rcT ws=Zd++32::(qwK++ws.flatMap fun w=>32::qjf w):=rfl
  rw [e,qfs (by decide),qws h (by decide)]
 have hl:=qwL h
 refine qw1 (by unfold rcT;rw [List.length_append];show 11+_≤200;omega) ?_
 unfold WY
 rw [hs]
 have hn:QW qwK=true:=by decide
 simp only [qhF,if_true,List.length_map,qwt h,Option.map_some,hn,and_true]
 rw [if_pos ⟨h1,h8⟩]
 rfl
theorem qxh {w:Wd} (h:WdV w):qnh (qwR w)=0∧qni (qwR w)=doT w:=by
 obtain ⟨h1,h2⟩:=qwz h
 have ho:Xi (qwR w)=true:=by
  unfold Xi
  rw [qxg,h1,h2]
  simp [qwR]
 unfold qnh qni
 rw [ho,qxg]
 exact ⟨rfl,rfl⟩
structure At (q:Pl) (d:Dy) (n:Nat):Prop where
 at':q.at'=q.ds.length
 kept:q.kept.length=q.ds.length
 day:qX q=d
 errs:q.errs=List.replicate n 0
theorem At.zero:At pl0 dy0 0:=⟨rfl,rfl,rfl,rfl⟩
theorem At.step {q:Pl} {d d':Dy} {n:Nat} {s:List UInt8} {l:Ln} (h:At q d n) (hp:jc s=0∧zd s=l) (h3:l.kind≤4) (h4:zi d l=(d',0)):At (Ql q s) d' (n+1):=by
 obtain ⟨h1,h2⟩:=hp
 have t1:q.ds.take q.at'=q.ds:=by rw [h.at',List.take_length]
 have t2:q.kept.take q.at'=q.kept:=by rw [h.at',←h.kept,List.take_length]
 unfold Ql
 rw [if_neg (by simpa using h1),h2,if_neg (by omega),if_neg (by omega),if_neg (by omega),h.day,h4,if_pos rfl,t1,t2]
 refine ⟨by simp [h.at'],by simp [h.kept],?_,by rw [List.replicate_succ',←h.errs]⟩
 unfold qX
 show (dy0::(q.ds++[d'])).getD (q.at'+1) dy0=d'
 rw [List.getD_eq_getElem?_getD,List.getElem?_cons_succ,h.at',List.getElem?_append_right (Nat.le_refl _)]
 simp
theorem At.snoc {m:List (List UInt8)} {d d':Dy} {n:Nat} {s:List UInt8} {l:Ln} (h:At (jQ m) d n) (hp:jc s=0∧zd s=l) (h3:l.kind≤4) (h4:zi d l=(d',0)):At (jQ (m++[s])) d' (n+1):=by
 rw [qw2];exact h.step hp h3 h4
def ActW (w:Wd):Prop:=w.2.1=[]∧VZ w.1=true∧1≤w.2.2∧w.2.2≤256
def qxf (p:Pt):Prop:=p.2.1 = -1∧1≤p.2.2∧p.2.2≤256
def ptW (w:Wd):Pt:=(w.1,-1,w.2.2)
theorem ActW.v {w:Wd} (h:ActW w):WdV w:=⟨.inl ⟨h.1,h.2.1⟩,h.2.2.1,by have:=h.2.2.2;omega⟩
theorem ActW.p {w:Wd} (h:ActW w):qxf (ptW w):=⟨rfl,h.2.2⟩
theorem qwy {long:List Int} {l:List Pt} (h:∀ p∈l,qxf p):0≤QZ long l∧QZ long l≤256*(l.length:Int):=by
 have key:∀ (l:List Pt) (n:Int),(∀ p∈l,qxf p)→0≤n→0≤l.foldl (jU long) n∧l.foldl (jU long) n≤n+256*(l.length:Int):=by
  intro l
  induction l with
  | nil=>intro n _ h0;exact ⟨h0,by simp⟩
  | cons p l ih =>
    intro n h h0
    obtain ⟨e,h1,h2⟩:=h p (by simp)
    have ho:ja long p=1:=by unfold ja;rw [e];rfl
    have ht:0≤jU long n p∧jU long n p≤n+256:=by
     unfold jU
     rw [ho]
     have:JS=1125899906842624:=rfl
     omega
    obtain ⟨a,b⟩:=ih (jU long n p) (fun q hq=>h q (by simp [hq])) ht.1
    rw [List.foldl_cons]
    refine ⟨a,?_⟩
    rw [List.length_cons]
    omega
 have:=key l 0 h (Int.le_refl _)
 unfold QZ
 omega
theorem qwD {rc : List Bk} : ∀ {ws : List Wd},(∀ w ∈ ws,ActW w) → Qf rc ws = some (ws.map ptW)
 | [],_=>rfl
 | w::ws,h=>by
   have e:Xg rc w=some (ptW w):=by unfold Xg;rw [if_pos (h w (by simp)).1];rfl
   simp only [Qf,e,qwD (ws:=ws) (fun x hx=>h x (by simp [hx])),List.map_cons]
theorem qwI {d:Dy} {w:Wd} {p:Pt} (hb:d.bath≠0) (hp:Xg d.rc w=some p) (hl:d.pat.length<64) (ht:QZ (qu d.rc) (d.pat++[p])≤QM):zi d (qwR w)=({ d with pat:=d.pat++[p] },0):=by
 have e:Qf d.rc [w]=some [p]:=by simp only [Qf,hp]
 unfold zi qwR
 simp only [show ¬ (3:Int)=1 by decide,show ¬ (3:Int)=2 by decide,if_false,if_neg hb,if_true,e]
 rw [if_neg (by rw [List.length_append,List.length_singleton];omega),if_neg (by omega)]
theorem qwO {d:Dy}:zi d ⟨2,[],[],0⟩=({ d with bath:=d.bath+1,laid:=0,pat:=[] },0):=rfl
theorem qwJ {d:Dy} {n:Int} (hb:d.bath≠0) (hn:∀ s∈d.sh,s.num≠n) (hl:d.laid<8):zi d ⟨4,[],[],n⟩=({ d with sh:=d.sh++[⟨n,d.bath,d.laid,d.pat⟩],laid:=d.laid+1,pat:=[] },0):=by
 have e : (d.sh.any fun s => decide (s.num = n)) = false := by
  rw [List.any_eq_false];intro s hs;simpa using hn s hs
 unfold zi
 simp only [show ¬ (4:Int)=1 by decide,show ¬ (4:Int)=2 by decide,show ¬ (4:Int)=3 by decide,if_false,if_neg hb,e,Bool.false_eq_true]
 rw [if_neg (by omega)]
theorem At.dos : ∀ {ws : List Wd} {m : List (List UInt8)} {d : Dy} {n : Nat},At (jQ m) d n → (∀ w ∈ ws,ActW w) → d.bath ≠ 0 → (∀ p ∈ d.pat,qxf p) → d.pat.length + ws.length ≤ 64 →
 At (jQ (m++ws.map doT)) { d with pat:=d.pat++ws.map ptW } (n+ws.length)
 | [],m,d,n,h,_,_,_,_=>by simpa using h
 | w::ws,m,d,n,h,hw,hb,hp,hl=>by
   rw [List.length_cons] at hl
   have a:=hw w (by simp)
   have hpp : ∀ p ∈ d.pat ++ [ptW w],qxf p := fun p hx => by
    rcases List.mem_append.1 hx with hx | hx
    · exact hp p hx
    · obtain rfl : p = ptW w := by simpa using hx
      exact a.p
   have ht:=(qwy (long:=qu d.rc) hpp).2
   have e:Xg d.rc w=some (ptW w):=by unfold Xg;rw [if_pos a.1];rfl
   have hm:QM=1099511627776:=rfl
   have hlen:(d.pat++[ptW w]).length≤64:=by rw [List.length_append,List.length_singleton];omega
   have s1:=h.snoc (qwz a.v) (by show (3:Int)≤4;decide) (qwI hb e (by omega) (by omega))
   have s2:=At.dos (ws:=ws) s1 (fun x hx=>hw x (by simp [hx])) hb hpp (by rw [List.length_append,List.length_singleton];omega)
   rw [List.map_cons,List.length_cons,List.map_cons]
   rw [List.append_assoc,List.append_assoc] at s2
   have e2:n+1+ws.length=n+(ws.length+1):=by omega
   rw [e2] at s2
   exact s2
def qwC (ws:List Wd):List Bk:=[(qwK,ws.map ptW)]
def qwW (ws:List Wd) (t:Nat):List Wd:=(List.replicate t ws).flatten
def lyP (ws:List Wd) (t:Nat):List Pt:=(qwW ws t).map ptW
def lyD (ws:List Wd) (t:Nat):Dy:=⟨qwC ws,2,1,[],[⟨1,1,0,[(0,0,(t:Int))]⟩,⟨2,1,1,lyP ws t⟩,⟨3,2,0,[(0,0,(t:Int)),(97,-1,1)]⟩]⟩
def lyW (t:Nat):Wd:=(0,qwK,(t:Int))
abbrev tLay1:List UInt8:=[108,97,121,32,49]
abbrev tLay2:List UInt8:=[108,97,121,32,50]
abbrev tLay3:List UInt8:=[108,97,121,32,51]
def lyL (ws:List Wd) (t:Nat):List (List UInt8):=[]++[rcT ws]++[tBath]++[doT (lyW t)]++[tLay1]++(qwW ws t).map doT++[tLay2]++[tBath]++[doT (lyW t)]++[doT (97,[],1)]++[tLay3]
theorem qw9:(jc tBath=0∧zd tBath=⟨2,[],[],0⟩)∧(jc tLay1=0∧zd tLay1=⟨4,[],[],1⟩)∧(jc tLay2=0∧zd tLay2=⟨4,[],[],2⟩)∧(jc tLay3=0∧zd tLay3=⟨4,[],[],3⟩):=by decide +kernel
theorem qxb {t:Nat} (ht:1≤t∧t≤3):WdV (lyW t):=⟨.inr ⟨rfl,show QW qwK=true from by decide⟩,by show 1≤(t:Int);omega,by show (t:Int)≤1000;omega⟩
theorem qw5 {ws:List Wd} {t:Nat}:(qwW ws t).length=t*ws.length:=by unfold qwW;simp
theorem qw6 {ws:List Wd} {t:Nat} (h:∀ w∈ws,ActW w):∀ w∈qwW ws t,ActW w:=by
 intro w hw
 obtain ⟨x,hx,hw⟩:=List.mem_flatten.1 hw
 rw [List.mem_replicate] at hx
 rw [hx.2] at hw
 exact h w hw
theorem qw3 (ws:List Wd) (t:Nat):Xg (qwC ws) (lyW t)=some (0,0,(t:Int)):=by
 have e:zL (qwC ws) qwK=0:=by
  unfold zL qiy qwC
  simp [List.findIdx?_cons]
 unfold Xg lyW
 rw [if_neg (by simp)]
 simp only [e]
 rfl
theorem qwV {ws : List Wd} {t : Nat} (h : ∀ w ∈ ws,ActW w) (h4 : ws.length ≤ 4) (ht : 1 ≤ t ∧ t ≤ 3) :
 (0≤QZ (qu (qwC ws)) [(0,0,(t:Int))]∧QZ (qu (qwC ws)) [(0,0,(t:Int))]≤3072)∧(0≤QZ (qu (qwC ws)) [(0,0,(t:Int)),(97,-1,1)]∧QZ (qu (qwC ws)) [(0,0,(t:Int)),(97,-1,1)]≤3073):=by
 have hA : ∀ p ∈ ws.map ptW,qxf p := fun p hp => by
  obtain ⟨w,hw,rfl⟩:=List.mem_map.1 hp
  exact (h w hw).p
 obtain ⟨a,b⟩:=qwy (long:=[]) hA
 rw [List.length_map] at b
 have e:qu (qwC ws)=[QZ [] (ws.map ptW)]:=rfl
 rw [e]
 generalize QZ [] (ws.map ptW)=T at a b
 have e1:QZ [T] [(0,0,(t:Int))]=min JS (0+T*(t:Int)):=rfl
 have e2:QZ [T] [(0,0,(t:Int)),(97,-1,1)]=min JS (min JS (0+T*(t:Int))+1*1):=rfl
 have hT:0≤T*(t:Int):=Int.mul_nonneg a (by omega)
 have hT2:T*(t:Int)≤1024*3:=Int.mul_le_mul (by omega) (by omega) (by omega) (by decide)
 have hf:JS=1125899906842624:=rfl
 rw [e1,e2]
 omega
theorem qwZ {ws:List Wd} {t:Nat} (h:∀ w∈ws,ActW w) (h1:1≤ws.length) (h4:ws.length≤4) (ht:1≤t∧t≤3):At (jQ (lyL ws t)) (lyD ws t) (9+t*ws.length):=by
 obtain ⟨rB,r1,r2,r3⟩:=qw9
 have hV:∀ w∈ws,WdV w:=fun w hw=>(h w hw).v
 have hA : ∀ p ∈ ws.map ptW,qxf p := fun p hp => by
  obtain ⟨w,hw,rfl⟩:=List.mem_map.1 hp
  exact (h w hw).p
 have hm:QM=1099511627776:=rfl
 obtain ⟨⟨g1,g2⟩,g3,g4⟩:=qwV h h4 ht
 have tA:=(qwy (long:=[]) hA).2
 rw [List.length_map] at tA
 have k3:(3:Int)≤4:=by decide
 have n1:zi dy0 (qxs ws)=(⟨qwC ws,0,0,[],[]⟩,0):=by
  unfold zi qxs
  simp only [if_true]
  rw [if_neg (show ¬ 0≤zL dy0.rc qwK by decide),if_neg (show ¬ 32≤dy0.rc.length by decide),qwD h]
  simp only
  rw [if_neg (show ¬ QM<QZ (qu dy0.rc) (ws.map ptW) from by show ¬ QM<QZ [] (ws.map ptW);omega)]
  rfl
 have s0:At (jQ []) dy0 0:=At.zero
 have s1:=s0.snoc (qxn hV h1 (by omega)) (by show (1:Int)≤4;decide) n1
 have s2:=s1.snoc rB (by decide) qwO
 have s3:=s2.snoc (qwz (qxb ht)) k3 (qwI (p:=(0,0,(t:Int))) (by show ¬ (0:Int)+1=0;decide) (qw3 ws t) (by show 0<64;decide) (by show QZ (qu (qwC ws)) [(0,0,(t:Int))]≤QM;omega))
 have s4:=s3.snoc r1 (by decide) (qwJ (by show ¬ (0:Int)+1=0;decide) (fun s hs=>by cases hs) (by show (0:Int)<8;decide))
 have hl:=qw5 (ws:=ws) (t:=t)
 have hl2:t*ws.length≤3*4:=Nat.mul_le_mul ht.2 h4
 have s5:=s4.dos (qw6 (t:=t) h) (by show ¬ (0:Int)+1=0;decide) (fun p hp=>by cases hp) (by show 0+_≤64;omega)
 have s6 := s5.snoc r2 (by decide) (qwJ (by show ¬ (0 : Int) + 1 = 0; decide) (fun s hs => by
  obtain rfl:s=⟨1,0+1,0,[]++[(0,0,(t:Int))]⟩:=by simpa using hs
  show ¬ (1:Int)=2;decide) (by show (0:Int)+1<8;decide))
 have s7:=s6.snoc rB (by decide) qwO
 have s8:=s7.snoc (qwz (qxb ht)) k3 (qwI (p:=(0,0,(t:Int))) (by show ¬ (0:Int)+1+1=0;decide) (qw3 ws t) (by show 0<64;decide) (by show QZ (qu (qwC ws)) [(0,0,(t:Int))]≤QM;omega))
 have aw:ActW (97,[],1):=⟨rfl,by decide,by decide,by decide⟩
 have s9:=s8.snoc (qwz aw.v) k3 (qwI (p:=(97,-1,1)) (by show ¬ (0:Int)+1+1=0;decide) rfl (by show 1<64;decide) (by show QZ (qu (qwC ws)) [(0,0,(t:Int)),(97,-1,1)]≤QM;omega))
 have s10 := s9.snoc r3 (by decide) (qwJ (by show ¬ (0 : Int) + 1 + 1 = 0; decide) (fun s hs => by
  have hs:s∈[(⟨1,0+1,0,[]++[(0,0,(t:Int))]⟩:Sht),⟨2,0+1,0+1,[]++(qwW ws t).map ptW⟩]:=hs
  rcases List.mem_cons.1 hs with rfl | hs
  · show ¬ (1:Int)=3;decide
  · obtain rfl := List.mem_singleton.1 hs
    show ¬ (2:Int)=3;decide) (by show (0:Int)<8;decide))
 have e:0+1+1+1+1+(qwW ws t).length+1+1+1+1+1=9+t*ws.length:=by omega
 rw [e] at s10
 exact s10
theorem qwQ {ws : List Wd} : ∀ t : Nat,qwr ((qwW ws t).map doT) = (List.replicate t (qwr (ws.map doT))).flatten
 | 0=>rfl
 | t+1=>by
   have e:qwW ws (t+1)=ws++qwW ws t:=by unfold qwW;rw [List.replicate_succ,List.flatten_cons]
   rw [e,List.map_append,qwx,qwQ t,List.replicate_succ,List.flatten_cons]
def lyS (ws:List Wd) (t:Nat):List UInt8 :=
 rcT ws++[10,98,97,116,104,10]++doT (lyW t)++[10,108,97,121,32,49,10]++(List.replicate t (qwr (ws.map doT))).flatten++[108,97,121,32,50,10,98,97,116,104,10]++doT (lyW t)++[10,100,111,32,97,10,108,97,121,32,51,10]
theorem qxa (ws:List Wd) (t:Nat):qwr (lyL ws t)=lyS ws t:=by
 have ea:doT (97,[],1)=[100,111,32,97]:=rfl
 have one:∀ w:List UInt8,qwr [w]=w++[10]:=fun w=>by simp [qwr]
 unfold lyL lyS
 rw [ea]
 simp only [qwx,one,qwQ,List.append_assoc]
 simp [qwr]
theorem qwv {k : Nat} : ∀ {l : List (List UInt8)},(∀ w ∈ l,w.length ≤ k) → (qwr l).length ≤ (k + 1) * l.length
 | [],_=>Nat.zero_le _
 | w::l,h=>by
   have h1:=h w (by simp)
   have h2:=qwv (k:=k) (l:=l) (fun x hx=>h x (by simp [hx]))
   rw [qwG,List.length_append,List.length_cons,List.length_cons,Nat.mul_succ];omega
theorem qwM {w:Wd} (h:WdV w):(doT w).length≤80∧∀ b∈doT w,b≠10:=by
 have:=(qwB h).2
 refine ⟨by unfold doT;simp only [List.length_cons];omega,fun b hb=>?_⟩
 unfold doT at hb
 rcases List.mem_cons.1 hb with rfl | hb
 · decide
 rcases List.mem_cons.1 hb with rfl | hb
 · decide
 rcases List.mem_cons.1 hb with rfl | hb
 · decide
 exact (qw4 h).2 b hb
theorem qxr {ws:List Wd} {t:Nat} (h:∀ w∈ws,ActW w) (h4:ws.length≤4) (ht:1≤t∧t≤3):∀ w∈lyL ws t,w.length≤80∧∀ b∈w,b≠10:=by
 have hV:∀ w∈ws,WdV w:=fun w hw=>(h w hw).v
 have hr:(rcT ws).length≤80∧∀ b∈rcT ws,b≠10:=by
  have:=qwL hV
  unfold rcT
  refine ⟨by rw [List.length_append];show 11+_≤80;omega,fun b hb=>?_⟩
  rcases List.mem_append.1 hb with hb | hb
  · have q : ∀ b ∈ ([114,101,99,105,112,101,32,87,97,118,101] : List UInt8),b ≠ 10 := by decide
    exact q b hb
  · exact qxe hV b hb
 have hb:tBath.length≤80∧∀ b∈tBath,b≠10:=by decide
 have h1:tLay1.length≤80∧∀ b∈tLay1,b≠10:=by decide
 have h2:tLay2.length≤80∧∀ b∈tLay2,b≠10:=by decide
 have h3:tLay3.length≤80∧∀ b∈tLay3,b≠10:=by decide
 have hd:=qwM (qxb ht)
 have ha:(doT (97,[],1)).length≤80∧∀ b∈doT (97,[],1),b≠10:=qwM (show ActW (97,[],1) from ⟨rfl,by decide,by decide,by decide⟩).v
 intro w hw
 unfold lyL at hw
 simp only [List.mem_append,List.mem_singleton,List.mem_map,List.not_mem_nil,false_or] at hw
 rcases hw with ((((((((rfl | rfl) | rfl) | rfl) | ⟨x,hx,rfl⟩) | rfl) | rfl) | rfl) | rfl) | rfl
 · exact hr
 · exact hb
 · exact hd
 · exact h1
 · exact qwM (qw6 h x hx).v
 · exact h2
 · exact hb
 · exact hd
 · exact ha
 · exact h3
theorem qwE {T : List (List UInt8)} : ∀ (ws : List Wd),spell T (ws.map ptW) = spell [] (ws.map ptW)
 | []=>rfl
 | w::ws=>by
   have ih:=qwE (T:=T) ws
   unfold spell at ih ⊢
   rw [List.map_cons,List.flatMap_cons,List.flatMap_cons,ih]
   rfl
theorem qwF {ws : List Wd} : ∀ t : Nat,spell [] (lyP ws t) = (List.replicate t (spell [] (ws.map ptW))).flatten
 | 0=>rfl
 | t+1=>by
   have e:lyP ws (t+1)=ws.map ptW++lyP ws t:=by unfold lyP qwW;rw [List.replicate_succ,List.flatten_cons,List.map_append]
   have sa:∀ a b:List Pt,spell [] (a++b)=spell [] a++spell [] b:=fun a b=>by unfold spell;rw [List.flatMap_append]
   rw [e,sa,qwF t,List.replicate_succ,List.flatten_cons]
theorem qw8 {ws : List Wd} {t : Nat} (h : ∀ w ∈ ws,ActW w) (h1 : 1 ≤ ws.length) (h4 : ws.length ≤ 4) (ht : 1 ≤ t ∧ t ≤ 3) :
 (V0 (lyS ws t)=0∧(lyS ws t).length≤5000∧qku (lyS ws t)=lyD ws t∧qmV (lyS ws t)=List.replicate (9+t*ws.length) 0∧t*ws.length≤12) ∧
 (Zx (lyD ws t) 1=0∧Zx (lyD ws t) 2=0∧Zx (lyD ws t) 3=0) ∧
 ((Jh (lyD ws t) 1).getD sh0=⟨1,1,0,[(0,0,(t:Int))]⟩∧(Jh (lyD ws t) 2).getD sh0=⟨2,1,1,lyP ws t⟩∧(Jh (lyD ws t) 3).getD sh0=⟨3,2,0,[(0,0,(t:Int)),(97,-1,1)]⟩) ∧
 qgC (lyD ws t) 1 2=0∧qgC (lyD ws t) 1 3=15∧qgC (lyD ws t) 1 4=5:=by
 have P:=qwZ h h1 h4 ht
 have hl:=qxr h h4 ht
 have hl2:t*ws.length≤3*4:=Nat.mul_le_mul ht.2 h4
 have hlen:(lyL ws t).length=9+t*ws.length:=by
  unfold lyL
  simp only [List.length_append,List.length_singleton,List.length_nil,List.length_map,qw5];omega
 have hb:=qwv (k:=80) (l:=lyL ws t) (fun w hw=>(hl w hw).1)
 rw [hlen] at hb
 obtain ⟨l1,l2⟩:=qxq (l:=lyL ws t) (fun w hw=>(hl w hw).2) (by omega) (by omega)
 rw [qxa] at l1 l2 hb
 have hD:qku (lyS ws t)=lyD ws t:=by unfold qku;rw [if_pos l1,l2,P.day]
 have hE:qmV (lyS ws t)=List.replicate (9+t*ws.length) 0:=by unfold qmV;rw [if_pos l1,l2,P.errs]
 have V:DayV (lyD ws t):=by
  rw [←hD]
  unfold qku
  rw [if_pos l1]
  exact (qwP _).day.1
 have hB:=jw.2 V
 have sL:∀ n,Jh (lyD ws t) n=(lyD ws t).sh.find? fun s=>decide (s.num=n):=fun n=>by unfold Jh;rw [if_pos hB]
 have f1:Jh (lyD ws t) 1=some ⟨1,1,0,[(0,0,(t:Int))]⟩:=by rw [sL];rfl
 have f2:Jh (lyD ws t) 2=some ⟨2,1,1,lyP ws t⟩:=by rw [sL];rfl
 have f3:Jh (lyD ws t) 3=some ⟨3,2,0,[(0,0,(t:Int)),(97,-1,1)]⟩:=by rw [sL];rfl
 have f4:Jh (lyD ws t) 4=none:=by rw [sL];rfl
 have g:∀ {n s},Jh (lyD ws t) n=some s→Zx (lyD ws t) n=0:=fun hs=>by unfold Zx;rw [if_pos hB,hs];rfl
 have g4:Zx (lyD ws t) 4=5:=by unfold Zx;rw [if_pos hB,f4];rfl
 obtain ⟨⟨_,t1⟩,_,t3⟩:=qwV h h4 ht
 have hA : ∀ p ∈ lyP ws t,qxf p := fun p hp => by
  obtain ⟨w,hw,rfl⟩:=List.mem_map.1 hp
  exact (qw6 h w hw).p
 have t2:=(qwy (long:=qu (qwC ws)) hA).2
 have e2:(lyP ws t).length=t*ws.length:=by unfold lyP;rw [List.length_map,qw5]
 rw [e2] at t2
 have er:(lyD ws t).rc=qwC ws:=rfl
 have eT:spR (qwC ws)=[spell [] (ws.map ptW)]:=rfl
 have p1:spell (spR (qwC ws)) [(0,0,(t:Int))]=(List.replicate t (spell [] (ws.map ptW))).flatten:=by
  rw [eT]
  unfold spell
  rw [List.flatMap_cons,List.flatMap_nil,List.append_nil]
  rfl
 have p2:spell (spR (qwC ws)) (lyP ws t)=(List.replicate t (spell [] (ws.map ptW))).flatten:=by
  rw [←qwF]
  exact qwE (qwW ws t)
 have p3:spell (spR (qwC ws)) [(0,0,(t:Int)),(97,-1,1)]=spell (spR (qwC ws)) [(0,0,(t:Int))]++[97]:=by
  unfold spell
  rw [List.flatMap_cons,List.flatMap_cons,List.flatMap_nil,List.flatMap_cons,List.flatMap_nil,List.append_nil,List.append_nil]
  rfl
 refine ⟨⟨l1,by omega,hD,hE,by omega⟩,⟨g f1,g f2,g f3⟩,⟨by rw [f1];rfl,by rw [f2];rfl,by rw [f3];rfl⟩,?_,?_,?_⟩
 · unfold qgC
   rw [g f1,g f2,f1,f2]
   simp only [Option.getD_some,er]
   rw [if_neg (by decide),if_neg (by decide),if_neg (by omega),if_neg (by omega),if_pos (by rw [p1,p2])]
 · unfold qgC
   rw [g f1,g f3,f1,f3]
   simp only [Option.getD_some,er]
   rw [if_neg (by decide),if_neg (by decide),if_neg (by omega),if_neg (by omega),if_neg (by
    rw [p3]
    intro e
    have:=congrArg List.length e
    rw [List.length_append,List.length_singleton] at this
    omega)]
 · unfold qgC
   rw [g f1,g4]
   rfl
def prC (p:Nat × Nat):List AV:=[U (p.1:Int),U (p.2:Int)]
theorem qwS (p:Nat × Nat):(prC p).length=2:=rfl
theorem qxi {l:List (Nat × Nat)} {i:Nat} (h:i<l.length):YO (fl prC l) (i*2)=some (U (l[i].1:Int)):=by rw [←Nat.add_zero (i*2),Ja qwS h (by decide)];rfl
theorem qxj {l:List (Nat × Nat)} {i:Nat} (h:i<l.length):YO (fl prC l) (i*2+1)=some (U (l[i].2:Int)):=by rw [Ja qwS h (by decide)];rfl
theorem qxl {l:List (Nat × Nat)}:(fl prC l).length=l.length*2:=J9 qwS l
theorem qxu {ln sz:Nat} {cs:List AV} {o:Nat} {j:Int} {k:IntKind} {K:AV→List (Nat × HObj)→Prop}:qtt ln sz (.ptr cs o) (.v (.int k j)) K=((0≤j∧j<ln)∧K (.ptr cs (o+j.toNat*sz)) []):=rfl
def wdP (p:Nat × Nat):Wd:=(((97+p.1 % 26:Nat):Int),[],((1+p.2:Nat):Int))
theorem qxo {p:Nat × Nat} (h:p.2≤255):ActW (wdP p):=by
 refine ⟨rfl,?_,?_,?_⟩
 · show VZ ((97 + p.1 % 26 : Nat) : Int) = true
   unfold VZ
   simp only [Bool.and_eq_true,decide_eq_true_eq]
   omega
 · show 1≤((1+p.2:Nat):Int);omega
 · show ((1+p.2:Nat):Int)≤256;omega
theorem qxp {w:Wd} (h:WdV w):LnI (qwR w):=by
 obtain ⟨h1,h2⟩:=h
 refine ⟨qj4 (by show -1000000≤(3:Int)∧(3:Int)≤1000000;decide),qj4 (by show -1000000≤(0:Int)∧(0:Int)≤1000000;decide),fun x hx=>?_,by show 1≤100000;decide,by show 0≤100000;decide⟩
 obtain rfl:x=w:=by simpa [qwR] using hx
 have hi:i64 x.2.2:=qj4 (by omega)
 rcases h1 with ⟨e1,e2⟩ | ⟨e1,e2⟩
 · have := qwT e2
   exact ⟨⟨by omega,by omega⟩,hi,by rw [e1];decide⟩
 · have := qc9 e2
   exact ⟨⟨by omega,by omega⟩,hi,by omega⟩
theorem qwY {w:Wd} (h:WdV w):qC Tryz.prog 21 [LnV (qwR w)] (.tup [S (doT w),I 0]):=by
 obtain ⟨e,t⟩:=qxh h
 have hn:w.2.1.length≤1000:=by
  rcases h.1 with ⟨e1,_⟩ | ⟨_,e2⟩
  · rw [e1];decide
  · have:=qc9 e2;omega
 have := qit (qwR w) (qxp h) (by show 1 ≤ 20; decide) (fun x hx => by
  obtain rfl:x=w:=by simpa [qwR] using hx
  exact hn) (by show 0≤1000;decide)
 rw [e,t] at this
 exact this
theorem qxc {ws:List Wd} {i:Nat} (h:i<ws.length):rcT (ws.take (i+1))=rcT (ws.take i)++(doT ws[i]).drop 2:=by
 unfold rcT doT
 rw [List.take_succ_eq_append_getElem h,List.flatMap_append,List.flatMap_cons,List.flatMap_nil,List.append_nil,List.append_assoc]
 rfl
theorem qwX {L:List (List UInt8)} {i:Nat} (h:i<L.length):qwr (L.take (i+1))=qwr (L.take i)++L[i]++[10]:=by
 rw [List.take_succ_eq_append_getElem h,qwx,List.append_assoc]
 simp [qwr]
theorem qwU {w:Wd} (h:ActW w):4≤(doT w).length∧(doT w).length≤80:=by
 refine ⟨?_,(qwM h.v).1⟩
 unfold doT qjf
 rw [if_pos h.1]
 simp only [List.length_cons,List.length_append];omega
theorem qxm {ws:List Wd} (h:∀ w∈ws,WdV w) (h4:ws.length≤4):(rcT ws).length≤80:=by
 have:=qwL h
 unfold rcT
 rw [List.length_append];show 11+_≤80;omega
theorem qwH (ps:List (Nat × Nat)) (ha:∀ p∈ps,p.1≤255∧p.2≤255) (tm:Nat) (htm:tm≤255):qC Tryz.prog 16 [.sl false ps.length (fl prC ps),U (tm:Int)] (B true):=by
 refine qT (qjr Tryz.func16 qwA (by kernel_rfl) (by show 2≤_;decide) ?_)
 unfold qww
 refine zV ?_
 simp -implicitDefEqProofs (disch:=omega)[qb]
 by_cases h1:ps.length<1
 case pos =>
  have e1:((ps.length:Int)<1)=True:=by simp only [eq_iff_iff,iff_true];omega
  refine zV ?_
  simp -implicitDefEqProofs (disch:=omega)[qb,e1]
  refine qg (ys:=[]) (ids:=[]) rfl qqz ?_
  simp -implicitDefEqProofs (disch:=omega)[qb,AV.scalar]
 have e1:((ps.length:Int)<1)=False:=by simp only [eq_iff_iff,iff_false];omega
 by_cases h4:4<ps.length
 case pos =>
  have e4:(4<(ps.length:Int))=True:=by simp only [eq_iff_iff,iff_true];omega
  refine zV ?_
  simp -implicitDefEqProofs (disch:=omega)[qb,e1,e4]
  refine qg (ys:=[]) (ids:=[]) rfl qqz ?_
  simp -implicitDefEqProofs (disch:=omega)[qb,AV.scalar]
 have e4:(4<(ps.length:Int))=False:=by simp only [eq_iff_iff,iff_false];omega
 refine zV ?_
 simp -implicitDefEqProofs (disch:=omega)[qb,e1,e4]
 obtain ⟨r,hr⟩:∃ r:Nat,r=tm % 3:=⟨_,rfl⟩
 have mr:(tm:Int).tmod 3=(r:Int):=by rw [hr];rfl
 obtain ⟨T,hT⟩:∃ T:Nat,T=1+r:=⟨_,rfl⟩
 have mT:(1:Int)+(r:Int)=(T:Int):=by omega
 have hT3:1≤T∧T≤3:=by omega
 refine zV ?_
 simp -implicitDefEqProofs (disch:=omega)[qb,mr,mT]
 refine zV ?_
 simp -implicitDefEqProofs (disch:=omega)[qb]
 refine zV ?_
 simp -implicitDefEqProofs (disch:=omega)[qb]
 obtain ⟨ws,hws⟩:∃ ws,ws=ps.map wdP:=⟨_,rfl⟩
 have wl:ws.length=ps.length:=by rw [hws,List.length_map]
 have wA : ∀ w ∈ ws,ActW w := fun w hw => by
  rw [hws] at hw
  obtain ⟨p,hp,rfl⟩:=List.mem_map.1 hw
  exact qxo (ha p hp).2
 have wV:∀ w∈ws,WdV w:=fun w hw=>(wA w hw).v
 have rl:∀ i,(rcT (ws.take i)).length≤80:=fun i=>qxm (fun w hw=>wV w (List.mem_of_mem_take hw)) (by rw [List.length_take];omega)
 have rt:=fun {i:Nat} (h:i<ws.length)=>qxc h
 have rA:rcT (ws.take ws.length)=rcT ws:=by rw [List.take_length]
 obtain ⟨D,hD⟩:∃ D,D=ws.map doT:=⟨_,rfl⟩
 have dl:D.length=ps.length:=by rw [hD,List.length_map,wl]
 have dt:=fun {i:Nat} (h:i<D.length)=>qwX h
 have tl : ∀ i,(qwr (D.take i)).length ≤ 81 * 4 := fun i => by
  have := qwv (k := 80) (l := D.take i) (fun w hw => by
   rw [hD] at hw
   obtain ⟨x,hx,rfl⟩:=List.mem_map.1 (List.mem_of_mem_take hw)
   exact (qwU (wA x hx)).2)
  have h2:(D.take i).length≤4:=by rw [List.length_take];omega
  omega
 refine zV ?_
 simp -implicitDefEqProofs (disch:=omega)[qb]
 refine qW fun K9 hK9=>?_
 refine qO (fun x:Nat × List HObj=>⟨[(0,.sl false ps.length (fl prC ps)),(5,I (T:Int)),(6,S (rcT (ws.take x.1))),(7,S (qwr (D.take x.1))),(8,I (x.1:Int))],x.2⟩) (fun x=>x.1≤ps.length) (fun x=>ps.length - x.1) (0,[]) (Nat.zero_le _) rfl ?_
 rintro ⟨i,H⟩ c1
 simp only at c1 ⊢
 refine qW fun K0 hK0=>?_
 simp -implicitDefEqProofs (disch:=omega)[qb]
 refine qP (fun hc=>?_) (fun hc=>?_)
 · have hi : i < ps.length := by simpa using hc
   have hiw:i<ws.length:=by omega
   obtain ⟨hx1,hx2⟩:=ha ps[i] (List.getElem_mem hi)
   obtain ⟨b0,hb0⟩:∃ b:Nat,b=ps[i].1 % 26:=⟨_,rfl⟩
   have mb:((ps[i].1:Nat):Int).tmod 26=(b0:Int):=by rw [hb0];rfl
   obtain ⟨b1,hb1⟩:∃ b:Nat,b=97+b0:=⟨_,rfl⟩
   have mb1:(97:Int)+(b0:Int)=(b1:Int):=by omega
   have wb0:IntKind.u8.wrap (b0:Int)=(b0:Int):=qgP (by omega)
   have wb1:IntKind.u8.wrap (b1:Int)=(b1:Int):=qgP (by omega)
   obtain ⟨k1,hk1⟩:∃ k:Nat,k=1+ps[i].2:=⟨_,rfl⟩
   have mk1:(1:Int)+((ps[i].2:Nat):Int)=(k1:Int):=by omega
   have ew:ws[i]=((b1:Int),[],(k1:Int)):=by subst hws;rw [List.getElem_map];unfold wdP;rw [hb1,hb0,hk1]
   simp -implicitDefEqProofs (disch:=omega)[qb,hi,qxu,qxi hi,qxj hi,qxl,mb,mb1,wb0,wb1,mk1,zW,zJ,zE]
   have hz2:zP 1 [U 0,S [],I 0]=[U 0,S [],I 0]:=rfl
   refine zq (ys:=[.agg (wdC ((b1:Int),[],(k1:Int)))]) (ids:=[]) rfl rfl ?_
   rw [show place (zP 1 [U 0,S [],I 0]) 3 ([0].zip [.agg (wdC ((b1:Int),[],(k1:Int)))])=wdC ((b1:Int),[],(k1:Int)) from rfl,←ew]
   simp -implicitDefEqProofs (disch:=omega)[qb]
   generalize H++[HObj.cells [AV.v (Value.int IntKind.u8 (b1:Int)),AV.v (Value.string ⟨#[]⟩),AV.v (Value.int IntKind.i64 (k1:Int))]]=H2
   have hA:=wA ws[i] (List.getElem_mem hiw)
   refine qlI (ys:=[.agg [I 3,S [],.sl true 1 (wdC ws[i]),I 0]]) (zs:=[LnV (qwR ws[i])]) (ids:=[]) rfl (.cons (.aggL (.cons (.refl _) (.cons (.refl _) (.cons .slf (.cons (.refl _) .nil))))) .nil) (qwY hA.v) ?_
   have hdi:i<D.length:=by omega
   obtain ⟨s4,s8⟩:=qwU hA
   have ds:doT ws[i]=D[i]:=by subst hD;rw [List.getElem_map]
   have rt:=rt hiw
   have dt:=dt hdi
   rw [ds] at rt s4 s8
   rw [ds]
   generalize D[i]=s at s4 s8 rt dt
   have rl1:=rl i
   have tl1:=tl i
   generalize rcT (ws.take i)=R at rt rl1
   generalize qwr (D.take i)=L at dt tl1
   have hdr:(s.drop 2).length≤80:=by rw [List.length_drop];omega
   have ad1:R.length+(s.drop 2).length≤9223372036854775807:=by omega
   have ad2:L.length+s.length≤9223372036854775807:=by omega
   have ad3:(L++s).length+([10]:List UInt8).length≤9223372036854775807:=by rw [List.length_append];simp;omega
   have q4:((s.length:Int)<4)=False:=by simp only [eq_iff_iff,iff_false];omega
   have ix:((i:Int)+1)=((i+1:Nat):Int):=by omega
   simp -implicitDefEqProofs (disch:=omega)[qb,AV.scalar,q4,qnN,Z5 ad1,Z5 ad2,Z5 ad3,-List.append_assoc]
   rw [hK0]
   exact qz (i+1,H2) (by show i+1≤ps.length;omega) (by show ps.length - (i+1)<ps.length - i;omega) (by simp only [ix,rt,dt])
 · have hi : i = ps.length := by simp at hc; omega
   subst hi
   have tk1:ws.take ps.length=ws:=by rw [←wl,List.take_length]
   have tk2:D.take ps.length=D:=by rw [←dl,List.take_length]
   have rl:=rl ps.length
   have tl:=tl ps.length
   rw [tk1] at rl ⊢
   rw [tk2] at tl ⊢
   clear rt dt rA
   subst hK0
   simp -implicitDefEqProofs (disch:=omega)[qb]
   subst hK9
   have hV:=qxb hT3
   have ew:((0:Int),[87,97,118,101],(T:Int))=lyW T:=rfl
   refine zV ?_
   simp -implicitDefEqProofs (disch:=omega)[qb]
   refine zq (ys:=[.agg (wdC (lyW T))]) (ids:=[]) rfl rfl ?_
   rw [show place (zP 1 [U 0,S [],I 0]) 3 ([0].zip [.agg (wdC (lyW T))])=wdC (lyW T) from rfl]
   simp -implicitDefEqProofs (disch:=omega)[qb]
   refine qlI (ys:=[.agg [I 3,S [],.sl true 1 (wdC (lyW T)),I 0]]) (zs:=[LnV (qwR (lyW T))]) (ids:=[]) rfl (.cons (.aggL (.cons (.refl _) (.cons (.refl _) (.cons .slf (.cons (.refl _) .nil))))) .nil) (qwY hV) ?_
   simp -implicitDefEqProofs (disch:=omega)[qb,AV.scalar]
   obtain ⟨la,lb,⟨sh1,sh2,sh3⟩,lc,ld,le⟩:=qw8 wA (by omega) (by omega) hT3
   obtain ⟨s1,hs1,p1,p2⟩:∃ s:Sht,(Jh (lyD ws T) 1).getD sh0=s∧s.bath=1∧s.age=0:=⟨_,sh1,rfl,rfl⟩
   obtain ⟨s2,hs2,p3,p4⟩:∃ s:Sht,(Jh (lyD ws T) 2).getD sh0=s∧s.bath=1∧s.age=1:=⟨_,sh2,rfl,rfl⟩
   obtain ⟨s3,hs3,p5,p6⟩:∃ s:Sht,(Jh (lyD ws T) 3).getD sh0=s∧s.bath=2∧s.age=0:=⟨_,sh3,rfl,rfl⟩
   clear sh1 sh2 sh3
   obtain ⟨⟨a1,a2,a3,a4,a5⟩,⟨g1,g2,g3⟩⟩:=And.intro la lb
   have eS:lyS ws T=rcT ws++[10,98,97,116,104,10]++doT (lyW T)++[10,108,97,121,32,49,10]++(List.replicate T (qwr D)).flatten++[108,97,121,32,50,10,98,97,116,104,10]++doT (lyW T)++[10,100,111,32,97,10,108,97,121,32,51,10]:=by rw [hD];rfl
   have hDI:DyI (lyD ws T):=by rw [←a3];exact qxk _
   generalize hL:9+T*ws.length=N at a4
   have hN:4≤N∧N≤21:=by omega
   clear la lb hL
   generalize lyD ws T=d at *
   generalize lyS ws T=X at *
   have v8:=(qwM hV).1
   generalize doT (lyW T)=V at *
   generalize rcT ws=R at *
   generalize qwr D=M at *
   obtain ⟨ca,hca⟩:∃ c:List UInt8,c=[10,98,97,116,104,10]:=⟨_,rfl⟩
   obtain ⟨cb,hcb⟩:∃ c:List UInt8,c=[10,108,97,121,32,49,10]:=⟨_,rfl⟩
   obtain ⟨cc,hcc⟩:∃ c:List UInt8,c=[108,97,121,32,50,10,98,97,116,104,10]:=⟨_,rfl⟩
   obtain ⟨cd,hcd⟩:∃ c:List UInt8,c=[10,100,111,32,97,10,108,97,121,32,51,10]:=⟨_,rfl⟩
   rw [←hcc,←hcd,←hca,←hcb] at eS
   have ka:ca.length=6:=by rw [hca];rfl
   have kb:cb.length=7:=by rw [hcb];rfl
   have kc:cc.length=11:=by rw [hcc];rfl
   have kd:cd.length=12:=by rw [hcd];rfl
   have b1:R.length+ca.length≤9223372036854775807:=by omega
   have b2:(R++ca).length+V.length≤9223372036854775807:=by simp only [List.length_append];omega
   have b3:(R++ca++V).length+cb.length≤9223372036854775807:=by simp only [List.length_append];omega
   refine zV ?_
   simp -implicitDefEqProofs (disch:=omega)[qb]
   refine zV ?_
   rw [show (⟨#[10,98,97,116,104,10]⟩:ByteArray)=⟨ca.toArray⟩ by rw [hca],show (⟨#[10,108,97,121,32,49,10]⟩:ByteArray)=⟨cb.toArray⟩ by rw [hcb]]
   simp -implicitDefEqProofs (disch:=omega)[qb,Z5 b1,Z5 b2,Z5 b3,-List.append_assoc]
   have tl0:(R++ca++V++cb).length≤200:=by simp only [List.length_append];omega
   generalize R++ca++V++cb=Y at *
   have rsn:∀ k,(List.replicate (k+1) M).flatten=(List.replicate k M).flatten++M:=fun k=>by rw [List.replicate_succ',List.flatten_append];simp
   have rlen : ∀ k,k ≤ 3 → (List.replicate k M).flatten.length ≤ 1000 := fun k hk => by
    have:k*M.length≤3*(81*4):=Nat.mul_le_mul hk tl
    simp;omega
   refine zV ?_
   simp -implicitDefEqProofs (disch:=omega)[qb]
   refine qW fun K9 hK9=>?_
   refine qO (fun k:Nat=>⟨[(5,I (T:Int)),(7,S M),(12,S V),(14,S (Y++(List.replicate k M).flatten)),(15,I (k:Int))],H⟩) (fun k=>k≤T) (fun k=>T - k) 0 (Nat.zero_le _) (by rw [List.replicate_zero,List.flatten_nil,List.append_nil];rfl) ?_
   intro k c2
   refine qW fun K0 hK0=>?_
   simp -implicitDefEqProofs (disch:=omega)[qb,-List.flatten_replicate_singleton,-List.length_flatten]
   refine qP (fun hc=>?_) (fun hc=>?_)
   · have hk : k < T := by simp at hc; omega
     have rs:=rsn k
     have rl2:=rlen k (by omega)
     generalize (List.replicate k M).flatten=Z at *
     have d1:(Y++Z).length+M.length≤9223372036854775807:=by rw [List.length_append];omega
     have ix:((k:Int)+1)=((k+1:Nat):Int):=by omega
     simp -implicitDefEqProofs (disch:=omega)[qb,Z5 d1,-List.append_assoc]
     rw [hK0]
     exact qz (k+1) (by omega) (by omega) (by simp only [ix,rs,List.append_assoc])
   · have hk : k = T := by simp at hc; omega
     subst hk
     subst hK0
     have rl2:=rlen k hT3.2
     generalize (List.replicate k M).flatten=Z at *
     simp -implicitDefEqProofs (disch:=omega)[qb]
     subst hK9
     have d1:(Y++Z).length+cc.length≤9223372036854775807:=by simp only [List.length_append];omega
     have d2:(Y++Z++cc).length+V.length≤9223372036854775807:=by simp only [List.length_append];omega
     have d3:(Y++Z++cc++V).length+cd.length≤9223372036854775807:=by simp only [List.length_append];omega
     simp -implicitDefEqProofs (disch:=omega)[qb]
     refine zV ?_
     rw [show (⟨#[108,97,121,32,50,10,98,97,116,104,10]⟩:ByteArray)=⟨cc.toArray⟩ by rw [hcc],show (⟨#[10,100,111,32,97,10,108,97,121,32,51,10]⟩:ByteArray)=⟨cd.toArray⟩ by rw [hcd]]
     simp -implicitDefEqProofs (disch:=omega)[qb,Z5 d1,Z5 d2,Z5 d3,-List.append_assoc]
     rw [←eS]
     have ed:[Bks d.rc,I d.bath,I d.laid,Pts d.pat,Shs d.sh]=dyC d:=rfl
     refine zV ?_
     simp -implicitDefEqProofs (disch:=omega)[qb]
     refine qg (ys:=[S X]) (ids:=[]) rfl (qhs X (by omega)) ?_
     rw [a1,a3,a4]
     simp -implicitDefEqProofs (disch:=omega)[qb,AV.scalar,dyC]
     simp only [ed]
     generalize hE:List.replicate N (0:Int)=E
     have El:E.length=N:=by rw [←hE,List.length_replicate]
     have E0:∀ (j:Nat) (h:j<E.length),E[j]=0:=by subst hE;intro j h;rw [List.getElem_replicate]
     have n0:qr (H++[HObj.cells (dyC d)]) H.length=some (.cells (dyC d)):=qdb
     generalize H.length=a at n0
     generalize H++[HObj.cells (dyC d)]=H1 at n0
     have ha1:a<H1.length:=by
      rw [zH] at n0
      exact (List.getElem?_eq_some_iff.1 n0).1
     have e5:((E.length:Int)<4)=False:=by simp only [eq_iff_iff,iff_false];omega
     refine zV ?_
     simp -implicitDefEqProofs (disch:=omega)[qb,e5]
     refine zV ?_
     simp -implicitDefEqProofs (disch:=omega)[qb]
     refine qW fun K9 hK9=>?_
     refine qO (fun j:Nat=>⟨[(16,.ref a 0),(17,qqH E),(18,I (j:Int))],H1⟩) (fun j=>j≤E.length) (fun j=>E.length - j) 0 (Nat.zero_le _) rfl ?_
     intro j c3
     refine qW fun K0 hK0=>?_
     simp -implicitDefEqProofs (disch:=omega)[qb]
     refine qP (fun hc=>?_) (fun hc=>?_)
     · have hj : j < E.length := by simpa using hc
       have h0:=E0 j hj
       have ix:((j:Int)+1)=((j+1:Nat):Int):=by omega
       simp -implicitDefEqProofs (disch:=omega)[qb,hj,qo3 hj,qw7,h0]
       rw [hK0]
       exact qz (j+1) (by omega) (by omega) (by simp only [ix])
     · subst hK0
       simp -implicitDefEqProofs (disch:=omega)[qb]
       subst hK9
       simp -implicitDefEqProofs (disch:=omega)[qb]
       have esh:∀ s:Sht,[I s.num,I s.bath,I s.age,Pts s.pat]=shC s:=fun s=>rfl
       refine zV ?_
       simp -implicitDefEqProofs (disch:=omega)[qb,n0,qf,dyC]
       simp only [ed]
       refine qg (ys:=[DyV d,I 1]) (ids:=[]) rfl (Wy d hDI 1) ?_
       rw [g1,hs1]
       simp -implicitDefEqProofs (disch:=omega)[qb,AV.scalar,shC]
       simp only [esh]
       have m0:qr (H1++[HObj.cells (shC s1)]) a=some (.cells (dyC d)):=by rw [qk ha1];exact n0
       have m1:qr (H1++[HObj.cells (shC s1)]) H1.length=some (.cells (shC s1)):=qdb
       have lb1:H1.length<(H1++[HObj.cells (shC s1)]).length:=by simp
       have la1:a<(H1++[HObj.cells (shC s1)]).length:=by simp;omega
       generalize H1.length=b at m1 lb1
       generalize H1++[HObj.cells (shC s1)]=H2 at m0 m1 lb1 la1
       refine zV ?_
       simp -implicitDefEqProofs (disch:=omega)[qb,m0,qf,dyC]
       simp only [ed]
       refine qg (ys:=[DyV d,I 2]) (ids:=[]) rfl (Wy d hDI 2) ?_
       rw [g2,hs2]
       simp -implicitDefEqProofs (disch:=omega)[qb,AV.scalar,shC]
       simp only [esh]
       have u0:qr (H2++[HObj.cells (shC s2)]) a=some (.cells (dyC d)):=by rw [qk la1];exact m0
       have u1:qr (H2++[HObj.cells (shC s2)]) b=some (.cells (shC s1)):=by rw [qk lb1];exact m1
       have u2:qr (H2++[HObj.cells (shC s2)]) H2.length=some (.cells (shC s2)):=qdb
       have lc2:H2.length<(H2++[HObj.cells (shC s2)]).length:=by simp
       have lb2:b<(H2++[HObj.cells (shC s2)]).length:=by simp;omega
       have la2:a<(H2++[HObj.cells (shC s2)]).length:=by simp;omega
       generalize H2.length=c at u2 lc2
       generalize H2++[HObj.cells (shC s2)]=H3 at u0 u1 u2 la2 lb2 lc2
       refine zV ?_
       simp -implicitDefEqProofs (disch:=omega)[qb,u0,qf,dyC]
       simp only [ed]
       refine qg (ys:=[DyV d,I 3]) (ids:=[]) rfl (Wy d hDI 3) ?_
       rw [g3,hs3]
       simp -implicitDefEqProofs (disch:=omega)[qb,AV.scalar,shC]
       simp only [esh]
       have v0:qr (H3++[HObj.cells (shC s3)]) a=some (.cells (dyC d)):=by rw [qk la2];exact u0
       have v1:qr (H3++[HObj.cells (shC s3)]) b=some (.cells (shC s1)):=by rw [qk lb2];exact u1
       have v2:qr (H3++[HObj.cells (shC s3)]) c=some (.cells (shC s2)):=by rw [qk lc2];exact u2
       have v3:qr (H3++[HObj.cells (shC s3)]) H3.length=some (.cells (shC s3)):=qdb
       generalize H3.length=e at v3
       generalize H3++[HObj.cells (shC s3)]=H4 at v0 v1 v2 v3
       refine zV ?_
       simp -implicitDefEqProofs (disch:=omega)[qb,v0,v1,v2,v3,qf,shC,dyC,p1,p2,p3,p4,p5,p6]
       simp only [ed]
       refine qg (ys:=[DyV d,I 1,I 2]) (ids:=[]) rfl (qj0 d hDI 1 2) ?_
       rw [lc]
       simp -implicitDefEqProofs (disch:=omega)[qb,AV.scalar,v0,qf,dyC]
       simp only [ed]
       refine qg (ys:=[DyV d,I 1,I 3]) (ids:=[]) rfl (qj0 d hDI 1 3) ?_
       rw [ld]
       simp -implicitDefEqProofs (disch:=omega)[qb,AV.scalar,v0,qf,dyC]
       simp only [ed]
       refine qg (ys:=[DyV d,I 1,I 4]) (ids:=[]) rfl (qj0 d hDI 1 4) ?_
       rw [le]
       simp -implicitDefEqProofs (disch:=omega)[qb,AV.scalar]
       refine qg (ys:=[]) (ids:=[]) rfl qqz ?_
       simp -implicitDefEqProofs (disch:=omega)[qb,AV.scalar]
       refine qnu ?_
       simp -implicitDefEqProofs (disch:=omega)[qb]
abbrev qxt (f:Bool) (l:List (Nat × Nat)):AV := .sl f l.length (fl prC l)
theorem qxw {w:World}:RdT Tryz.prog w 88 fun xs=>∃ p:Nat × Nat,xs=prC p∧(p.1≤255∧p.2≤255) :=
 ZE (qxd Tryz.underlying88 (sz := 1) (by kernel_rfl) (by kernel_rfl) (by omega) rd5) fun xs ⟨els,h0,h1,h2⟩ => by
  match els,h0 with
  | [a,b],_ =>
    obtain ⟨_,m,rfl,hm⟩:=h1 a (by simp)
    obtain ⟨_,n,rfl,hn⟩:=h1 b (by simp)
    have e1:((m.toNat:Nat):Int)=m:=by omega
    have e2:((n.toNat:Nat):Int)=n:=by omega
    exact ⟨(m.toNat,n.toNat),by simp [h2,prC,e1,e2],by show m.toNat≤255;omega,by show n.toNat≤255;omega⟩
theorem qxv {w:World}:RdT Tryz.prog w 87 fun xs=>∃ l:List (Nat × Nat),xs=[.sl false l.length (fl prC l)]∧∀ p∈l,p.1≤255∧p.2≤255:=qaO Tryz.underlying87 (by kernel_rfl) (sz:=2) (by kernel_rfl) (by omega) qxw
theorem qwN (ps:List (Nat × Nat)) (hp:∀ p∈ps,p.1≤255∧p.2≤255) (n:Int) (hn:0≤n∧n≤255):qC Tryz.prog 16 [.sl false ps.length (fl prC ps),U n] (B true):=by
 have h:=qwH ps hp n.toNat (by omega)
 have e1:((n.toNat:Nat):Int)=n:=by omega
 rw [e1] at h
 exact h
end Go.AM
