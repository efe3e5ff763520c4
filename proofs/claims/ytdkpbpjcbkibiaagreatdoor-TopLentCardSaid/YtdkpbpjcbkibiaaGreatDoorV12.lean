/- Ch Chm Cho Ev Ko Iv Rfm -/
import Derived.Test.YtdkpbpjcbkibiaaGreatDoorV11
import Derived.Test.YtdkpbpjcbkibiaaGreatDoorV1
import Derived.Test.YtdkpbpjcbkibiaaGreatDoorV0
set_option linter.all false
set_option maxRecDepth 100000
set_option maxHeartbeats 4000000
namespace Go.Proofs.YtdkpbpjcbkibiaaGreatDoor.B
open Go.RowKit
section
open Go.RowKit
variable{w w2 A B:World}{Z Z' S:Nat→Prop}{cs:Array Value}{N b pp pn pw ag g:Nat}{α:Type}{col col':Nat→Nat}{t:TypeId}
inductive bn where
 |mk (kind iV n:Int) (kids:List bn)
def bn.kind:bn→Int|.mk k _ _ _=>k
def bn.iV:bn→Int|.mk _ t _ _=>t
def bn.n:bn→Int|.mk _ _ n _=>n
def bn.kids:bn→List bn|.mk _ _ _ l=>l
inductive bw (w:World) (Z:Nat→Prop):Array Value→bn→Prop
 |leaf (k t n:Int) (b:Option Addr):bw w Z #[.int .i64 k,.int .i64 t,.int .i64 n,.slice b 0 0] (.mk k t n [])
 |node (k t n:Int) (kids:List bn) (g off c:Nat) (arr:Array Value) (ty:TypeId):j0 w g arr ty→Z g→off+kids.length*4≤arr.size→kids.length≤c→kids.length<9223372036854775808→(∀(i:Nat) x,kids[i]?=some x→bw w Z (arr.extract (off+i*4) (off+i*4+4)) x)→bw w Z #[.int .i64 k,.int .i64 t,.int .i64 n,.slice (some ⟨g,off,none⟩) kids.length c] (.mk k t n kids)
theorem bw.carry{c:bn}(h:bw w Z cs c)(hk:∀b arr ty,Z b→j0 w b arr ty→j0 w2 b arr ty∧Z' b):bw w2 Z' cs c:=by
 induction h with
 |leaf k t n b=>exact .leaf k t n b
 |node k t n kids g off c arr ty hb hz h1 h2 h3 _ ih=>exact .node k t n kids g off c arr ty (hk _ _ _ hz hb).1 (hk _ _ _ hz hb).2 h1 h2 h3 ih
theorem bw.under{c:bn}(h:bw w Z cs c)(hb:Bw w w2):bw w2 Z cs c:=h.carry fun b arr ty hz q=>⟨q.below hb,hz⟩
theorem bw.turns{c:bn}(h:bw w Z cs c)(ht:au S w w2)(hS:∀b,Z b→¬S b):bw w2 Z cs c:=h.carry fun b arr ty hz q=>⟨q.turns ht (hS b hz),hz⟩
theorem bw.eH{c:bn}(h:bw w Z cs c)(k:eD N w w2):bw w2 Z cs c:=h.carry fun b arr ty hz q=>⟨q.eH k,hz⟩
theorem bw.size{c:bn}(h:bw w Z cs c):cs.size=4:=by cases h<;>rfl
def Fv(w:World)(Z:Nat→Prop)(x:bn×Int)(v:Value):Prop:=∃cs,v=.agg (cs.push (.int .i64 x.2))∧bw w Z cs x.1
def Pt(n:Int)(v:Value):Prop:=v=.int .i64 n
abbrev tS:=List (bU×(bn×Int))
abbrev oH:=List (bU×Int)
structure PC(w:World)(col:Nat→Nat)(pp pn pw:Nat)(N:tS)(W:oH):Prop where
 fA:∃t,bH w pp #[.map (some pn),.map (some pw)] t
 notes:fV w pn (Fv w fun b=>col b=0) N
 zx:fV w pw Pt W
 cp:col pp=0
 cn:col pn=4
 cw:col pw=4
 ne:pn≠pw
theorem fV.yj{R:α→Value→Prop}{L:List (bU×α)}(h:fV w b R L)(ht:au S w w2)(hS:¬S b):fV w2 b R L:=h.same (ht.block b h.lt hS)
theorem Fv.carry{x:bn×Int}{v:Value}(h:Fv w Z x v)(hk:∀b arr ty,Z b→j0 w b arr ty→j0 w2 b arr ty∧Z' b):Fv w2 Z' x v:=let⟨cs,h1,h2⟩:=h;⟨cs,h1,h2.carry hk⟩
theorem PC.turns{N:tS}{W:oH}(h:PC w col pp pn pw N W)(ht:au S w w2)(hS:∀b,S b→col b≠0∧col b≠4):PC w2 col pp pn pw N W:=⟨let⟨t,hb⟩:=h.fA;⟨t,hb.turns ht fun q=>(hS _ q).1 h.cp⟩,(h.notes.mono fun x v q=>q.carry fun b arr ty hz hb=>⟨hb.turns ht fun s=>(hS _ s).1 hz,hz⟩).yj ht fun q=>(hS _ q).2 h.cn,h.zx.yj ht fun q=>(hS _ q).2 h.cw,h.cp,h.cn,h.cw,h.ne⟩
theorem PC.below{N:tS}{W:oH}(h:PC w col pp pn pw N W)(hb:Bw w w2):PC w2 col pp pn pw N W:=h.turns (au.aW (S:=fun _=>False) hb) fun _ q=>q.elim
theorem PC.eH{n:Nat}{N:tS}{W:oH}(h:PC w col pp pn pw N W)(k:eD n w w2):PC w2 col pp pn pw N W:=by have mk:∀{α:Type} {b:Nat} {R:α→Value→Prop} {L:List (bU×α)},fV w b R L→fV w2 b R L:=fun{α b R L} q=>q.same (k.block b q.lt (.inr fun o ho=>by obtain⟨es,c,hb,_⟩:=q.out;rw[hb]at ho;cases ho;rfl));exact⟨let⟨t,hb⟩:=h.fA;⟨t,hb.eH k⟩,mk (h.notes.mono fun x v q=>q.carry fun b arr ty hz hb=>⟨hb.eH k,hz⟩),mk h.zx,h.cp,h.cn,h.cw,h.ne⟩
theorem PC.ew{N:tS}{W:oH}(h:PC w col pp pn pw N W)(hc:∀b,b<w.heap.size→col' b=col b):PC w col' pp pn pw N W:=⟨h.fA,h.notes.mono fun x v q=>q.carry fun b arr ty hz hb=>⟨hb,by rw[hc _ hb.lt];exact hz⟩,h.zx,by obtain⟨_,hb⟩:=h.fA;rw[hc _ hb.lt];exact h.cp,by rw[hc _ h.notes.lt];exact h.cn,by rw[hc _ h.zx.lt];exact h.cw,h.ne⟩
structure cS where
 name:Int
 at_:Int
 prio:Int
 sum:bU
 aa:Int
def cx(t:cS):Array Value:=(#[.int .i64 t.name,.int .i64 t.at_,.int .i64 t.prio]:Array Value)++aJ t.sum++#[.int .i64 t.aa]
theorem dW(t:cS):(cx t).size=36:=by simp[cx,bd]
def kG(arr:Array Value)(o k:Nat)(enc:α→Array Value)(L:List α):Prop:=o+L.length*k≤arr.size∧∀(i:Nat) x,L[i]?=some x→∀j,j<k→arr[o+i*k+j]?=(enc x)[j]?
structure AC(w:World)(col:Nat→Nat)(ag:Nat)(A:List cS):Prop where
 l:(∃t r o cap arr t',bH w ag #[.slice (some ⟨r,o,none⟩) A.length cap] t∧bH w r arr t'∧col r=0∧kG arr o 36 cx A∧A.length≤cap)∨(A=[]∧∃t,bH w ag #[.slice none 0 0] t)
 ca:col ag=5
theorem AC.turns{A:List cS}(h:AC w col ag A)(ht:au S w w2)(hS:∀b,S b→col b≠0∧col b≠5):AC w2 col ag A:=⟨h.l.imp (fun⟨t,r,o,cap,arr,t',h1,h2,h3,h4⟩=>⟨t,r,o,cap,arr,t',h1.turns ht fun q=>(hS _ q).2 h.ca,h2.turns ht fun q=>(hS _ q).1 h3,h3,h4⟩) (fun⟨e,t,h1⟩=>⟨e,t,h1.turns ht fun q=>(hS _ q).2 h.ca⟩),h.ca⟩
theorem AC.below{A:List cS}(h:AC w col ag A)(hb:Bw w w2):AC w2 col ag A:=h.turns (au.aW (S:=fun _=>False) hb) fun _ q=>q.elim
theorem AC.eH{n:Nat}{A:List cS}(h:AC w col ag A)(k:eD n w w2):AC w2 col ag A:=⟨h.l.imp (fun⟨t,r,o,cap,arr,t',h1,h2,h3,h4⟩=>⟨t,r,o,cap,arr,t',h1.eH k,h2.eH k,h3,h4⟩) (fun⟨e,t,h1⟩=>⟨e,t,h1.eH k⟩),h.ca⟩
theorem AC.ew{A:List cS}(h:AC w col ag A)(hc:∀b,b<w.heap.size→col' b=col b):AC w col' ag A:=⟨h.l.imp (fun⟨t,r,o,cap,arr,t',h1,h2,h3,h4⟩=>⟨t,r,o,cap,arr,t',h1,h2,by rw[hc _ h2.lt];exact h3,h4⟩) id,by rcases h.l with⟨_,_,_,_,_,_,h1,_⟩|⟨_,_,h1⟩<;>(rw[hc _ h1.lt];exact h.ca)⟩
structure bM where
 fs:List (Int×Int)
 K:List ((Int×Int)×Int)
 P:Nat→Option cH
 V:List ((Int×Int)×cZ)
 R:kF
 L:List ((Int×Int)×aY)
 N:tS
 W:oH
 A:List cS
 now:Int
structure CF where
 cp:Nat
 lp:Nat
 ap:Nat
 gp:Nat
 vp:Nat
 vg:Nat
 rg:Nat
 rp:Nat
 rl:Nat
 pp:Nat
 pn:Nat
 pw:Nat
 ag:Nat
structure CV where
 pid:Nat→Nat
 ji:Int→Int→Nat
 oQ:Int→Int→Nat
abbrev Fw(f:CF)(m:CV):VG:=⟨f.vp,f.vg,f.rg,m.pid,m.ji,m.oQ⟩
def tr0:jY:=⟨2,20,1,6,2,2,500000000,10000000,50,0⟩
def tr1:jY:=⟨1,20,1,6,2,0,500000000,10000000,1000,2⟩
def NT:List jY:=[tr0,tr1]
structure Inv(s:bM):Prop where
 kk:∀e∈s.K,(0≤e.1.1∧e.1.1<10)∧0≤e.1.2∧e.1.2<4
 kr:gM s.K
 vk:∀e∈s.V,(0≤e.1.1∧e.1.1<10)∧(cM s.P e.1.2).isSome=true
 vr:gM s.V
 pt:∀i p,cM s.P i=some p→dn p.aa 0 3=true
 ll:s.L.length≤12
 lk:∀(i:Nat) e,s.L[i]?=some e→e.1=(0,(i:Int))
 lt:∀e∈s.L,0≤e.2.aa∧e.2.aa<2
 nl:s.N.length≤6
 al:s.A.length≤12
 vv:∀e∈s.V,eE e.2=true
 rd:∀e∈s.R,∀d,e.2.ef=some d→dn d.iV 0 9=true∧dn d.level 0 6=true
structure Ch(w:World)(col:Nat→Nat)(f:CF)(m:CV)(s:bM):Prop where
 ij:LC w col f.lp f.ap f.gp s.fs s.K
 gN:VC w col (Fw f m) s.P s.V s.R
 ref:RC w col f.rp f.rl NT s.L
 pre:PC w col f.pp f.pn f.pw s.N s.W
 BX:AC w col f.ag s.A
 iX:∃t,bH w f.cp #[.int .i64 s.now,.pointer (some ⟨f.lp,0,none⟩),.pointer (some ⟨f.vp,0,none⟩),.pointer (some ⟨f.rp,0,none⟩),.pointer (some ⟨f.pp,0,none⟩),.pointer (some ⟨f.ag,0,none⟩)] t
 cc:col f.cp=6
 bG:rB col w
 inv:Inv s
section
variable{w w1 w2:World}{col col':Nat→Nat}{f:CF}{m m':CV}{s s':bM}{S:Nat→Prop}
theorem Ch.lt(h:Ch w col f m s)(hb:col b≠0):b<w.heap.size:=aAu fun q=>hb (h.bG b q)
theorem Ch.turns(h:Ch w col f m s)(ht:au S w w2)(hS:∀b,S b→col b=7):Ch w2 col f m s:=⟨h.ij.turns ht fun b q=>by rw[hS b q];decide,h.gN.turns ht fun b q=>by rw[hS b q];unfold A4;decide,h.ref.turns ht fun b q=>by rw[hS b q];decide,h.pre.turns ht fun b q=>by rw[hS b q];decide,h.BX.turns ht fun b q=>by rw[hS b q];decide,
 let⟨t,hb⟩:=h.iX;⟨t,hb.turns ht fun q=>by have:=hS _ q;rw[h.cc]at this;cases this⟩,h.cc,h.bG.mono ht.size,h.inv⟩
theorem Ch.below(h:Ch w col f m s)(hb:Bw w w2):Ch w2 col f m s:=h.turns (au.aW (S:=fun _=>False) hb) fun _ q=>q.elim
theorem Ch.ew(h:Ch w col f m s)(hc:∀b,b<w.heap.size→col' b=col b)(bG:rB col' w):Ch w col' f m s:=⟨h.ij.ew hc,h.gN.ew hc,h.ref.ew hc,h.pre.ew hc,h.BX.ew hc,h.iX,by obtain⟨t,hb⟩:=h.iX;rw[hc _ hb.lt];exact h.cc,bG,h.inv⟩
theorem VC.eH{g:VG}{P:Nat→Option cH}{V:List ((Int×Int)×cZ)}{R:kF}(h:VC A col g P V R)(k:eD N A B):VC B col g P V R:=⟨let⟨a,h1,h2⟩:=h.vp;⟨a,h1.eH k,h2⟩,fun i p hi hp=>(h.pv i p hi hp).eH k,h.dm.eH k,h.vB.eH k,fun e he=>(h.Pc e he).eH k,fun e he d hd=>⟨(h.wC e he d hd).1.eH k,(h.wC e he d hd).2⟩,h.A0,h.Fj,h.Fk,h.cp,h.cr,h.key,h.iO⟩
theorem RC.eH{rp rl:Nat}{ts:List jY}{L:List ((Int×Int)×aY)}(h:RC A col rp rl ts L)(k:eD N A B):RC B col rp rl ts L:=⟨let⟨tb,c,a,t,hp,h2⟩:=h.rp;⟨tb,c,a,t,hp.eH k,h2⟩,h.k5.eH k,h.cg,h.few⟩
theorem Ch.eH(h:Ch w col f m s)(k:eD N w w2):Ch w2 col f m s:=⟨h.ij.eH k,h.gN.eH k,h.ref.eH k,h.pre.eH k,h.BX.eH k,let⟨t,hb⟩:=h.iX;⟨t,hb.eH k⟩,h.cc,h.bG.mono k.size,h.inv⟩
def mark(col:Nat→Nat)(g:Nat):Nat→Nat:=fun b=>if b=g then 7 else col b
theorem dX:mark col g g=7:=if_pos rfl
theorem cN(h:b≠g):mark col g b=col b:=if_neg h
structure yk(m0:CV)(s0:bM)(m:CV)(s:bM):Prop where
 pid:∀i,(s0.P i).isSome=true→(s.P i).isSome=true∧m.pid i=m0.pid i
 ji:∀a t r,((a,t),r)∈s0.R→(∃r',((a,t),r')∈s.R)∧m.ji a t=m0.ji a t
theorem yk.refl(m:CV)(s:bM):yk m s m s:=⟨fun i h=>⟨h,rfl⟩,fun a t r h=>⟨⟨r,h⟩,rfl⟩⟩
theorem yk.trans{m0 m1 m2:CV}{s0 s1 s2:bM}(h:yk m0 s0 m1 s1)(k:yk m1 s1 m2 s2):yk m0 s0 m2 s2:=⟨fun i q=>⟨(k.pid i (h.pid i q).1).1,(k.pid i (h.pid i q).1).2.trans (h.pid i q).2⟩,fun a t r q=>by obtain⟨⟨r1,h1⟩,e1⟩:=h.ji a t r q;obtain⟨h2,e2⟩:=k.ji a t r1 h1;exact⟨h2,e2.trans e1⟩⟩
theorem yk.of(hP:s'.P=s.P)(hR:s'.R=s.R):yk m s m s':=⟨fun i h=>⟨by rw[hP];exact h,rfl⟩,fun a t r h=>⟨⟨r,by rw[hR];exact h⟩,rfl⟩⟩
theorem yk.ofP(hP:∀i,(s.P i).isSome=true→(s'.P i).isSome=true)(hR:s'.R=s.R):yk m s m s':=⟨fun i h=>⟨hP i h,rfl⟩,fun a t r h=>⟨⟨r,by rw[hR];exact h⟩,rfl⟩⟩
structure bV(X:Nat→Prop)(w0:World)(eU:Nat→Nat)(m0:CV)(s0:bM)(w:World)(col:Nat→Nat)(f:CF)(m:CV)(s:bM):Prop where
 ch:Ch w col f m s
 turns:au (fun b=>own (eU b)∨X b) w0 w
 fp:∀b,b<w0.heap.size→col b=eU b
 stay:yk m0 s0 m s
abbrev Out:=bV (fun _=>False)
theorem bV.start{X:Nat→Prop}(h:Ch w col f m s):bV X w col m s w col f m s:=⟨h,au.refl _ _,fun _ _=>rfl,.refl _ _⟩
variable{w0:World}{eU:Nat→Nat}{m0:CV}{s0:bM}{X:Nat→Prop}
theorem bV.tn(h:Out w0 eU m0 s0 w col f m s):au (fun b=>own (eU b)) w0 w:=h.turns.mono fun b _ q=>q.elim id (fun q=>q.elim)
theorem bV.step(h:bV X w0 eU m0 s0 w col f m s)(hb:Bw w w2):bV X w0 eU m0 s0 w2 col f m s:=⟨h.ch.below hb,h.turns.step hb,h.fp,h.stay⟩
theorem bV.trans(h:bV X w0 eU m0 s0 w col f m s)(k:Out w col m s w2 col' f m' s'):bV X w0 eU m0 s0 w2 col' f m' s':=⟨k.ch,h.turns.trans (k.tn.mono fun b hb q=>by
 by_cases e:b<w0.heap.size;·exact .inl (.inl (by rw[←h.fp b e];exact q))
 ·exact .inr om),fun b hb=>(k.fp b (ayu hb h.turns.size)).trans (h.fp b hb),h.stay.trans k.stay⟩
theorem Ch.aaF(h:Ch w col f m s)(hb:Bw w w2)(hc:∀b,b<w.heap.size→col' b=col b)(bG:rB col' w2):Ch w2 col' f m s:=⟨(h.ij.ew hc).below hb,(h.gN.ew hc).below hb,(h.ref.ew hc).below hb,(h.pre.ew hc).below hb,(h.BX.ew hc).below hb,let⟨t,q⟩:=h.iX;⟨t,q.below hb⟩,by obtain⟨t,q⟩:=h.iX;rw[hc _ q.lt];exact h.cc,bG,h.inv⟩
theorem bV.new(h:bV X w0 eU m0 s0 w col f m s)(n:jr w w2 g cs t):bV X w0 eU m0 s0 w2 (mark col g) f m s:=by have hf:=n.fresh;have hs:=h.turns.size;exact⟨h.ch.aaF n.below (fun b hb=>cN om) fun b hb=>(cN (by have:=n.lt;omega)).trans (h.ch.bG b (ayo n.below.size hb)),h.turns.step n.below,fun b hb=>(cN om).trans (h.fp b hb),h.stay⟩
theorem bV.put(h:bV X w0 eU m0 s0 w col f m s)(p:o1 w w2 g cs t)(hg:col g=7)(hf:w0.heap.size≤g∨X g):bV X w0 eU m0 s0 w2 col f m s:=⟨h.ch.turns p.turns fun b e=>by subst e;exact hg,h.turns.put p (hf.elim .inr fun q=>.inl (.inr q)),h.fp,h.stay⟩
theorem bV.eH(h:bV X w0 eU m0 s0 w col f m s)(k:eD N w w2)(hN:w0.heap.size≤N):bV X w0 eU m0 s0 w2 col f m s:=⟨h.ch.eH k,h.turns.eH k hN,h.fp,h.stay⟩
theorem j1(h:col b=0∨col b=7):¬own (col b):=fun q=>by unfold own at q;rcases h with h|h<;>omega
theorem bV.j5(h:bV X w0 eU m0 s0 w col f m s){i:Int}{p:cH}(h0:(cM s0.P i).isSome=true)(hp:cM s.P i=some p):i.toNat<12∧col (m0.pid i.toNat)=100+i.toNat∧bH w (m0.pid i.toNat) (qJ p) 100:=by obtain⟨q,hq⟩:=ayA.1 h0;have:=(h.stay.pid i.toNat (by rw[(i5 hq).2];rfl)).2;rw[←this];exact h.ch.gN.Pe hp
theorem bV.jL(h:bV X w0 eU m0 s0 w col f m s){a t:Int}{r0 r:fU}(h0:((a,t),r0)∈s0.R)(hr:((a,t),r)∈s.R):col (m0.ji a t)=wz a t∧bH w (m0.ji a t) (recC (m.oQ a t) r) 217:=by have:=(h.stay.ji a t r0 h0).2;rw[←this];exact⟨h.ch.gN.cr _ hr,h.ch.gN.Pc _ hr⟩
theorem Ch.zy{P':Nat→Option cH}{V':List ((Int×Int)×cZ)}{R':kF}(h:Ch w col f m s)(hv:VC w2 col' (Fw f m') P' V' R')(ht:au S w w2)(hS:∀b,S b→A4 (col b))(fp:∀b,b<w.heap.size→col' b=col b)(bG:rB col' w2)(fB:yk m s m' {s with P:=P',V:=V',R:=R'})(inv:Inv {s with P:=P',V:=V',R:=R'}):Out w col m s w2 col' f m' {s with P:=P',V:=V',R:=R'}:=by
 have hS':∀b,S b∧b<w.heap.size→A4 (col' b):=fun b q=>by rw[fp b q.2];exact hS b q.1
 have hb:=ht.bound;refine⟨⟨(h.ij.ew fp).turns hb fun b q=>?_,hv,(h.ref.ew fp).turns hb fun b q=>?_,(h.pre.ew fp).turns hb fun b q=>?_,(h.BX.ew fp).turns hb fun b q=>?_,?_,?_,bG,inv⟩,ht.mono fun b _ q=>.inl ?_,fp,fB⟩;·have:=hS' b q;unfold A4 at this;omega
 ·have:=hS' b q;unfold A4 at this;omega
 ·have:=hS' b q;unfold A4 at this;omega
 ·have:=hS' b q;unfold A4 at this;omega
 ·obtain⟨t,q⟩:=h.iX;exact⟨t,q.turns ht fun e=>by have:=hS _ e;rw[h.cc]at this;unfold A4 at this;omega⟩
 ·obtain⟨t,q⟩:=h.iX;rw[fp _ q.lt];exact h.cc
 ·have:=hS b q;unfold A4 at this;unfold own;omega
theorem Ch.BY{fs':List (Int×Int)}{K':List ((Int×Int)×Int)}(h:Ch w col f m s)(hl:LC w2 col f.lp f.ap f.gp fs' K')(ht:au S w w2)(hS:∀b,S b→col b=1)(inv:Inv {s with fs:=fs',K:=K'}):Out w col m s w2 col f m {s with fs:=fs',K:=K'}:=⟨⟨hl,h.gN.turns ht fun b q=>by rw[hS b q];unfold A4;decide,h.ref.turns ht fun b q=>by rw[hS b q];decide,h.pre.turns ht fun b q=>by rw[hS b q];decide,h.BX.turns ht fun b q=>by rw[hS b q];decide,
 let⟨t,q⟩:=h.iX;⟨t,q.turns ht fun e=>by have:=hS _ e;rw[h.cc]at this;cases this⟩,h.cc,h.bG.mono ht.size,inv⟩,ht.mono fun b _ q=>.inl (by rw[hS b q];unfold own;decide),fun _ _=>rfl,.of rfl rfl⟩
theorem Ch.XL{L':List ((Int×Int)×aY)}(h:Ch w col f m s)(hl:RC w2 col f.rp f.rl NT L')(ht:au S w w2)(hS:∀b,S b→col b=3)(inv:Inv {s with L:=L'}):Out w col m s w2 col f m {s with L:=L'}:=⟨⟨h.ij.turns ht fun b q=>by rw[hS b q];decide,h.gN.turns ht fun b q=>by rw[hS b q];unfold A4;decide,hl,h.pre.turns ht fun b q=>by rw[hS b q];decide,h.BX.turns ht fun b q=>by rw[hS b q];decide,
 let⟨t,q⟩:=h.iX;⟨t,q.turns ht fun e=>by have:=hS _ e;rw[h.cc]at this;cases this⟩,h.cc,h.bG.mono ht.size,inv⟩,ht.mono fun b _ q=>.inl (by rw[hS b q];unfold own;decide),fun _ _=>rfl,.of rfl rfl⟩
theorem Ch.JD{N':tS}{W':oH}(h:Ch w col f m s)(hl:PC w2 col f.pp f.pn f.pw N' W')(ht:au S w w2)(hS:∀b,S b→col b=4)(inv:Inv {s with N:=N',W:=W'}):Out w col m s w2 col f m {s with N:=N',W:=W'}:=⟨⟨h.ij.turns ht fun b q=>by rw[hS b q];decide,h.gN.turns ht fun b q=>by rw[hS b q];unfold A4;decide,h.ref.turns ht fun b q=>by rw[hS b q];decide,hl,h.BX.turns ht fun b q=>by rw[hS b q];decide,
 let⟨t,q⟩:=h.iX;⟨t,q.turns ht fun e=>by have:=hS _ e;rw[h.cc]at this;cases this⟩,h.cc,h.bG.mono ht.size,inv⟩,ht.mono fun b _ q=>.inl (by rw[hS b q];unfold own;decide),fun _ _=>rfl,.of rfl rfl⟩
theorem Ch.XM{A':List cS}(h:Ch w col f m s)(hl:AC w2 col f.ag A')(ht:au S w w2)(hS:∀b,S b→col b=5)(inv:Inv {s with A:=A'}):Out w col m s w2 col f m {s with A:=A'}:=⟨⟨h.ij.turns ht fun b q=>by rw[hS b q];decide,h.gN.turns ht fun b q=>by rw[hS b q];unfold A4;decide,h.ref.turns ht fun b q=>by rw[hS b q];decide,h.pre.turns ht fun b q=>by rw[hS b q];decide,hl,
 let⟨t,q⟩:=h.iX;⟨t,q.turns ht fun e=>by have:=hS _ e;rw[h.cc]at this;cases this⟩,h.cc,h.bG.mono ht.size,inv⟩,ht.mono fun b _ q=>.inl (by rw[hS b q];unfold own;decide),fun _ _=>rfl,.of rfl rfl⟩
theorem Ch.afJ{n:Int}(h:Ch w col f m s)(hb:bH w2 f.cp #[.int .i64 n,.pointer (some ⟨f.lp,0,none⟩),.pointer (some ⟨f.vp,0,none⟩),.pointer (some ⟨f.rp,0,none⟩),.pointer (some ⟨f.pp,0,none⟩),.pointer (some ⟨f.ag,0,none⟩)] t)(ht:au (fun b=>b=f.cp) w w2):Out w col m s w2 col f m {s with now:=n}:=by
 have hS:∀b,b=f.cp→col b=6:=fun b e=>by subst e;exact h.cc
 exact⟨⟨h.ij.turns ht fun b q=>by rw[hS b q];decide,h.gN.turns ht fun b q=>by rw[hS b q];unfold A4;decide,h.ref.turns ht fun b q=>by rw[hS b q];decide,h.pre.turns ht fun b q=>by rw[hS b q];decide,h.BX.turns ht fun b q=>by rw[hS b q];decide,⟨t,hb⟩,h.cc,h.bG.mono ht.size,⟨h.inv.kk,h.inv.kr,h.inv.vk,h.inv.vr,h.inv.pt,h.inv.ll,h.inv.lk,h.inv.lt,h.inv.nl,h.inv.al,h.inv.vv,h.inv.rd⟩⟩,ht.mono fun b _ q=>.inl (by rw[hS b q];unfold own;decide),fun _ _=>rfl,.of rfl rfl⟩
end
theorem DD:∀(l:List Nat) (n:Nat),l.Pairwise (·<·)→(∀x∈l,x<n)→l.length≤n:=by
 have key:∀(l:List Nat) (lo n:Nat),lo≤n→l.Pairwise (·<·)→(∀x∈l,lo≤x∧x<n)→l.length+lo≤n:=by
  intro l;induction l with
  |nil=>intro lo n h _ _;simpa using h
  |cons a l ih=>intro lo n h hp hx;obtain⟨h1,h2⟩:=List.pairwise_cons.1 hp;have ha:=hx a (by simp);have:=ih (a+1) n om h2 fun x hm=>⟨h1 x hm,(hx x (by simp[hm])).2⟩;simp only[ayJ];omega
 intro l n hp hx;have:=key l 0 n (ayP _) hp fun x hm=>⟨ayP _,hx x hm⟩;omega
theorem oR{L:List ((Int×Int)×α)}(hr:gM L){m n:Nat}(hk:∀e∈L,(0≤e.1.1∧e.1.1<m)∧0≤e.1.2∧e.1.2<n):L.length≤m*n:=by
 have h:=DD (L.map fun e=>e.1.1.toNat*n+e.1.2.toNat) (m*n) ?_ ?_;·simpa using h
 ·rw[aAq];refine hr.imp_of_mem fun{x y} hx hy q=>?_;have h1:=hk x hx;have h2:=hk y hy;rcases q with q|⟨q1,q2⟩
  ·have:x.1.1.toNat+1≤y.1.1.toNat:=by omega
   have:=ayD n this;rw[ay0]at this;omega
  ·rw[q1];omega
 ·intro z hz;obtain⟨e,he,rfl⟩:=ayM.1 hz;have h1:=hk e he;have:e.1.1.toNat+1≤m:=by omega
  have:=ayD n this;rw[ay0]at this;omega
end
section
open Go.RowKit
variable{P:Nat→Option cH}{i a t:Int}{R:kF}{x y:aY}{r:fU}{k:Nat}{w2:World}
def bM.iP(s:bM)(x:List (Int×Int)):bM:=⟨x,s.K,s.P,s.V,s.R,s.L,s.N,s.W,s.A,s.now⟩
def bM.FA(s:bM)(x:List ((Int×Int)×Int)):bM:=⟨s.fs,x,s.P,s.V,s.R,s.L,s.N,s.W,s.A,s.now⟩
def bM.nk(s:bM)(x:Nat→Option cH):bM:=⟨s.fs,s.K,x,s.V,s.R,s.L,s.N,s.W,s.A,s.now⟩
def bM.FB(s:bM)(x:List ((Int×Int)×cZ)):bM:=⟨s.fs,s.K,s.P,x,s.R,s.L,s.N,s.W,s.A,s.now⟩
def bM.nm(s:bM)(x:kF):bM:=⟨s.fs,s.K,s.P,s.V,x,s.L,s.N,s.W,s.A,s.now⟩
def bM.rI(s:bM)(x:List ((Int×Int)×aY)):bM:=⟨s.fs,s.K,s.P,s.V,s.R,x,s.N,s.W,s.A,s.now⟩
def bM.ym(s:bM)(x:tS):bM:=⟨s.fs,s.K,s.P,s.V,s.R,s.L,x,s.W,s.A,s.now⟩
def bM.vD(s:bM)(x:oH):bM:=⟨s.fs,s.K,s.P,s.V,s.R,s.L,s.N,x,s.A,s.now⟩
def bM.DE(s:bM)(x:List cS):bM:=⟨s.fs,s.K,s.P,s.V,s.R,s.L,s.N,s.W,x,s.now⟩
def bM.cq(s:bM)(x:Int):bM:=⟨s.fs,s.K,s.P,s.V,s.R,s.L,s.N,s.W,s.A,x⟩
@[simp] theorem adK (s:bM) (x:List (Int×Int)):(s.iP x).fs=x:=rfl
@[simp] theorem ag5 (s:bM) (x:List (Int×Int)):(s.iP x).K=s.K:=rfl
@[simp] theorem ag8 (s:bM) (x:List (Int×Int)):(s.iP x).P=s.P:=rfl
@[simp] theorem ahm (s:bM) (x:List (Int×Int)):(s.iP x).V=s.V:=rfl
@[simp] theorem ahD (s:bM) (x:List (Int×Int)):(s.iP x).R=s.R:=rfl
@[simp] theorem ahR (s:bM) (x:List (Int×Int)):(s.iP x).L=s.L:=rfl
@[simp] theorem ahS (s:bM) (x:List (Int×Int)):(s.iP x).N=s.N:=rfl
@[simp] theorem ah8 (s:bM) (x:List (Int×Int)):(s.iP x).W=s.W:=rfl
@[simp] theorem ah9 (s:bM) (x:List (Int×Int)):(s.iP x).A=s.A:=rfl
@[simp] theorem aaR (s:bM) (x:List (Int×Int)):(s.iP x).now=s.now:=rfl
@[simp] theorem aic (s:bM) (x:List ((Int×Int)×Int)):(s.FA x).fs=s.fs:=rfl
@[simp] theorem JF (s:bM) (x:List ((Int×Int)×Int)):(s.FA x).K=x:=rfl
@[simp] theorem ajn (s:bM) (x:List ((Int×Int)×Int)):(s.FA x).P=s.P:=rfl
@[simp] theorem ajo (s:bM) (x:List ((Int×Int)×Int)):(s.FA x).V=s.V:=rfl
@[simp] theorem ajp (s:bM) (x:List ((Int×Int)×Int)):(s.FA x).R=s.R:=rfl
@[simp] theorem ajq (s:bM) (x:List ((Int×Int)×Int)):(s.FA x).L=s.L:=rfl
@[simp] theorem ajr (s:bM) (x:List ((Int×Int)×Int)):(s.FA x).N=s.N:=rfl
@[simp] theorem ajs (s:bM) (x:List ((Int×Int)×Int)):(s.FA x).W=s.W:=rfl
@[simp] theorem ajt (s:bM) (x:List ((Int×Int)×Int)):(s.FA x).A=s.A:=rfl
@[simp] theorem adM (s:bM) (x:List ((Int×Int)×Int)):(s.FA x).now=s.now:=rfl
@[simp] theorem aiu (s:bM) (x:Nat→Option cH):(s.nk x).fs=s.fs:=rfl
@[simp] theorem aju (s:bM) (x:Nat→Option cH):(s.nk x).K=s.K:=rfl
@[simp] theorem yO (s:bM) (x:Nat→Option cH):(s.nk x).P=x:=rfl
@[simp] theorem ak4 (s:bM) (x:Nat→Option cH):(s.nk x).V=s.V:=rfl
@[simp] theorem ak5 (s:bM) (x:Nat→Option cH):(s.nk x).R=s.R:=rfl
@[simp] theorem JG (s:bM) (x:Nat→Option cH):(s.nk x).L=s.L:=rfl
@[simp] theorem ak6 (s:bM) (x:Nat→Option cH):(s.nk x).N=s.N:=rfl
@[simp] theorem ak7 (s:bM) (x:Nat→Option cH):(s.nk x).W=s.W:=rfl
@[simp] theorem ak8 (s:bM) (x:Nat→Option cH):(s.nk x).A=s.A:=rfl
@[simp] theorem adN (s:bM) (x:Nat→Option cH):(s.nk x).now=s.now:=rfl
@[simp] theorem aiv (s:bM) (x:List ((Int×Int)×cZ)):(s.FB x).fs=s.fs:=rfl
@[simp] theorem ala (s:bM) (x:List ((Int×Int)×cZ)):(s.FB x).K=s.K:=rfl
@[simp] theorem alb (s:bM) (x:List ((Int×Int)×cZ)):(s.FB x).P=s.P:=rfl
@[simp] theorem alc (s:bM) (x:List ((Int×Int)×cZ)):(s.FB x).V=x:=rfl
@[simp] theorem ali (s:bM) (x:List ((Int×Int)×cZ)):(s.FB x).R=s.R:=rfl
@[simp] theorem alv (s:bM) (x:List ((Int×Int)×cZ)):(s.FB x).L=s.L:=rfl
@[simp] theorem alw (s:bM) (x:List ((Int×Int)×cZ)):(s.FB x).N=s.N:=rfl
@[simp] theorem alx (s:bM) (x:List ((Int×Int)×cZ)):(s.FB x).W=s.W:=rfl
@[simp] theorem alB (s:bM) (x:List ((Int×Int)×cZ)):(s.FB x).A=s.A:=rfl
@[simp] theorem adP (s:bM) (x:List ((Int×Int)×cZ)):(s.FB x).now=s.now:=rfl
@[simp] theorem aiw (s:bM) (x:kF):(s.nm x).fs=s.fs:=rfl
@[simp] theorem alK (s:bM) (x:kF):(s.nm x).K=s.K:=rfl
@[simp] theorem alN (s:bM) (x:kF):(s.nm x).P=s.P:=rfl
@[simp] theorem alO (s:bM) (x:kF):(s.nm x).V=s.V:=rfl
@[simp] theorem alP (s:bM) (x:kF):(s.nm x).R=x:=rfl
@[simp] theorem alQ (s:bM) (x:kF):(s.nm x).L=s.L:=rfl
@[simp] theorem alR (s:bM) (x:kF):(s.nm x).N=s.N:=rfl
@[simp] theorem alS (s:bM) (x:kF):(s.nm x).W=s.W:=rfl
@[simp] theorem alT (s:bM) (x:kF):(s.nm x).A=s.A:=rfl
@[simp] theorem adQ (s:bM) (x:kF):(s.nm x).now=s.now:=rfl
@[simp] theorem aix (s:bM) (x:List ((Int×Int)×aY)):(s.rI x).fs=s.fs:=rfl
@[simp] theorem alV (s:bM) (x:List ((Int×Int)×aY)):(s.rI x).K=s.K:=rfl
@[simp] theorem alY (s:bM) (x:List ((Int×Int)×aY)):(s.rI x).P=s.P:=rfl
@[simp] theorem al0 (s:bM) (x:List ((Int×Int)×aY)):(s.rI x).V=s.V:=rfl
@[simp] theorem al3 (s:bM) (x:List ((Int×Int)×aY)):(s.rI x).R=s.R:=rfl
@[simp] theorem vE (s:bM) (x:List ((Int×Int)×aY)):(s.rI x).L=x:=rfl
@[simp] theorem al4 (s:bM) (x:List ((Int×Int)×aY)):(s.rI x).N=s.N:=rfl
@[simp] theorem al5 (s:bM) (x:List ((Int×Int)×aY)):(s.rI x).W=s.W:=rfl
@[simp] theorem al6 (s:bM) (x:List ((Int×Int)×aY)):(s.rI x).A=s.A:=rfl
@[simp] theorem adR (s:bM) (x:List ((Int×Int)×aY)):(s.rI x).now=s.now:=rfl
@[simp] theorem aiy (s:bM) (x:tS):(s.ym x).fs=s.fs:=rfl
@[simp] theorem al7 (s:bM) (x:tS):(s.ym x).K=s.K:=rfl
@[simp] theorem al9 (s:bM) (x:tS):(s.ym x).P=s.P:=rfl
@[simp] theorem ama (s:bM) (x:tS):(s.ym x).V=s.V:=rfl
@[simp] theorem amh (s:bM) (x:tS):(s.ym x).R=s.R:=rfl
@[simp] theorem ami (s:bM) (x:tS):(s.ym x).L=s.L:=rfl
@[simp] theorem amj (s:bM) (x:tS):(s.ym x).N=x:=rfl
@[simp] theorem amk (s:bM) (x:tS):(s.ym x).W=s.W:=rfl
@[simp] theorem amn (s:bM) (x:tS):(s.ym x).A=s.A:=rfl
@[simp] theorem adS (s:bM) (x:tS):(s.ym x).now=s.now:=rfl
@[simp] theorem aiz (s:bM) (x:oH):(s.vD x).fs=s.fs:=rfl
@[simp] theorem amp (s:bM) (x:oH):(s.vD x).K=s.K:=rfl
@[simp] theorem amq (s:bM) (x:oH):(s.vD x).P=s.P:=rfl
@[simp] theorem amr (s:bM) (x:oH):(s.vD x).V=s.V:=rfl
@[simp] theorem ams (s:bM) (x:oH):(s.vD x).R=s.R:=rfl
@[simp] theorem amt (s:bM) (x:oH):(s.vD x).L=s.L:=rfl
@[simp] theorem amu (s:bM) (x:oH):(s.vD x).N=s.N:=rfl
@[simp] theorem sP (s:bM) (x:oH):(s.vD x).W=x:=rfl
@[simp] theorem amv (s:bM) (x:oH):(s.vD x).A=s.A:=rfl
@[simp] theorem adT (s:bM) (x:oH):(s.vD x).now=s.now:=rfl
@[simp] theorem aiA (s:bM) (x:List cS):(s.DE x).fs=s.fs:=rfl
@[simp] theorem amw (s:bM) (x:List cS):(s.DE x).K=s.K:=rfl
@[simp] theorem amx (s:bM) (x:List cS):(s.DE x).P=s.P:=rfl
@[simp] theorem amy (s:bM) (x:List cS):(s.DE x).V=s.V:=rfl
@[simp] theorem amF (s:bM) (x:List cS):(s.DE x).R=s.R:=rfl
@[simp] theorem amJ (s:bM) (x:List cS):(s.DE x).L=s.L:=rfl
@[simp] theorem amK (s:bM) (x:List cS):(s.DE x).N=s.N:=rfl
@[simp] theorem amL (s:bM) (x:List cS):(s.DE x).W=s.W:=rfl
@[simp] theorem amM (s:bM) (x:List cS):(s.DE x).A=x:=rfl
@[simp] theorem adU (s:bM) (x:List cS):(s.DE x).now=s.now:=rfl
@[simp] theorem aaU (s:bM) (x:Int):(s.cq x).fs=s.fs:=rfl
@[simp] theorem adV (s:bM) (x:Int):(s.cq x).K=s.K:=rfl
@[simp] theorem adW (s:bM) (x:Int):(s.cq x).P=s.P:=rfl
@[simp] theorem adX (s:bM) (x:Int):(s.cq x).V=s.V:=rfl
@[simp] theorem adY (s:bM) (x:Int):(s.cq x).R=s.R:=rfl
@[simp] theorem adZ (s:bM) (x:Int):(s.cq x).L=s.L:=rfl
@[simp] theorem ad3 (s:bM) (x:Int):(s.cq x).N=s.N:=rfl
@[simp] theorem ad6 (s:bM) (x:Int):(s.cq x).W=s.W:=rfl
@[simp] theorem ad7 (s:bM) (x:Int):(s.cq x).A=s.A:=rfl
@[simp] theorem aaj (s:bM) (x:Int):(s.cq x).now=x:=rfl
section
variable{s:bM}
theorem Inv.kl(h:Inv s):s.K.length≤40:=oR (m:=10) (n:=4) h.kr h.kk
theorem oS(h:(cM P i).isSome=true):0≤i∧i<12:=by obtain⟨p,hp⟩:=ayA.1 h;have:=dC.1 (i5 hp).1;omega
theorem Inv.vl(h:Inv s):s.V.length≤120:=oR (m:=10) (n:=12) h.vr fun e he=>⟨(h.vk e he).1,oS (h.vk e he).2⟩
theorem VC.rl{w:World}{col:Nat→Nat}{g:VG}{V:List ((Int×Int)×cZ)}(h:VC w col g P V R):R.length≤40:=oR (m:=10) (n:=4) h.iO fun e he=>h.key e he
theorem Inv.iP(h:Inv s)(x:List (Int×Int)):Inv (s.iP x):=⟨h.kk,h.kr,h.vk,h.vr,h.pt,h.ll,h.lk,h.lt,h.nl,h.al,h.vv,h.rd⟩
def Pu(x:fU):Prop:=∀d,x.ef=some d→dn d.iV 0 9=true∧dn d.level 0 6=true
theorem Inv.nm(h:Inv s){x:kF}(hx:∀e∈x,Pu e.2):Inv (s.nm x):=⟨h.kk,h.kr,h.vk,h.vr,h.pt,h.ll,h.lk,h.lt,h.nl,h.al,h.vv,hx⟩
theorem Inv.eP(h:Inv s)(hr:gM s.R)(hl:s.R.length≤40)(a t:Int):Inv (s.nm (i7 s.R a t)):=h.nm fun e he=>by
 unfold i7 at he;split at he;·exact h.rd e he
 ·rcases(i1 hr om).1 he with rfl|he;·intro d hd;cases hd
  ·exact h.rd e he.1
theorem Inv.iI(h:Inv s)(hr:Pu r):Inv (s.nm (iI s.R a t r)):=h.nm fun e he=>by
 rcases l7.1 he with⟨_,e2,_⟩|⟨_,e2⟩;·rw[e2];exact hr
 ·exact h.rd e e2
theorem Inv.vD(h:Inv s)(x:oH):Inv (s.vD x):=⟨h.kk,h.kr,h.vk,h.vr,h.pt,h.ll,h.lk,h.lt,h.nl,h.al,h.vv,h.rd⟩
theorem Inv.cq(h:Inv s)(x:Int):Inv (s.cq x):=⟨h.kk,h.kr,h.vk,h.vr,h.pt,h.ll,h.lk,h.lt,h.nl,h.al,h.vv,h.rd⟩
theorem Inv.ym(h:Inv s){x:tS}(hx:x.length≤6):Inv (s.ym x):=⟨h.kk,h.kr,h.vk,h.vr,h.pt,h.ll,h.lk,h.lt,hx,h.al,h.vv,h.rd⟩
theorem Inv.DE(h:Inv s){x:List cS}(hx:x.length≤12):Inv (s.DE x):=⟨h.kk,h.kr,h.vk,h.vr,h.pt,h.ll,h.lk,h.lt,h.nl,hx,h.vv,h.rd⟩
theorem Inv.lock(h:Inv s)(a:Int)(n:Int)(hi:0≤i∧i<4):Inv (s.FA (mR s.K a i n)):=by
 have hl:=h.kl;refine⟨fun e he=>?_,?_,h.vk,h.vr,h.pt,h.ll,h.lk,h.lt,h.nl,h.al,h.vv,h.rd⟩
 ·simp only[JF,mR]at he;split at he
  ·rename_i ha;have ha:=of_decide_eq_true ha;split at he;·exact h.kk e (zk he)
   ·rcases(i1 h.kr om).1 he with rfl|he;·exact⟨ha,hi⟩
    ·exact h.kk e he.1
  ·exact h.kk e he
 ·simp only[JF,mR];split
  ·split;·exact h.kr.nU
   ·exact h.kr.ej om _
  ·exact h.kr
theorem Inv.raise(h:Inv s)(a:Int)(n:Int)(hi:0≤i∧i<4):Inv (s.FA (rF s.K a i n)):=by
 unfold rF;split;·exact⟨h.kk,h.kr,h.vk,h.vr,h.pt,h.ll,h.lk,h.lt,h.nl,h.al,h.vv,h.rd⟩
 ·exact h.lock a n hi
theorem Inv.amb(h:Inv s)(v:cZ)(hv:eE v=true)(ha:0≤a∧a<10)(hp:(cM s.P i).isSome=true):Inv (s.FB (ej s.V a i v)):=by
 have hl:=h.vl;refine⟨h.kk,h.kr,fun e he=>?_,h.vr.ej om _,h.pt,h.ll,h.lk,h.lt,h.nl,h.al,fun e he=>?_,h.rd⟩;rcases(i1 h.vr om).1 he with rfl|he;·exact⟨ha,hp⟩
 ·exact h.vk e he.1
 rcases(i1 h.vr om).1 he with rfl|he;·exact hv
 ·exact h.vv e he.1
theorem Inv.amc(h:Inv s)(a i:Int):Inv (s.FB (nU s.V a i)):=⟨h.kk,h.kr,fun e he=>h.vk e (zk he),h.vr.nU,h.pt,h.ll,h.lk,h.lt,h.nl,h.al,fun e he=>h.vv e (zk he),h.rd⟩
theorem pD{x:Option cH}(j:Int):cM (iH P k x) j=if dn j 0 11=true then(if j.toNat=k then x else P j.toNat)else none:=rfl
theorem Inv.afM(h:Inv s){p p':cH}(hp:cM s.P i=some p)(ht:p'.aa=p.aa):Inv (s.nk (iH s.P i.toNat (some p'))):=by
 refine⟨h.kk,h.kr,fun e he=>⟨(h.vk e he).1,?_⟩,h.vr,fun j q hq=>?_,h.ll,h.lk,h.lt,h.nl,h.al,h.vv,h.rd⟩
 ·have:=(h.vk e he).2;have jU:=oS this;have hb:dn e.1.2 0 11=true:=dC.2 om;simp only[yO,pD,if_pos hb];simp only[cM,if_pos hb]at this;split;·rfl
  ·exact this
 ·simp only[yO,pD]at hq;split at hq
  ·rename_i hb;split at hq;·cases hq;rw[ht];exact h.pt i p hp
   ·exact h.pt j q (by simp only[cM,if_pos hb];exact hq)
  ·cases hq
theorem Inv.afN(h:Inv s)(i t:Int):Inv (s.nk (l8 s.P i t)):=by
 unfold l8;split
 ·rename_i he;unfold pz at he;split at he
  ·rename_i hi;split at he
   ·rename_i ht;split at he;·cases he
    ·refine⟨h.kk,h.kr,fun e hm=>⟨(h.vk e hm).1,?_⟩,h.vr,fun j q hq=>?_,h.ll,h.lk,h.lt,h.nl,h.al,h.vv,h.rd⟩
     ·have:=(h.vk e hm).2;have jU:=oS this;have hb:dn e.1.2 0 11=true:=dC.2 om;simp only[yO,pD,if_pos hb];simp only[cM,if_pos hb]at this;split;·rfl
      ·exact this
     ·simp only[yO,pD]at hq;split at hq
      ·rename_i hb;split at hq;·cases hq;exact ht
       ·exact h.pt j q (by simp only[cM,if_pos hb];exact hq)
      ·cases hq
   ·cases he
  ·cases he
 ·exact⟨h.kk,h.kr,h.vk,h.vr,h.pt,h.ll,h.lk,h.lt,h.nl,h.al,h.vv,h.rd⟩
theorem Inv.aaH(h:Inv s)(i st n:Int):Inv (s.nk (gH s.P i st n)):=by
 have h0:Inv (s.nk s.P):=⟨h.kk,h.kr,h.vk,h.vr,h.pt,h.ll,h.lk,h.lt,h.nl,h.al,h.vv,h.rd⟩;unfold gH;split
 ·rename_i p hp;split
  ·split;·exact h.afM hp rfl
   ·exact h0
  ·exact h0
 ·exact h0
theorem Inv.lr(h:Inv s):gM s.L:=by unfold gM;rw[azv];intro i j hi hj S9;have h1:=h.lk i _ (ayq hi);have h2:=h.lk j _ (ayq hj);rw[h1,h2];exact .inr ⟨rfl,by omega⟩
theorem Inv.lgi(h:Inv s){i:Nat}(hi:i≤s.L.length):gi s.L 0 (i:Int)=i:=by
 have hl:=h.ll;obtain⟨h1,h2⟩:=Dq (a:=0) (b:=(i:Int)) h.lr om;have hle:=j4 s.L 0 (i:Int);rcases azJ (gi s.L 0 (i:Int)) i with q|q|q;·have h3:=h2 (gi s.L 0 (i:Int)) om (ayp _);have h4:=h.lk (gi s.L 0 (i:Int)) _ (ayq om);rw[h4]at h3;exact absurd (.inr ⟨rfl,by simp only;omega⟩) h3
 ·exact q
 ·have h3:=h1 i om q;have h4:=h.lk i _ (ayq om);rw[h4]at h3;exact absurd h3 yg.irrefl
theorem Inv.lgh(h:Inv s){i:Nat}(hi:i≤s.L.length):gh s.L 0 (i:Int)=decide (i<s.L.length):=by
 have hl:=h.ll;rw[azS,zh h.lr om,decide_eq_true_eq];constructor;·rintro⟨v,hv⟩;obtain⟨j,hj⟩:=ayX.1 hv;have:=h.lk j _ hj;have h2:=(ays.1 hj).1;simp only[azX,true_and]at this;omega
 ·intro q;have h4:=h.lk i _ (ayq q);exact⟨(s.L[i]).2,by rw[←h4];exact aAx q⟩
theorem Inv.amd(h:Inv s){i:Nat}(hi:i<s.L.length)(x:aY):ej s.L 0 (i:Int) x=s.L.set i ((0,(i:Int)),x):=by rw[jz x (h.lgi om) (by rw[h.lgh om];exact decide_eq_true hi)]
theorem Inv.ame(h:Inv s)(x:aY):ej s.L 0 (s.L.length:Int) x=s.L++[((0,(s.L.length:Int)),x)]:=by rw[jK x (h.lgi (ayp _)) (by rw[h.lgh (ayp _)];simp)];simp
theorem Inv.HI(h:Inv s):bS s.L 0 i=some x↔0≤i∧s.L[i.toNat]?=some ((0,i),x):=by
 have hl:=h.ll;rw[lY h.lr om];constructor;·intro hv;obtain⟨j,hj⟩:=ayX.1 hv;have:=h.lk j _ hj;simp only[azX,true_and]at this;subst this;exact⟨by omega,by simpa using hj⟩
 ·rintro⟨_,hv⟩;exact ayw hv
theorem Inv.Pv(h:Inv s)(hy:bS s.L 0 i=some y)(hx:0≤x.aa∧x.aa<2):Inv (s.rI (ej s.L 0 i x)):=by
 obtain⟨h0,h1⟩:=h.HI.1 hy;obtain⟨k,rfl⟩:=az3 h0;simp only[Int.toNat_natCast]at h1;have hk:=(ays.1 h1).1;rw[h.amd hk];refine⟨h.kk,h.kr,h.vk,h.vr,h.pt,by simpa using h.ll,fun j e he=>?_,fun e he=>?_,h.nl,h.al,h.vv,h.rd⟩
 ·simp only[vE,aze]at he;split at he;·rename_i q;subst q;cases he;rfl
  ·exact h.lk j e he
 ·rcases azp he with he|rfl;·exact h.lt e he
  ·exact hx
theorem Inv.Pw(h:Inv s)(hl:s.L.length<12)(hx:0≤x.aa∧x.aa<2):Inv (s.rI (ej s.L 0 (s.L.length:Int) x)):=by
 rw[h.ame];refine⟨h.kk,h.kr,h.vk,h.vr,h.pt,by simp;omega,fun j e he=>?_,fun e he=>?_,h.nl,h.al,h.vv,h.rd⟩
 ·simp only[vE]at he;rcases ayQ j s.L.length with q|q;·rw[ayV q]at he;exact h.lk j e he
  ·rw[ayO q]at he;have hj:j-s.L.length=0:=by have:=(ays.1 he).1;simpa using this
   rw[hj]at he;cases he;have:j=s.L.length:=by omega
   rw[this]
 ·simp only[vE,azk,List.mem_singleton]at he;rcases he with he|rfl;·exact h.lt e he
  ·exact hx
end
section
variable{w:World}{col:Nat→Nat}{f:CF}{m:CV}{s:bM}
theorem uq(i:Nat)(p:cH):∀j,(P j).isSome=true→(iH P i (some p) j).isSome=true:=by
 intro j h;unfold iH;split;·rfl
 ·exact h
theorem Lp(P:Nat→Option cH)(i st n:Int):gH P i st n=P∨∃p,gH P i st n=iH P i.toNat (some p):=by
 unfold gH;split
 ·split
  ·split;·exact .inr ⟨_,rfl⟩
   ·exact .inl rfl
  ·exact .inl rfl
 ·exact .inl rfl
theorem DF(i st n:Int):∀j,(P j).isSome=true→(gH P i st n j).isSome=true:=by
 intro j h;rcases Lp P i st n with e|⟨p,e⟩<;>rw[e];·exact h
 ·exact uq _ _ j h
theorem FC(i t:Int):∀j,(P j).isSome=true→(l8 P i t j).isSome=true:=by
 intro j h
 have:l8 P i t=P∨∃p,l8 P i t=iH P i.toNat (some p):=by
  unfold l8;split;·exact .inr ⟨_,rfl⟩
  ·exact .inl rfl
 rcases this with e|⟨p,e⟩<;>rw[e];·exact h
 ·exact uq _ _ j h
theorem HJ(hr:gM R)(hl:R.length<900000){x y:Int}(h:((x,y),r)∈R):∃r',((x,y),r')∈i7 R a t:=by
 unfold i7;split;·exact⟨r,h⟩
 ·rename_i hg;by_cases e:(x,y)=(a,t);·exact⟨vz,(i1 hr om).2 (.inl (by rw[e]))⟩
  ·exact⟨r,(i1 hr om).2 (.inr ⟨h,e⟩)⟩
abbrev q0(k:FuncId)(args:Array Value)(w:World)(col:Nat→Nat)(f:CF)(m:CV)(s:bM)(v:Value)(s':bM):Prop:=CP k args w fun e w'=>∃col' m',e=.returned v∧Out w col m s w' col' f m' s'
theorem wI(h:Ch w col f m s)(a n:Int):q0 71 #[.pointer (some ⟨f.lp,0,none⟩),.int .i64 a,.int .i64 n] w col f m s (.int .i64 (dw s.fs s.K a n)) (s.iP (ir s.fs s.K a n)):=(Lf h.ij a n).mono fun _ _ ⟨he,hl,ht⟩=>⟨col,m,he,h.BY hl ht (fun b q=>by subst q;exact h.ij.ca) (h.inv.iP _)⟩
theorem lF(h:Ch w col f m s)(a n:Int):q0 73 #[.pointer (some ⟨f.lp,0,none⟩),.int .i64 a,.int .i64 n] w col f m s (.int .i64 (dV s.fs a n)) (s.iP (jB s.fs a n)):=(Lg h.ij a n).mono fun _ _ ⟨he,hl,ht⟩=>⟨col,m,he,h.BY hl ht (fun b q=>by subst q;exact h.ij.ca) (h.inv.iP _)⟩
theorem TS(h:Ch w col f m s)(a n:Int):q0 234 #[.pointer (some ⟨f.lp,0,none⟩),.int .i64 a,.int .i64 n] w col f m s (.int .i64 (dV s.fs a n)) (s.iP (oP s.fs a n)):=(O8 h.ij a n).mono fun _ _ ⟨he,hl,ht⟩=>⟨col,m,he,h.BY hl ht (fun b q=>by subst q;exact h.ij.ca) (h.inv.iP _)⟩
theorem zz(h:Ch w col f m s)(a b n:Int):q0 38 #[.pointer (some ⟨f.lp,0,none⟩),.int .i64 a,.int .i64 b,.int .i64 n] w col f m s (.int .i64 (iu s.fs s.K a b n)) (s.iP (fg s.fs s.K a b n)):=(Hy h.ij a b n).mono fun _ _ ⟨he,hl,ht⟩=>⟨col,m,he,h.BY hl ht (fun b q=>by subst q;exact h.ij.ca) (h.inv.iP _)⟩
theorem DG(h:Ch w col f m s)(a n:Int)(hi:0≤i∧i<4):q0 141 #[.pointer (some ⟨f.lp,0,none⟩),.int .i64 a,.int .i64 i,.int .i64 n] w col f m s (.tuple #[]) (s.FA (mR s.K a i n)):=(Jz h.ij h.bG (by have:=h.inv.kl;omega) a i n).mono fun _ _ ⟨he,hl,ht⟩=>⟨col,m,he,h.BY hl ht (fun b q=>by subst q;exact h.ij.cg) (h.inv.lock a n hi)⟩
theorem DI(h:Ch w col f m s)(a n:Int)(hi:0≤i∧i<4):q0 133 #[.pointer (some ⟨f.lp,0,none⟩),.int .i64 a,.int .i64 i,.int .i64 n] w col f m s (.tuple #[]) (s.FA (rF s.K a i n)):=(Pq h.ij h.bG (by have:=h.inv.kl;omega) a i n).mono fun _ _ ⟨he,hl,ht⟩=>⟨col,m,he,h.BY hl ht (fun b q=>by subst q;exact h.ij.cg) (h.inv.raise a n hi)⟩
def bM.eP(s:bM)(a t:Int):bM:=s.nm (i7 s.R a t)
theorem ma(h:Ch w col f m s)(ia:dn a 0 9=true)(it:dn t 0 3=true):CP 127 #[.pointer (some ⟨f.vp,0,none⟩),.int .i64 a,.int .i64 t] w fun e w'=>∃col' m',e=.returned (.pointer (some ⟨m'.ji a t,0,none⟩))∧Out w col m s w' col' f m' (s.eP a t):=(Lo h.gN h.bG ia it (by have:=h.gN.rl;omega)).mono fun _ _ ⟨col',wG,he,hv,ht,fp,hc,amf⟩=>⟨col',⟨m.pid,wG,m.oQ⟩,he,h.zy hv ht (fun _ q=>q) fp hc ⟨fun i hi=>⟨hi,rfl⟩,fun x y r hr=>⟨HJ h.gN.iO (by have:=h.gN.rl;omega) hr,amf _ hr⟩⟩ (h.inv.eP h.gN.iO h.gN.rl _ _)⟩
theorem JH(h:Ch w col f m s)(i st n:Int):q0 122 #[.pointer (some ⟨f.vp,0,none⟩),.int .i64 i,.int .i64 st,.int .i64 n] w col f m s (.int .i64 (qp s.P i st)) (s.nk (gH s.P i st n)):=(Pf h.gN i st n).mono fun _ _ ⟨he,hv,ht⟩=>⟨col,m,he,h.zy hv ht (fun _ q=>q) (fun _ _=>rfl) (h.bG.mono ht.size) (.ofP (DF _ _ _) rfl) (h.inv.aaH i st n)⟩
theorem aaI(h:Ch w col f m s)(i t:Int):q0 123 #[.pointer (some ⟨f.vp,0,none⟩),.int .i64 i,.int .i64 t] w col f m s (.int .i64 (pz s.P i t)) (s.nk (l8 s.P i t)):=(TM h.gN h.bG i t).mono fun _ _ ⟨col',TN,he,hv,ht,fp,hc,amg⟩=>⟨col',⟨TN,m.ji,m.oQ⟩,he,h.zy hv ht (fun b q=>by subst q;rw[h.gN.A0];exact .inl rfl) fp hc ⟨fun j hj=>⟨FC _ _ _ hj,amg j hj⟩,fun x y r hr=>⟨⟨r,hr⟩,rfl⟩⟩ (h.inv.afN i t)⟩
theorem Px(h:Ch w col f m s)(v:cZ)(hv:eE v=true)(ha:0≤a∧a<10)(hp:(cM s.P i).isSome=true):q0 132 #[.pointer (some ⟨f.vg,0,none⟩),.int .i64 a,.int .i64 i,.agg #[.int .i64 v.kind,.bool v.jP,.int .i64 v.level,.int .i64 v.a,.int .i64 v.n,.int .i64 v.s]] w col f m s (.tuple #[]) (s.FB (ej s.V a i v)):=(afr h.gN.dm (by have:=h.inv.vl;omega) a i v).mono fun _ _ ⟨he,hg,ht⟩=>⟨col,m,he,h.zy (h.gN.Fl ht (hg.mono fun r q=>h.bG r q)) ht (fun b q=>by subst q;rw[h.gN.Fj];exact .inr (.inl rfl)) (fun _ _=>rfl) (h.bG.mono ht.size) (.of rfl rfl) (h.inv.amb v hv ha hp)⟩
theorem aaJ(h:Ch w col f m s)(a i:Int):q0 134 #[.pointer (some ⟨f.vg,0,none⟩),.int .i64 a,.int .i64 i] w col f m s (.bool (gh s.V a i)) (s.FB (nU s.V a i)):=(aft h.gN.dm (by have:=h.inv.vl;omega) a i).mono fun _ _ ⟨he,hg,ht⟩=>⟨col,m,he,h.zy (h.gN.Fl ht (hg.mono fun r q=>q.elim (h.bG r) id)) ht (fun b q=>by subst q;rw[h.gN.Fj];exact .inr (.inl rfl)) (fun _ _=>rfl) (h.bG.mono ht.size) (.of rfl rfl) (h.inv.amc a i)⟩
theorem iw(h:Ch w col f m s)(hy:bS s.L 0 i=some y)(hx:0≤x.aa∧x.aa<2):q0 76 #[.pointer (some ⟨f.rl,0,none⟩),.int .i64 0,.int .i64 i,.agg (ae x)] w col f m s (.tuple #[]) (s.rI (ej s.L 0 i x)):=(XC h.ref.k5 (by have:=h.inv.ll;omega) 0 i x).mono fun _ _ ⟨he,hg,ht⟩=>⟨col,m,he,h.XL (h.ref.set ht (hg.mono fun r q=>h.bG r q)) ht (fun b q=>by subst q;exact h.ref.cg) (h.inv.Pv hy hx)⟩
theorem Py(h:Ch w col f m s)(hl:s.L.length<12)(hx:0≤x.aa∧x.aa<2):q0 76 #[.pointer (some ⟨f.rl,0,none⟩),.int .i64 0,.int .i64 (s.L.length:Int),.agg (ae x)] w col f m s (.tuple #[]) (s.rI (ej s.L 0 (s.L.length:Int) x)):=(XC h.ref.k5 om 0 _ x).mono fun _ _ ⟨he,hg,ht⟩=>⟨col,m,he,h.XL (h.ref.set ht (hg.mono fun r q=>h.bG r q)) ht (fun b q=>by subst q;exact h.ref.cg) (h.inv.Pw hl hx)⟩
theorem Ch.aaK{S:Nat→Prop}{col':Nat→Nat}(h:Ch w col f m s)(ht:au S w w2)(hS:∀b,S b→col b=7)(hc:∀b,b<w.heap.size→col' b=col b)(bG:rB col' w2):Ch w2 col' f m s:=by have hb:=ht.bound;have h7:∀b,S b∧b<w.heap.size→col' b=7:=fun b q=>(hc b q.2).trans (hS b q.1);exact⟨(h.ij.ew hc).turns hb fun b q=>by rw[h7 b q];decide,(h.gN.ew hc).turns hb fun b q=>by rw[h7 b q];unfold A4;decide,(h.ref.ew hc).turns hb fun b q=>by rw[h7 b q];decide,(h.pre.ew hc).turns hb fun b q=>by rw[h7 b q];decide,(h.BX.ew hc).turns hb fun b q=>by rw[h7 b q];decide,let⟨t,q⟩:=h.iX;⟨t,q.turns ht fun e=>by have:=hS _ e;rw[h.cc]at this;cases this⟩,by obtain⟨t,q⟩:=h.iX;rw[hc _ q.lt];exact h.cc,bG,h.inv⟩
theorem bV.app{X:Nat→Prop}{w0:World}{eU:Nat→Nat}{m0:CV}{s0:bM}{og:Option Nat}{n sz:Nat}{cur:Array Value}{news:List Value}{g c:Nat}{arr:Array Value}{e:TypeId}(h:bV X w0 eU m0 s0 w col f m s)(A:App w w2 og n sz cur news k g c arr e)(hk:∀b,og=some b→col b=7∧(w0.heap.size≤b∨X b)):bV X w0 eU m0 s0 w2 (mark col g) f m s∧(w0.heap.size≤g∨X g):=by
 have hs:=h.turns.size;have hg:(col g=7∧(w0.heap.size≤g∨X g))∨w.heap.size≤g:=A.src.imp (fun q=>hk g q.1) id
 have hm:∀b,b<w.heap.size→mark col g b=col b:=fun b hb=>by
  by_cases q:b=g
  ·subst q;rw[dX];rcases hg with q|q
   ·exact q.1.symm
   ·omega
  ·exact cN q
 have Hw:w0.heap.size≤g∨X g:=hg.elim (fun q=>q.2) (fun q=>.inl om);refine⟨⟨h.ch.aaK A.turns (fun b q=>(hk b q).1) hm fun b hb=>?_,h.turns.trans (A.turns.mono fun b _ q=>(hk b q).2.elim .inr fun q=>.inl (.inr q)),fun b hb=>(hm b om).trans (h.fp b hb),h.stay⟩,Hw⟩;rw[cN (by have:=A.fA.lt;omega)];exact h.ch.bG b (ayo A.turns.size hb)
end
end
section
open Go.RowKit
variable{P:Nat→Option cH}{i a t:Int}{p p':cH}{X:Nat→Prop}{r0 r r':fU}{e:(Int×Int)×cZ}{g0 g1:Wt}
section
variable{w0 w w2:World}{eU col:Nat→Nat}{f:CF}{m0 m:CV}{s0 s:bM}
theorem Lr{i:Nat}{x y:Option cH}:iH (iH P i x) i y=iH P i y:=by funext j;unfold iH;split<;>rfl
theorem nX(h:cM P i=some p):cM (iH P i.toNat (some p')) i=some p':=by have:=i5 h;rw[pD,if_pos this.1,if_pos rfl]
theorem bV.vF(h:bV X w0 eU m0 s0 w col f m s)(h0:(cM s0.P i).isSome=true)(hp:cM s.P i=some p)(ht:p'.aa=p.aa)(pt:o1 w w2 (m0.pid i.toNat) (qJ p') 100):Out w col m s w2 col f m (s.nk (iH s.P i.toNat (some p'))):=by obtain⟨q,hq⟩:=ayA.1 h0;have e:=(h.stay.pid i.toNat (by rw[(i5 hq).2];rfl)).2;rw[←e]at pt;have hc:=h.ch.gN.Pe hp;have hv:=h.ch.gN.JA (p':=p') hc.1 (i5 hp).2 pt.turns pt.fA;exact h.ch.zy hv pt.turns (fun b q=>by subst q;have:=hc.2.1;rw[this];exact .inr (.inr (.inr ⟨by omega,by omega⟩))) (fun _ _=>rfl) (h.ch.bG.mono (ay4 pt.size.symm)) (.ofP (uq _ _) rfl) (h.ch.inv.afM hp ht)
theorem bV.HK(h:bV X w0 eU m0 s0 w col f m s){d':Nat}(h0:((a,t),r0)∈s0.R)(hr:((a,t),r)∈s.R)(hrk:Pu r')(pt:au (fun b=>b=m0.ji a t) w w2)(hb:bH w2 (m0.ji a t) (recC d' r') 217)(hd':∀d,r'.ef=some d→bH w2 d' (aax d) 225∧col d'=0):Out w col m s w2 col f ⟨m.pid,m.ji,fun x y=>if x=a∧y=t then d' else m.oQ x y⟩ (s.nm (iI s.R a t r')):=by
 have e:=(h.stay.ji a t r0 h0).2;rw[←e]at pt hb;have hv:=h.ch.gN.aaA hr pt hb hd';have hk:=gY (h.ch.gN.key _ hr);have hc:col (m.ji a t)=wz a t:=h.ch.gN.cr _ hr;simp only at hk
 exact h.ch.zy (m':=⟨m.pid,m.ji,fun x y=>if x=a∧y=t then d' else m.oQ x y⟩) hv pt (fun b q=>by subst q;rw[hc];exact .inr (.inr (.inr ⟨by omega,by omega⟩))) (fun _ _=>rfl) (h.ch.bG.mono pt.size) ⟨fun i hi=>⟨hi,rfl⟩,fun x y q hq=>⟨by
  by_cases e:(x,y)=(a,t);·exact⟨r',l7.2 (.inl ⟨e,rfl,r,hr⟩)⟩
  ·exact⟨q,l7.2 (.inr ⟨e,hq⟩)⟩,rfl⟩⟩ (h.ch.inv.iI hrk)
theorem bV.yP(h:bV X w0 eU m0 s0 w col f m s)(h0:((a,t),r0)∈s0.R)(hr:((a,t),r)∈s.R)(hd:r'.ef=r.ef)(pt:au (fun b=>b=m0.ji a t) w w2)(hb:bH w2 (m0.ji a t) (recC (m.oQ a t) r') 217):Out w col m s w2 col f m (s.nm (iI s.R a t r')):=by
 have hq:=h.jL h0 hr;have hk:=gY (h.ch.gN.key _ hr);simp only at hk;have:=h.HK (r':=r') (d':=m.oQ a t) h0 hr (fun d q=>h.ch.inv.rd _ hr d (by rw[←hd];exact q)) pt hb (fun d q=>by have:=h.ch.gN.wC _ hr d (by rw[←hd];exact q);exact⟨this.1.turns pt fun e=>by rw[e]at this;have h2:=this.2;rw[hq.1]at h2;omega,this.2⟩)
 have e:(fun x y=>if x=a∧y=t then m.oQ a t else m.oQ x y)=m.oQ:=by
  funext x y;split;·rename_i q;rw[q.1,q.2]
  ·rfl
 rwa[e]at this
theorem rJ{R:kF}(h:((a,t),r)∈R):((a,t),r')∈iI R a t r':=l7.2 (.inl ⟨rfl,rfl,r,h⟩)
theorem Ch.cnt(h:Ch w col f m s)(a t:Int):CB 130 #[.pointer (some ⟨f.vp,0,none⟩),.int .i64 a,.int .i64 t] w (.int .i64 ((bX s.P s.V a t).length:Int)):=Pp h.gN h.bG (fun e he=>(h.inv.vk e he).2) (by have:=h.inv.vl;omega) a t
def XP(f:CF)(m:CV)(s:bM):Array Value:=(Array.range 12).map (fun i=>kv (s.P i).isSome (m.pid i))++#[.pointer (some ⟨f.vg,0,none⟩),.pointer (some ⟨f.rg,0,none⟩)]
theorem wJ:(XP f m s)[12]?=some (.pointer (some ⟨f.vg,0,none⟩)):=by simp[XP,aAc]
theorem aaL:(XP f m s)[13]?=some (.pointer (some ⟨f.rg,0,none⟩)):=by simp[XP,aAc]
theorem Ch.XQ(h:Ch w col f m s):bH w f.vp (XP f m s) 160:=by
 obtain⟨arr,hb,ha⟩:=h.gN.vp
 have:arr=XP f m s:=by
  apply ayW;intro i;rcases azJ i 12 with q|q|q;·rw[ha.pv i q];simp[XP,aAc,q]
  ·subst q;rw[ha.vg];exact wJ.symm
  ·by_cases e:i=13;·subst e;rw[ha.rg];exact aaL.symm
   ·rw[ayN (by rw[ha.size];omega),ayN (by simp[XP];omega)]
 exact this▸hb
theorem Ch.dm(h:Ch w col f m s)(a t:Int):CP 106 #[.pointer (some ⟨f.vp,0,none⟩),.int .i64 a,.int .i64 t] w fun e w'=>∃lb S,e=.returned (.func (.func 161) #[] lb)∧Bw w w'∧qq 161 lb w' S (VR (Fw f m) s.P) (bX s.P s.V a t).length (fS tO (bX s.P s.V a t))∧∀b,S b→(w.heap.size≤b∧b<w'.heap.size)∨b=f.vp∨(col b=0∧b<w.heap.size):=zu h.gN (fun e he=>(h.inv.vk e he).2) a t
theorem HL{V:List ((Int×Int)×cZ)}(h:e∈bX P V a t):e∈V:=(aAj.1 (aAj.1 h).1).1
def q7(g0 g1:Wt)(P:Nat→Option cH)(e:(Int×Int)×cZ):Nat→Option cH:=
 match cM P e.1.2 with
 |some p=>if p.state=0 then iH P e.1.2.toNat (some {p with av:=dU (cE p.av (aI e.2 g0)) (aI e.2 g1)})else P
 |none=>P
theorem TT(g0 g1:Wt)(P:Nat→Option cH)(e:(Int×Int)×cZ):q7 g0 g1 P e=P∨∃q t,cM P e.1.2=some q∧q7 g0 g1 P e=iH P e.1.2.toNat (some {q with av:=t}):=by
 unfold q7;split
 ·rename_i q hq;split;·exact .inr ⟨q,_,hq,rfl⟩
  ·exact .inl rfl
 ·exact .inl rfl
theorem HM(g0 g1:Wt)(P:Nat→Option cH)(e:(Int×Int)×cZ)(i:Nat)(h:P i=some p):∃p',q7 g0 g1 P e i=some p'∧p'.aa=p.aa:=by
 rcases TT g0 g1 P e with e1|⟨q,t,hq,e1⟩<;>rw[e1];·exact⟨p,h,rfl⟩
 ·unfold iH;split;·rename_i e1;subst e1;have:=(i5 hq).2;rw[h]at this;cases this;exact⟨_,rfl,rfl⟩
  ·exact⟨p,h,rfl⟩
theorem rK(g0 g1:Wt):∀(L:List ((Int×Int)×cZ)) (P:Nat→Option cH) (i:Nat) {p:cH},P i=some p→∃p',L.foldl (q7 g0 g1) P i=some p'∧p'.aa=p.aa
 |[],P,i,p,h=>⟨p,h,rfl⟩
 |e::L,P,i,p,h=>by obtain⟨p1,h1,e1⟩:=HM g0 g1 P e i h;obtain⟨p2,h2,e2⟩:=rK g0 g1 L _ i h1;exact⟨p2,h2,e2.trans e1⟩
theorem HN(g0 g1:Wt)(L:List ((Int×Int)×cZ))(P:Nat→Option cH)(h:(cM P i).isSome=true):∃p,cM (L.foldl (q7 g0 g1) P) i=some p:=by obtain⟨p,hp⟩:=ayA.1 h;have h1:=i5 hp;obtain⟨p',h2,_⟩:=rK g0 g1 L P i.toNat h1.2;exact⟨p',by unfold cM;rw[if_pos h1.1];exact h2⟩
theorem Pz(h:cM P e.1.2=some p)(hs:p.state=0):q7 g0 g1 P e=iH P e.1.2.toNat (some {p with av:=dU (cE p.av (aI e.2 g0)) (aI e.2 g1)}):=by unfold q7;rw[h];exact if_pos hs
theorem TU(h:cM P e.1.2=some p)(hs:¬p.state=0):q7 g0 g1 P e=P:=by unfold q7;rw[h];exact if_neg hs
theorem Ch.aaM{P0:Nat→Option cH}(h:Ch w col f m s)(hk:∀i p,P0 i=some p→∃p',s.P i=some p'∧p'.aa=p.aa):VR (Fw f m) P0 w:=fun i p hi hp=>by obtain⟨p',h1,h2⟩:=hk i p hp;exact⟨p',h2,h.gN.pv i p' hi h1⟩
def eh(s:bM)(a t:Int)(g:Wt):fU:={aF s.R a t with bP:=⟨wrap64 ((aF s.R a t).bP.dm+g.dm),wrap64 ((aF s.R a t).bP.ds+g.ds)⟩}
def FD(s:bM)(a t:Int)(g:Wt):bM:=((s.eP a t).nm (iI (i7 s.R a t) a t (eh s a t g))).nk ((bX s.P s.V a t).foldl (q7 (aF s.R a t).bP (eh s a t g).bP) s.P)
def kQ(s:bM)(a i now:Int):Int×bM:=
 if dn a 0 9=true then
  match cM s.P i with
  |none=>(4,s)
  |some p=>
   match bS s.V a i with
   |none=>(4,s.eP a p.aa)
   |some x=>
    if p.state=0 then(0,((s.eP a p.aa).FB (nU s.V a i)).nk (iH s.P i.toNat (some {p with av:=cE p.av (aI x (aF s.R a p.aa).bP)})))
    else if Bm x p.state=true then(0,((s.eP a p.aa).FB (nU s.V a i)).nm (iI (i7 s.R a p.aa) a p.aa (rD (aF s.R a p.aa) (wrap64 (p.end_+mZ x.level 8)) x.a now)))
    else(0,(s.eP a p.aa).FB (nU s.V a i))
 else(1,s)
def fh(s:bM)(a t b l n:Int):Int×bM:=
 if dn a 0 9=true then if dn b 0 9=true then if dn t 0 3=true then if dn l 0 6=true then if dn n 0 1073741824=true then if a=b then(1,s)else
  if(aF s.R a t).ef.isSome=true then(5,s.eP a t)
  else if 0<((bX s.P s.V a t).length:Int)then(9,s.eP a t)
  else if(iU s.fs a).1.1<n then(6,s.eP a t)
  else(0,(FD ((s.eP a t).nm (iI (i7 s.R a t) a t {aF s.R a t with ef:=some ⟨b,l,n⟩})) b t ⟨fv n l,n⟩).FA (rF s.K a t n))
 else(1,s)else(1,s)else(1,s)else(1,s)else(1,s)
def gO(s:bM)(a t now:Int):Int×bM:=
 if dn a 0 9=true then if dn t 0 3=true then
  match(aF s.R a t).ef with
  |none=>(4,s.eP a t)
  |some d=>
   let s1:=FD ((s.eP a t).nm (iI (i7 s.R a t) a t {aF s.R a t with ef:=none})) d.iV t ⟨wrap64 (-fv d.n d.level),wrap64 (-d.n)⟩
   (0,s1.nm (iI s1.R a t (rD (aF s1.R a t) (wrap64 (now+mZ d.level 8)) d.n now)))
 else(1,s)else(1,s)
def qu(s:bM)(a t now:Int):fU:=if(aF s.R a t).aZ≤now then{aF s.R a t with aZ:=0,n:=0}else aF s.R a t
def oT(m:Int)(e:(Int×Int)×cZ):Int:=mx m (uf e.2)
def qv(s:bM)(a t now:Int):Int:=
 let n:=(bX s.P s.V a t).foldl oT (qu s a t now).n
 match(aF s.R a t).ef with
 |some d=>mx n d.n
 |none=>n
def kR(s:bM)(a t now:Int):Int×bM:=
 if dn a 0 9=true then if dn t 0 3=true then(0,(if(aF s.R a t).aZ≤now then(s.eP a t).nm (iI (i7 s.R a t) a t {aF s.R a t with aZ:=0,n:=0})else s.eP a t).FA (mR s.K a t (qv s a t now)))
 else(1,s)else(1,s)
def pE(s:bM)(a i:Int)(v:cZ)(p:cH):bM:=(((s.eP a p.aa).nk (iH s.P i.toNat (some {p with av:=ke p.av (bS s.V a i) v (aF s.R a p.aa).bP}))).FB (ej s.V a i v)).FA (rF s.K a p.aa (uf v))
def mS(s:bM)(a i:Int)(v:cZ):Int×bM:=
 if dn a 0 9=true then
  if eE v=true then
   match cM s.P i with
   |none=>(4,s)
   |some p=>
    if p.state=0 then
     if(aF s.R a p.aa).ef.isSome=true then(5,s.eP a p.aa)
     else if(iU s.fs a).1.1<uf v then(6,s.eP a p.aa)
     else if(bS s.V a i).isSome=true then(0,pE s a i v p)
     else if 6≤((bX s.P s.V a p.aa).length:Int)then(3,s.eP a p.aa)else(0,pE s a i v p)
    else(9,s)
  else(1,s)
 else(1,s)
end
end
section
open Go.RowKit
variable{g b n c:Nat}{cs:Array Value}{t:TypeId}
structure iY where
 k:Int
 a:Int
 b:Int
def FE(e:iY):Array Value:=#[.int .i64 e.k,.int .i64 e.a,.int .i64 e.b]
theorem zA(e:iY):(FE e).size=3:=rfl
theorem JI(e:iY):∀u∈(FE e).toList,u.oneCell'=true:=by intro u hu;simp[FE]at hu;rcases hu with rfl|rfl|rfl<;>rfl
def ix(w0 w:World)(col:Nat→Nat)(v:Value)(es:List iY):Prop:=(v=.slice none 0 0∧es=[])∨∃g c arr,v=.slice (some ⟨g,0,none⟩) es.length c∧bH w g arr 70∧bE arr 3 FE es∧arr.size=c*3∧es.length≤c∧col g=8∧w0.heap.size≤g
section
variable{w0 wE w w2:World}{col col' eU:Nat→Nat}{f:CF}{m m0:CV}{s s0:bM}{v:Value}{es:List iY}{X:Nat→Prop}
theorem ix.nil:ix wE w col (.slice none 0 0) []:=.inl ⟨rfl,rfl⟩
theorem ix.sl(h:ix wE w col v es):∃b n c,v=.slice b n c:=by
 rcases h with⟨e,_⟩|⟨g,c,_,e,_⟩;·exact⟨_,_,_,e⟩
 ·exact⟨_,_,_,e⟩
theorem ix.carry(h:ix wE w col v es)(hk:∀g arr,bH w g arr 70→col g=8→bH w2 g arr 70∧col' g=8):ix wE w2 col' v es:=h.imp id fun⟨g,c,arr,h1,h2,h3,h4,h5,h6,h7⟩=>⟨g,c,arr,h1,(hk _ _ h2 h6).1,h3,h4,h5,(hk _ _ h2 h6).2,h7⟩
theorem ix.below(h:ix wE w col v es)(hb:Bw w w2):ix wE w2 col v es:=h.carry fun g arr q k=>⟨q.below hb,k⟩
theorem ix.eH{N:Nat}(h:ix wE w col v es)(hb:eD N w w2):ix wE w2 col v es:=h.carry fun g arr q k=>⟨q.eH hb,k⟩
theorem ix.since{wF:World}(h:ix wE w col v es)(hs:wF.heap.size≤wE.heap.size):ix wF w col v es:=h.imp id fun⟨g,c,arr,h1,h2,h3,h4,h5,h6,h7⟩=>⟨g,c,arr,h1,h2,h3,h4,h5,h6,ayo hs h7⟩
theorem ix.oU(h:ix wE w col v es)(k:Out w col m s w2 col' f m0 s0):ix wE w2 col' v es:=h.carry fun g arr q e=>⟨q.turns k.tn fun o=>(by unfold own at o;omega),(k.fp _ q.lt).trans e⟩
theorem ix.new(h:ix wE w col v es)(n:jr w w2 g cs t):ix wE w2 (mark col g) v es:=h.carry fun b arr q e=>⟨q.below n.below,(cN (azc (ayu q.lt n.fresh))).trans e⟩
theorem ix.put(h:ix wE w col v es)(p:o1 w w2 g cs t)(hg:col g=7):ix wE w2 col v es:=h.carry fun b arr q e=>⟨q.turns p.turns fun o=>(by subst o;rw[hg]at e;cases e),e⟩
structure A8(wE w:World)(col:Nat→Nat)(w2:World)(col':Nat→Nat):Prop where
 turns:au (fun b=>col b=8∧wE.heap.size≤b) w w2
 fp:∀b,b<w.heap.size→col' b=col b
 bG:rB col' w2
 new:∀b,w.heap.size≤b→col' b=0∨col' b=8
theorem A8.k(A:A8 wE w col w2 col')(h:col b=0∨col b=7):¬(col b=8∧wE.heap.size≤b):=fun q=>by omega
theorem Ch.j6(h:Ch w col f m s)(A:A8 wE w col w2 col'):Ch w2 col' f m s:=by have hb:=A.turns.bound;have h8:∀b,(col b=8∧wE.heap.size≤b)∧b<w.heap.size→col' b=8:=fun b q=>(A.fp b q.2).trans q.1.1;exact⟨(h.ij.ew A.fp).turns hb fun b q=>by rw[h8 b q];decide,(h.gN.ew A.fp).turns hb fun b q=>by rw[h8 b q];unfold A4;decide,(h.ref.ew A.fp).turns hb fun b q=>by rw[h8 b q];decide,(h.pre.ew A.fp).turns hb fun b q=>by rw[h8 b q];decide,(h.BX.ew A.fp).turns hb fun b q=>by rw[h8 b q];decide,let⟨t,q⟩:=h.iX;⟨t,q.turns A.turns fun e=>by have:=e.1;rw[h.cc]at this;cases this⟩,by obtain⟨t,q⟩:=h.iX;rw[A.fp _ q.lt];exact h.cc,A.bG,h.inv⟩
theorem bV.j6(h:bV X w0 eU m0 s0 w col f m s)(A:A8 wE w col w2 col')(hX:∀b,col b=8→wE.heap.size≤b→w0.heap.size≤b∨X b):bV X w0 eU m0 s0 w2 col' f m s:=⟨h.ch.j6 A,h.turns.trans (A.turns.mono fun b _ q=>(hX b q.1 q.2).elim .inr fun x=>.inl (.inr x)),fun b hb=>(A.fp b (ayu hb h.turns.size)).trans (h.fp b hb),h.stay⟩
theorem bV.HO{Y:Nat→Prop}{m':CV}{s':bM}(h:bV X w0 eU m0 s0 w col f m s)(k:bV Y w col m s w2 col' f m' s')(hY:∀b,Y b→w0.heap.size≤b∨X b):bV X w0 eU m0 s0 w2 col' f m' s':=⟨k.ch,h.turns.trans (k.turns.mono fun b hb q=>by
 rcases q with q|q
 ·by_cases e:b<w0.heap.size;·exact .inl (.inl (by rw[←h.fp b e];exact q))
  ·exact .inr om
 ·exact(hY b q).elim .inr fun x=>.inl (.inr x)),fun b hb=>(k.fp b (ayu hb h.turns.size)).trans (h.fp b hb),h.stay.trans k.stay⟩
def iQ(col:Nat→Nat)(g:Nat):Nat→Nat:=fun b=>if b=g then 8 else col b
theorem wK(hc:rB col w)(hb:w.heap.size≤b):iQ col g b=0∨iQ col g b=8:=by
 unfold iQ;split;·exact .inr rfl
 ·exact .inl (hc b hb)
theorem A8.kS(n:jr w w2 g cs t)(hc:rB col w):A8 wE w col w2 (iQ col g):=⟨(au.aW n.below),fun b hb=>if_neg (by have:=n.fresh;omega),fun b hb=>(if_neg (by have:=n.lt;omega)).trans (hc b (ayo n.below.size hb)),fun b hb=>wK hc hb⟩
theorem ix.one{k a b:Int}(n:jr w w2 g #[.int .i64 k,.int .i64 a,.int .i64 b] 70)(hs:wE.heap.size≤w.heap.size):ix wE w2 (iQ col g) (.slice (some ⟨g,0,none⟩) 1 1) [⟨k,a,b⟩]:=.inr ⟨g,1,_,rfl,n.fA,⟨fun i x hx=>by
 cases i with
 |zero=>cases hx;rfl
 |succ i=>simp at hx,ayp 3⟩,rfl,ayp 1,if_pos rfl,by have:=n.fresh;omega⟩
theorem DJ:(Tryz.prog.info? 70).map (fun i=>(i.zero,i.size,i.bytes))=some (some (.agg #[.int .i64 0,.int .i64 0,.int .i64 0]),3,24):=by kernel_rfl
theorem np{e ty:TypeId}{i:TypeInfo}{b y:Option Addr}{c2:Nat}(hu:Tryz.prog.underlying t=some (.slice e))(hi:Tryz.prog.info? e=some i)(hn:n≤c):(Builtin.append_ #[t,t] ty #[.slice b n c,.slice y 0 c2]).run Tryz.prog w=.ok (.slice b n c) w:=by
 have hf:(Builtin.firstCells i.size 0 (.slice y 0 c2)).run Tryz.prog w=.ok #[] w:=by
  cases y with
  |none=>rfl
  |some a=>simp[Builtin.firstCells,loadCells,loadCellsFrom]
 cases b with
 |none=>simp[Builtin.append_,run_underlying hu,sizeOf,typeInfo,hi,Builtin.lenOf,hn,hf]
 |some a=>simp[Builtin.append_,run_underlying hu,sizeOf,typeInfo,hi,Builtin.lenOf,hn,hf,storeCells]
theorem A8.refl(hc:rB col w):A8 wE w col w col:=⟨au.refl _ _,fun _ _=>rfl,hc,fun b hb=>.inl (hc b hb)⟩
theorem TV{k:Nat}{cur arr cW:Array Value}{news:List Value}{og:Option Nat}{o4:List iY}(A:App w w2 og n 3 cur news k g c arr 70)(hn:n=es.length)(hk:k=o4.length)(h1:n=0∨bE cur 3 FE es)(h2:bE cW 3 FE o4)(mP:news=(cW.extract 0 (0+k*3)).toList)(hl:news.length=k*3):bE arr 3 FE (es++o4):=by
 subst hn;subst hk;have hf:=h2.fit;refine bE.tM zA (fun i x hx j hj=>?_) (by rw[ayG,A.size];exact ayD _ A.fit);rcases ayQ i es.length with q|q
 ·rw[ayV q]at hx;have gD:i*3+j<es.length*3:=by omega
  rw[A.old _ gD];rcases h1 with h1|h1;·omega
  ·exact h1.get hx hj
 ·rw[ayO q]at hx;have gD:=(ays.1 hx).1;have e:i*3+j=es.length*3+((i-es.length)*3+j):=by omega
  have PA:(i-es.length)*3+j<o4.length*3:=by omega
  rw[e,A.new _ om,mP,ext_get om PA,ayR];exact h2.get hx hj
section
variable{r:Option Nat}{ops:Array Oper}{Q:Exit→Act→World→Prop}{a:Act}{rest:List Oper}{o:Oper}
theorem nY{wE':World}{x y:Operand}{v1 v2:Value}{Ls o4:List iY}(h1:ix wE w col v1 Ls)(h2:ix wE' w col v2 o4)(hc:rB col w)(hE:wE.heap.size≤w.heap.size)(Da:Ls.length+o4.length<10000000)(hs:a.eval x=v1)(hx:a.eval y=v2)(h:∀v' w2 col',A8 wE w col w2 col'→ix wE w2 col' v' (Ls++o4)→WL r ops Q rest (a.put o.dst v') w2)(hu:Tryz.prog.underlying t=some (.slice 70))(ho:o.op=.call {callee:=.builtin .append,args:=#[x,y],argTypes:=#[t,t]}:=by rfl)(hw:Region.wanted o (yielded ops a.tmps)=true:=by rfl):WL r ops Q (o::rest) a w:=by
 obtain⟨i,hi⟩:∃i,Tryz.prog.info? 70=some i:=by
  have:=DJ;cases hq:Tryz.prog.info? 70 with
  |none=>rw[hq]at this;cases this
  |some i=>exact⟨i,rfl⟩
 have zero:∀{yy:Option Addr} {c2:Nat},v2=.slice yy 0 c2→o4=[]→WL r ops Q (o::rest) a w:=fun{yy c2} e1 e2=>by
  subst e1;subst e2;have go:∀{b:Option Addr} {n c:Nat},v1=.slice b n c→n≤c→WL r ops Q (o::rest) a w:=fun{b n c} e hn=>by subst e;have hr:=np (w:=w) (t:=t) (e:=70) (ty:=o.type) (b:=b) (y:=yy) (n:=n) (c:=c) (c2:=c2) hu hi hn;refine qb (v:=.slice b n c) (w2:=w) ?_ (h _ _ _ (A8.refl hc) (by rw[azD];exact h1)) (fun c hc=>by rw[ho]at hc;cases hc) hw;unfold execOp;simp[ho,resolve,invoke,builtin,hs,hx,hr]
  rcases h1 with⟨e,_⟩|⟨g,c,arr,e,_,_,_,hn,_⟩;·exact go e (ayp _)
  ·exact go e hn
 rcases h2 with⟨e1,e2⟩|⟨g2,c2,cW,e1,er,eB,_,_,_,_⟩;·exact zero e1 e2
 ·by_cases h0:o4.length=0;·exact zero (by rw[e1,h0]) (azo.1 h0)
  ·have yK:=eB.fit;have hl:((cW.extract 0 (0+o4.length*3)).toList).length=o4.length*3:=dK om
   have fin:∀{og:Option Nat} {n c:Nat} {cur:Array Value},n=Ls.length→(n=0∨bE cur 3 FE Ls)→(∀b,og=some b→col b=8∧wE.heap.size≤b)→∀g' c' bW w2,App w w2 og n 3 cur (cW.extract 0 (0+o4.length*3)).toList o4.length g' c' bW 70→WL r ops Q rest (a.put o.dst (.slice (some ⟨g',0,none⟩) (n+o4.length) c')) w2:=fun{og n c cur} hn wM hog g' c' bW w2 A=>by
    have hg:(col g'=8∧wE.heap.size≤g')∨w.heap.size≤g':=A.src.imp (fun q=>hog _ q.1) id
    have fp:∀b,b<w.heap.size→iQ col g' b=col b:=fun b hb=>by
     unfold iQ;split
     ·rename_i q;subst q;rcases hg with q|q
      ·exact q.1.symm
      ·omega
     ·rfl
    have hrw:=TV A hn rfl wM eB rfl hl;have hlen:(Ls++o4).length=n+o4.length:=by rw[ayG,hn]
    refine h _ w2 (iQ col g') ⟨A.turns.mono fun b _ q=>hog b q,fp,fun b hb=>(if_neg (by have:=A.fA.lt;omega)).trans (hc b (ayo A.turns.size hb)),fun b hb=>wK hc hb⟩ (.inr ⟨g',c',bW,by rw[hlen],A.fA,hrw,A.size,by rw[hlen];exact A.fit,if_pos rfl,?_⟩);rcases hg with q|q;·exact q.2
    ·omega
   rcases h1 with⟨e,e'⟩|⟨g,c,arr,e,hb,row,jv,hn,h8,C9⟩;·exact ek (m:=o4.length) (news:=(cW.extract 0 (0+o4.length*3)).toList) (v:=v1) (by rw[e];exact ny.nil) hs (hx.trans e1) hu DJ rfl hl (bA er 0 _) (row_one zA JI dd eB om) om dd (fin (c:=0) (cur:=#[]) (by rw[e'];rfl) (.inl rfl) (fun _ q=>by cases q)) (fun _=>by omega) ho hw
   ·exact ek (m:=o4.length) (news:=(cW.extract 0 (0+o4.length*3)).toList) (v:=v1) (by rw[e];exact ny.of hb jv hn) hs (hx.trans e1) hu DJ rfl hl (bA er 0 _) (row_one zA JI dd eB om) om dd (fin (c:=c) rfl (.inr row) (fun b q=>by cases q;exact⟨h8,C9⟩)) (fun q=>by cases q) ho hw
end
end
end
section
open Go.RowKit
variable{col c2:Nat→Nat}{g i n:Nat}{t ty:TypeId}{f:CF}{m m2:CV}{s s2 X s':bM}{x y:Operand}{l l' vs:List Value}{fa:Nat→Act}{z:Value}{f':FuncId}{xs:Array Operand}{ts:Array TypeId}{args:Array Value}{w w2:World}
def Ks(col:Nat→Nat):List (Nat×Nat)→Prop
 |[]=>True
 |(g,k)::l=>col g=k∧Ks col l
theorem Ks.of{col:Nat→Nat}:∀{KL:List (Nat×Nat)},Ks col KL→∀p∈KL,col p.1=p.2
 |[],_,_,h=>by cases h
 |(g,k)::l,h,p,hm=>by
  rcases ayE.1 hm with rfl|hm;·exact h.1
  ·exact Ks.of h.2 p hm
theorem Ks.mk{col:Nat→Nat}:∀{KL:List (Nat×Nat)},(∀p∈KL,col p.1=p.2)→Ks col KL
 |[],_=>trivial
 |(g,k)::l,h=>⟨h _ azs,Ks.mk fun p q=>h p (ay6 _ q)⟩
section
variable{w w2:World}{col et:Nat→Nat}{L:List (Nat×Array Value×TypeId)}{KL:List (Nat×Nat)}
theorem afP(hp:Hp w L)(e:L.map (·.1)=KL.map (·.1)):∀p∈KL,p.1<w.heap.size:=fun p hm=>by
 have:p.1∈L.map (·.1):=by rw[e];exact ayM.2 ⟨p,hm,rfl⟩
 obtain⟨x,hx,q⟩:=ayM.1 this;rw[←q];exact(hp.2 x hx).lt
theorem Ks.fp(kk:Ks col KL)(hp:Hp w L)(e:L.map (·.1)=KL.map (·.1))(h:∀b,b<w.heap.size→et b=col b):Ks et KL:=.mk fun p hm=>(h _ (afP hp e p hm)).trans (kk.of p hm)
theorem Ks.new{cs:Array Value}(kk:Ks col KL)(hp:Hp w L)(n:jr w w2 g cs t)(e:L.map (·.1)=KL.map (·.1):=by rfl):Ks (mark col g) ((g,7)::KL):=⟨dX,kk.fp hp e fun b hb=>cN (azc (ayu hb n.fresh))⟩
theorem PB{S:Nat→Prop}(kk:Ks col KL)(e:L.map (·.1)=KL.map (·.1))(h:∀p∈KL,¬S p.1):∀x∈L,¬S x.1:=fun x hx=>by
 have:x.1∈KL.map (·.1):=by rw[←e];exact ayM.2 ⟨x,hx,rfl⟩
 obtain⟨p,hp,q⟩:=ayM.1 this;rw[←q];exact h p hp
theorem mT(h:Out w col m s w2 et f m2 s2)(hp:Hp w L)(kk:Ks col KL)(e:L.map (·.1)=KL.map (·.1):=by rfl)(hk:KL.all (fun p=>p.2==0||p.2==7||p.2==8)=true:=by rfl):Hp w2 L∧Ks et KL:=⟨hp.turns h.tn (PB (S:=fun b=>own (col b)) kk e fun p hm=>by have h1:=kk.of p hm;have h2:=ayS.1 hk p hm;simp only[azy,beq_iff_eq]at h2;show ¬own (col p.1);unfold own;omega),kk.fp hp e h.fp⟩
theorem aT{wE:World}(A:A8 wE w col w2 et)(hp:Hp w L)(kk:Ks col KL)(e:L.map (·.1)=KL.map (·.1):=by rfl)(hk:KL.all (fun p=>p.2==0||p.2==7)=true:=by rfl):Hp w2 L∧Ks et KL:=⟨hp.turns A.turns (PB (S:=fun b=>col b=8∧wE.heap.size≤b) kk e fun p hm=>by have h1:=kk.of p hm;have h2:=ayS.1 hk p hm;simp only[azy,beq_iff_eq]at h2;show ¬(col p.1=8∧_);omega),kk.fp hp e A.fp⟩
end
section
variable{r:Option Nat}{ops:Array Oper}{Q:Exit→Act→World→Prop}{a a':Act}{w w0:World}{rest:List Oper}{o:Oper}{v:Value}{N:Option Tmp}{L L':List (Nat×Array Value×TypeId)}{KL:List (Nat×Nat)}{X:Nat→Prop}{col eU:Nat→Nat}{m0 m:CV}{s0 s:bM}{f:CF}
theorem bO(h:∀g w2 et,jr w w2 g l.toArray ty→Hp w2 ((g,l.toArray,ty)::L)→w0.heap.size≤g→bV X w0 eU m0 s0 w2 et f m s→Ks et ((g,7)::KL)→et=mark col g→WL r ops Q rest (fa g) w2)(ho:bV X w0 eU m0 s0 w col f m s:=by exact ho)(kk:Ks col KL:=by exact kk)(kg:o.op=.box ty x:=by rfl)(hx:uT a x=some v:=by rfl)(hc:pa v=some l:=by rfl)(hp:Hp w L:=by exact hp)(e:L.map (·.1)=KL.map (·.1):=by rfl)(hw:Region.wanted o (yielded ops a.tmps)=true:=by rfl)(ha:∀g,a.put o.dst (.pointer (some ⟨g,0,none⟩))=fa g:=by exact KI):WL r ops Q (o::rest) a w:=bx (fun g w2 n hp2=>h g w2 _ n hp2 (ayo ho.turns.size n.fresh) (ho.new n) (kk.new hp n e) rfl) kg hx hc hp hw ha
theorem aO(h:∀g w2 et,jr w w2 g l.toArray ty→Hp w2 ((g,l.toArray,ty)::L)→w0.heap.size≤g→bV X w0 eU m0 s0 w2 et f m s→Ks et ((g,7)::KL)→et=mark col g→WL r ops Q rest (fa g) w2)(ho:bV X w0 eU m0 s0 w col f m s:=by exact ho)(kk:Ks col KL:=by exact kk)(kg:o.op=.alloc ty:=by rfl)(hz:xH ty zT=some z:=by rfl)(hc:pa z=some l:=by rfl)(hp:Hp w L:=by exact hp)(e:L.map (·.1)=KL.map (·.1):=by rfl)(hw:Region.wanted o (yielded ops a.tmps)=true:=by rfl)(ha:∀g,a.put o.dst (.pointer (some ⟨g,0,none⟩))=fa g:=by exact KI):WL r ops Q (o::rest) a w:=al (fun g w2 n hp2=>h g w2 _ n hp2 (ayo ho.turns.size n.fresh) (ho.new n) (kk.new hp n e) rfl) kg hz hc hp hw ha
theorem sO(hk7:col g=7)(hf:w0.heap.size≤g∨X g)(h:∀w2,o1 w w2 g l'.toArray t→Hp w2 L'→bV X w0 eU m0 s0 w2 col f m s→WL r ops Q rest a' w2)(ho:bV X w0 eU m0 s0 w col f m s:=by exact ho)(kg:o.op=.store ty x y:=by rfl)(hx:uT a x=some (.pointer (some ⟨g,i,none⟩)):=by rfl)(hy:uT a y=some v:=by rfl)(hs:xH ty NP=some n:=by rfl)(hv:pa v=some vs:=by rfl)(hn:(vs.length==n)=true:=by rfl)(hp:Hp w L:=by exact hp)(hk:SA L g (z::l).toArray t l'.toArray L':=by exact Tu)(hi:Nat.ble (i+vs.length) (z::l).length=true:=by rfl)(h1:vs.all Value.oneCell'=true:=by rfl)(hl:Jc (z::l) i vs=l':=by(simp only[GX,GY,GZ];rfl))(hw:Region.wanted o (yielded ops a.tmps)=true:=by rfl)(ha:a.put o.dst undef=a':=by exact PT):WL r ops Q (o::rest) a w:=so (fun w2 p hp=>h w2 p hp (ho.put p hk7 hf)) kg hx hy hs hv hn hp hk hi h1 hl hw ha
theorem cO(hc:CP f' args w fun e w'=>e=.returned v∧Bw w w')(h:∀w2,Bw w w2→Hp w2 L→bV X w0 eU m0 s0 w2 col f m s→WL r ops Q rest a' w2)(ho:bV X w0 eU m0 s0 w col f m s:=by exact ho)(hp:Hp w L:=by exact hp)(kg:o.op=.call {callee:=.value (.func f'),args:=xs,argTypes:=ts}:=by rfl)(hf:ki f' KH=true:=by rfl)(ft:xs.map a.eval=args:=by first|(simp only[ayH,ayC,ayB];rfl)|simp only[ayH,ayB])(hw:Region.wanted o (yielded ops a.tmps)=true:=by rfl)(ha:a.put o.dst v=a':=by exact PT):WL r ops Q (o::rest) a w:=cl hc (fun w2 hb hp=>h w2 hb hp (ho.step hb)) hp kg hf ft hw ha
theorem mO(hc:q0 f' args w col f m s v s2)(h:∀w2 et m2,Out w col m s w2 et f m2 s2→Hp w2 L→bV X w0 eU m0 s0 w2 et f m2 s2→Ks et KL→WL r ops Q rest a' w2)(ho:bV X w0 eU m0 s0 w col f m s:=by exact ho)(kk:Ks col KL:=by exact kk)(hp:Hp w L:=by exact hp)(e:L.map (·.1)=KL.map (·.1):=by rfl)(hk:KL.all (fun p=>p.2==0||p.2==7||p.2==8)=true:=by rfl)(kg:o.op=.call {callee:=.value (.func f'),args:=xs,argTypes:=ts}:=by rfl)(hf:ki f' KH=true:=by rfl)(ft:xs.map a.eval=args:=by first|(simp only[ayH,ayC,ayB];rfl)|simp only[ayH,ayB])(hw:Region.wanted o (yielded ops a.tmps)=true:=by rfl)(ha:a.put o.dst v=a':=by exact PT):WL r ops Q (o::rest) a w:=ce hc (fun _ w2 ⟨c2,m2,he,h2⟩=>⟨v,he,by rw[ha];obtain⟨hp,kk⟩:=mT h2 hp kk e hk;exact h w2 c2 m2 h2 hp (ho.trans h2) kk⟩) kg hf ft hw
end
section
variable{r:Option Nat}{ops:Array Oper}{Q:Exit→Act→World→Prop}{a a':Act}{w w0:World}{rest:List Oper}{o:Oper}{v:Value}{N:Option Tmp}{L L':List (Nat×Array Value×TypeId)}{KL:List (Nat×Nat)}{X:Nat→Prop}{col eU:Nat→Nat}{m0 m:CV}{s0 s:bM}{f:CF}{G1:World→Prop}{G3:Nat→World→(Nat→Nat)→Prop}{G4:World→(Nat→Nat)→CV→Prop}
theorem EE(h:∀g w2 et,jr w w2 g l.toArray ty→Hp w2 ((g,l.toArray,ty)::L)→w0.heap.size≤g→bV X w0 eU m0 s0 w2 et f m s→Ks et ((g,7)::KL)→et=mark col g→G3 g w2 et)(ho:bV X w0 eU m0 s0 w col f m s:=by exact ho)(kk:Ks col KL:=by exact kk)(kg:o.op=.box ty x:=by rfl)(hx:uT a x=some v:=by rfl)(hc:pa v=some l:=by rfl)(hp:Hp w L:=by exact hp)(e:L.map (·.1)=KL.map (·.1):=by rfl)(hw:Region.wanted o (yielded ops a.tmps)=true:=by rfl)(ha:∀g,a.put o.dst (.pointer (some ⟨g,0,none⟩))=fa g:=by exact KI)(i:∀g w2 et,Hp w2 ((g,l.toArray,ty)::L)→Hd (G3 g w2 et)→WL r ops Q rest (fa g) w2:=by(intro g w2 et hp;exact GO)):WL r ops Q (o::rest) a w:=bO (fun g w2 c2 n hp h1 h2 h3 h4=>i g w2 c2 hp ⟨h g w2 c2 n hp h1 h2 h3 h4⟩) ho kk kg hx hc hp e hw ha
theorem mU(h:∀g w2 et,jr w w2 g l.toArray ty→Hp w2 ((g,l.toArray,ty)::L)→w0.heap.size≤g→bV X w0 eU m0 s0 w2 et f m s→Ks et ((g,7)::KL)→et=mark col g→G3 g w2 et)(ho:bV X w0 eU m0 s0 w col f m s:=by exact ho)(kk:Ks col KL:=by exact kk)(kg:o.op=.alloc ty:=by rfl)(hz:xH ty zT=some z:=by rfl)(hc:pa z=some l:=by rfl)(hp:Hp w L:=by exact hp)(e:L.map (·.1)=KL.map (·.1):=by rfl)(hw:Region.wanted o (yielded ops a.tmps)=true:=by rfl)(ha:∀g,a.put o.dst (.pointer (some ⟨g,0,none⟩))=fa g:=by exact KI)(i:∀g w2 et,Hp w2 ((g,l.toArray,ty)::L)→Hd (G3 g w2 et)→WL r ops Q rest (fa g) w2:=by(intro g w2 et hp;exact GO)):WL r ops Q (o::rest) a w:=aO (fun g w2 c2 n hp h1 h2 h3 h4=>i g w2 c2 hp ⟨h g w2 c2 n hp h1 h2 h3 h4⟩) ho kk kg hz hc hp e hw ha
theorem pF(hk7:col g=7)(hf:w0.heap.size≤g∨X g)(h:∀w2,o1 w w2 g l'.toArray t→Hp w2 L'→bV X w0 eU m0 s0 w2 col f m s→G1 w2)(ho:bV X w0 eU m0 s0 w col f m s:=by exact ho)(kg:o.op=.store ty x y:=by rfl)(hx:uT a x=some (.pointer (some ⟨g,i,none⟩)):=by rfl)(hy:uT a y=some v:=by rfl)(hs:xH ty NP=some n:=by rfl)(hv:pa v=some vs:=by rfl)(hn:(vs.length==n)=true:=by rfl)(hp:Hp w L:=by exact hp)(hk:SA L g (z::l).toArray t l'.toArray L':=by exact Tu)(hi:Nat.ble (i+vs.length) (z::l).length=true:=by rfl)(h1:vs.all Value.oneCell'=true:=by rfl)(hl:Jc (z::l) i vs=l':=by(simp only[GX,GY,GZ];rfl))(hw:Region.wanted o (yielded ops a.tmps)=true:=by rfl)(ha:a.put o.dst undef=a':=by exact PT)(i:∀w2,Hp w2 L'→Hd (G1 w2)→WL r ops Q rest a' w2:=by(intro w2 hp;exact GO)):WL r ops Q (o::rest) a w:=sO hk7 hf (fun w2 p hp ho=>i w2 hp ⟨h w2 p hp ho⟩) ho kg hx hy hs hv hn hp hk hi h1 hl hw ha
theorem iC(hc:CP f' args w fun e w'=>e=.returned v∧Bw w w')(h:∀w2,Bw w w2→Hp w2 L→bV X w0 eU m0 s0 w2 col f m s→G1 w2)(ho:bV X w0 eU m0 s0 w col f m s:=by exact ho)(hp:Hp w L:=by exact hp)(kg:o.op=.call {callee:=.value (.func f'),args:=xs,argTypes:=ts}:=by rfl)(hf:ki f' KH=true:=by rfl)(ft:xs.map a.eval=args:=by first|(simp only[ayH,ayC,ayB];rfl)|simp only[ayH,ayB])(hw:Region.wanted o (yielded ops a.tmps)=true:=by rfl)(ha:a.put o.dst v=a':=by exact PT)(i:∀w2,Hp w2 L→Hd (G1 w2)→WL r ops Q rest a' w2:=by(intro w2 hp;exact GO)):WL r ops Q (o::rest) a w:=cO hc (fun w2 hb hp ho=>i w2 hp ⟨h w2 hb hp ho⟩) ho hp kg hf ft hw ha
theorem jo(hc:q0 f' args w col f m s v s2)(h:∀w2 et m2,Out w col m s w2 et f m2 s2→Hp w2 L→bV X w0 eU m0 s0 w2 et f m2 s2→Ks et KL→G4 w2 et m2)(ho:bV X w0 eU m0 s0 w col f m s:=by exact ho)(kk:Ks col KL:=by exact kk)(hp:Hp w L:=by exact hp)(e:L.map (·.1)=KL.map (·.1):=by rfl)(hk:KL.all (fun p=>p.2==0||p.2==7||p.2==8)=true:=by rfl)(kg:o.op=.call {callee:=.value (.func f'),args:=xs,argTypes:=ts}:=by rfl)(hf:ki f' KH=true:=by rfl)(ft:xs.map a.eval=args:=by first|(simp only[ayH,ayC,ayB];rfl)|simp only[ayH,ayB])(hw:Region.wanted o (yielded ops a.tmps)=true:=by rfl)(ha:a.put o.dst v=a':=by exact PT)(i:∀w2 et m2,Hp w2 L→Hd (G4 w2 et m2)→WL r ops Q rest a' w2:=by(intro w2 et m2 hp;exact GO)):WL r ops Q (o::rest) a w:=mO hc (fun w2 c2 m2 h2 hp ho kk=>i w2 c2 m2 hp ⟨h w2 c2 m2 h2 hp ho kk⟩) ho kk hp e hk kg hf ft hw ha
end
theorem fM{v v':Value}(ho:Out w col m s w2 c2 f m2 X)(h1:v=v')(h2:X=s'):∃col' m',Ending.returned v=.returned v'∧Out w col m s w2 col' f m' s':=⟨c2,m2,by rw[h1],h2▸ho⟩
theorem fE{u:Value}{es es':List iY}{x x':Int}(ho:Out w col m s w2 c2 f m2 X)(ev:ix w w2 c2 u es)(h0:es=es')(h1:x=x')(h2:X=s'):∃col' m' v,Ending.returned (.tuple #[u,.int .i64 x])=.returned (.tuple #[v,.int .i64 x'])∧Out w col m s w2 col' f m' s'∧ix w w2 col' v es':=⟨c2,m2,u,by rw[h1],h2▸ho,h0▸ev⟩
end
section
open Go.RowKit
variable{g j i:Nat}{cs arr:Array Value}{t:TypeId}{c:Int→Int→Int}{o4 L:List Int}
def rL(n:Int):Array Value:=#[.int .i64 n]
theorem gP(e:Int):(rL e).size=1:=rfl
theorem JL(e:Int):∀u∈(rL e).toList,u.oneCell'=true:=by intro u hu;simp[rL]at hu;subst hu;rfl
def rh(w0 w:World)(col:Nat→Nat)(v:Value)(es:List Int):Prop:=(v=.slice none 0 0∧es=[])∨∃g c arr,v=.slice (some ⟨g,0,none⟩) es.length c∧bH w g arr 3∧bE arr 1 rL es∧arr.size=c*1∧es.length≤c∧col g=8∧w0.heap.size≤g
section
variable{w0 wE w w2:World}{col col' eU:Nat→Nat}{f:CF}{m m0:CV}{s s0:bM}{v:Value}{es:List Int}{X:Nat→Prop}
theorem rh.nil:rh wE w col (.slice none 0 0) []:=.inl ⟨rfl,rfl⟩
theorem rh.sl(h:rh wE w col v es):∃b n c,v=.slice b n c:=by
 rcases h with⟨e,_⟩|⟨g,c,_,e,_⟩;·exact⟨_,_,_,e⟩
 ·exact⟨_,_,_,e⟩
theorem rh.carry(h:rh wE w col v es)(hk:∀g arr,bH w g arr 3→col g=8→bH w2 g arr 3∧col' g=8):rh wE w2 col' v es:=h.imp id fun⟨g,c,arr,h1,h2,h3,h4,h5,h6,h7⟩=>⟨g,c,arr,h1,(hk _ _ h2 h6).1,h3,h4,h5,(hk _ _ h2 h6).2,h7⟩
theorem rh.below(h:rh wE w col v es)(hb:Bw w w2):rh wE w2 col v es:=h.carry fun g arr q k=>⟨q.below hb,k⟩
theorem rh.eH{N:Nat}(h:rh wE w col v es)(hb:eD N w w2):rh wE w2 col v es:=h.carry fun g arr q k=>⟨q.eH hb,k⟩
theorem rh.since{wF:World}(h:rh wE w col v es)(hs:wF.heap.size≤wE.heap.size):rh wF w col v es:=h.imp id fun⟨g,c,arr,h1,h2,h3,h4,h5,h6,h7⟩=>⟨g,c,arr,h1,h2,h3,h4,h5,h6,ayo hs h7⟩
theorem rh.oU(h:rh wE w col v es)(k:Out w col m s w2 col' f m0 s0):rh wE w2 col' v es:=h.carry fun g arr q e=>⟨q.turns k.tn fun o=>(by unfold own at o;omega),(k.fp _ q.lt).trans e⟩
theorem rh.new(h:rh wE w col v es)(n:jr w w2 g cs t):rh wE w2 (mark col g) v es:=h.carry fun b arr q e=>⟨q.below n.below,(cN (azc (ayu q.lt n.fresh))).trans e⟩
theorem rh.put(h:rh wE w col v es)(p:o1 w w2 g cs t)(hg:col g=7):rh wE w2 col v es:=h.carry fun b arr q e=>⟨q.turns p.turns fun o=>(by subst o;rw[hg]at e;cases e),e⟩
theorem rh.one{k:Int}(n:jr w w2 g #[.int .i64 k] 3)(hs:wE.heap.size≤w.heap.size):rh wE w2 (iQ col g) (.slice (some ⟨g,0,none⟩) 1 1) [k]:=.inr ⟨g,1,_,rfl,n.fA,⟨fun i x hx=>by
 cases i with
 |zero=>cases hx;rfl
 |succ i=>simp at hx,ayp 1⟩,rfl,ayp 1,if_pos rfl,by have:=n.fresh;omega⟩
theorem lG:(Tryz.prog.info? 3).map (fun i=>(i.zero,i.size,i.bytes))=some (some (.int .i64 0),1,8):=by kernel_rfl
theorem TZ{n k c:Nat}{cur cW:Array Value}{news:List Value}{og:Option Nat}(A:App w w2 og n 1 cur news k g c arr 3)(hn:n=es.length)(hk:k=o4.length)(h1:n=0∨bE cur 1 rL es)(h2:bE cW 1 rL o4)(mP:news=(cW.extract 0 (0+k*1)).toList)(hl:news.length=k*1):bE arr 1 rL (es++o4):=by
 subst hn;subst hk;have hf:=h2.fit;refine bE.tM gP (fun i x hx j hj=>?_) (by rw[ayG,A.size];exact ayD _ A.fit);rcases ayQ i es.length with q|q
 ·rw[ayV q]at hx;have gD:i*1+j<es.length*1:=by omega
  rw[A.old _ gD];rcases h1 with h1|h1;·omega
  ·exact h1.get hx hj
 ·rw[ayO q]at hx;have gD:=(ays.1 hx).1;have e:i*1+j=es.length*1+((i-es.length)*1+j):=by omega
  have PA:(i-es.length)*1+j<o4.length*1:=by omega
  rw[e,A.new _ om,mP,ext_get om PA,ayR];exact h2.get hx hj
section
variable{r:Option Nat}{ops:Array Oper}{Q:Exit→Act→World→Prop}{a:Act}{rest:List Oper}{o:Oper}
theorem aaO{wE':World}{x y:Operand}{v1 v2:Value}{Ls:List Int}(h1:rh wE w col v1 Ls)(h2:rh wE' w col v2 o4)(hc:rB col w)(hE:wE.heap.size≤w.heap.size)(Da:Ls.length+o4.length<10000000)(hs:a.eval x=v1)(hx:a.eval y=v2)(h:∀v' w2 col',A8 wE w col w2 col'→rh wE w2 col' v' (Ls++o4)→WL r ops Q rest (a.put o.dst v') w2)(hu:Tryz.prog.underlying t=some (.slice 3))(ho:o.op=.call {callee:=.builtin .append,args:=#[x,y],argTypes:=#[t,t]}:=by rfl)(hw:Region.wanted o (yielded ops a.tmps)=true:=by rfl):WL r ops Q (o::rest) a w:=by
 obtain⟨i,hi⟩:∃i,Tryz.prog.info? 3=some i:=by
  have:=lG;cases hq:Tryz.prog.info? 3 with
  |none=>rw[hq]at this;cases this
  |some i=>exact⟨i,rfl⟩
 have zero:∀{yy:Option Addr} {c2:Nat},v2=.slice yy 0 c2→o4=[]→WL r ops Q (o::rest) a w:=fun{yy c2} e1 e2=>by
  subst e1;subst e2;have go:∀{b:Option Addr} {n c:Nat},v1=.slice b n c→n≤c→WL r ops Q (o::rest) a w:=fun{b n c} e hn=>by subst e;have hr:=np (w:=w) (t:=t) (e:=3) (ty:=o.type) (b:=b) (y:=yy) (n:=n) (c:=c) (c2:=c2) hu hi hn;refine qb (v:=.slice b n c) (w2:=w) ?_ (h _ _ _ (A8.refl hc) (by rw[azD];exact h1)) (fun c hc=>by rw[ho]at hc;cases hc) hw;unfold execOp;simp[ho,resolve,invoke,builtin,hs,hx,hr]
  rcases h1 with⟨e,_⟩|⟨g,c,arr,e,_,_,_,hn,_⟩;·exact go e (ayp _)
  ·exact go e hn
 rcases h2 with⟨e1,e2⟩|⟨g2,c2,cW,e1,er,eB,_,_,_,_⟩;·exact zero e1 e2
 ·by_cases h0:o4.length=0;·exact zero (by rw[e1,h0]) (azo.1 h0)
  ·have yK:=eB.fit;have hl:((cW.extract 0 (0+o4.length*1)).toList).length=o4.length*1:=dK om
   have fin:∀{og:Option Nat} {n c:Nat} {cur:Array Value},n=Ls.length→(n=0∨bE cur 1 rL Ls)→(∀b,og=some b→col b=8∧wE.heap.size≤b)→∀g' c' bW w2,App w w2 og n 1 cur (cW.extract 0 (0+o4.length*1)).toList o4.length g' c' bW 3→WL r ops Q rest (a.put o.dst (.slice (some ⟨g',0,none⟩) (n+o4.length) c')) w2:=fun{og n c cur} hn wM hog g' c' bW w2 A=>by
    have hg:(col g'=8∧wE.heap.size≤g')∨w.heap.size≤g':=A.src.imp (fun q=>hog _ q.1) id
    have fp:∀b,b<w.heap.size→iQ col g' b=col b:=fun b hb=>by
     unfold iQ;split
     ·rename_i q;subst q;rcases hg with q|q
      ·exact q.1.symm
      ·omega
     ·rfl
    have hrw:=TZ A hn rfl wM eB rfl hl;have hlen:(Ls++o4).length=n+o4.length:=by rw[ayG,hn]
    refine h _ w2 (iQ col g') ⟨A.turns.mono fun b _ q=>hog b q,fp,fun b hb=>(if_neg (by have:=A.fA.lt;omega)).trans (hc b (ayo A.turns.size hb)),fun b hb=>wK hc hb⟩ (.inr ⟨g',c',bW,by rw[hlen],A.fA,hrw,A.size,by rw[hlen];exact A.fit,if_pos rfl,?_⟩);rcases hg with q|q;·exact q.2
    ·omega
   rcases h1 with⟨e,e'⟩|⟨g,c,arr,e,hb,row,jv,hn,h8,C9⟩;·exact ek (m:=o4.length) (news:=(cW.extract 0 (0+o4.length*1)).toList) (v:=v1) (by rw[e];exact ny.nil) hs (hx.trans e1) hu lG rfl hl (bA er 0 _) (row_one gP JL dd eB om) om dd (fin (c:=0) (cur:=#[]) (by rw[e'];rfl) (.inl rfl) (fun _ q=>by cases q)) (fun _=>by omega) ho hw
   ·exact ek (m:=o4.length) (news:=(cW.extract 0 (0+o4.length*1)).toList) (v:=v1) (by rw[e];exact ny.of hb jv hn) hs (hx.trans e1) hu lG rfl hl (bA er 0 _) (row_one gP JL dd eB om) om dd (fin (c:=c) rfl (.inr row) (fun b q=>by cases q;exact⟨h8,C9⟩)) (fun q=>by cases q) ho hw
end
end
def swI(L:List Int)(j:Nat):List Int:=(L.set j (L.getD (j-1) 0)).set (j-1) (L.getD j 0)
def tl(c:Int→Int→Int):Nat→List Int→List Int
 |0,L=>L
 |j+1,L=>if c (L.getD (j+1) 0) (L.getD j 0)<0 then tl c j (swI L (j+1))else L
def rM(c:Int→Int→Int):Nat→Nat→List Int→List Int
 |0,_,L=>L
 |f+1,i,L=>rM c f (i+1) (tl c i L)
def dY(c:Int→Int→Int)(L:List Int):List Int:=rM c (L.length-1) 1 L
theorem JM(L:List Int)(j:Nat):(swI L j).length=L.length:=by simp[swI]
theorem zB(c:Int→Int→Int):∀(j:Nat) (L:List Int),(tl c j L).length=L.length
 |0,L=>rfl
 |j+1,L=>by
  unfold tl;split;·rw[zB c j];exact JM _ _
  ·rfl
theorem zC(c:Int→Int→Int):∀(f i:Nat) (L:List Int),(rM c f i L).length=L.length
 |0,_,L=>rfl
 |f+1,i,L=>by unfold rM;rw[zC c f];exact zB c i L
theorem n4(c:Int→Int→Int)(L:List Int):(dY c L).length=L.length:=zC _ _ _ _
theorem T0(hj:0<j)(h:c (L.getD j 0) (L.getD (j-1) 0)<0):tl c j L=tl c (j-1) (swI L j):=by obtain⟨k,rfl⟩:∃k,j=k+1:=⟨j-1,by omega⟩;simp only[az2]at h ⊢;show(if _ then _ else _)=_;rw[if_pos h]
theorem Lu(h:¬c (L.getD j 0) (L.getD (j-1) 0)<0):tl c j L=L:=by
 cases j with
 |zero=>rfl
 |succ k=>show(if _ then _ else _)=_;rw[if_neg (by simpa using h)]
theorem rN(row:bE arr 1 rL L)(hi:i<L.length):arr[i]?=some (.int .i64 (L.getD i 0)):=by have:=row.get (j:=0) (ayq hi) dd;rw[aAs,azt]at this;rw[this];simp[rL,List.getD,hi]
theorem FF(row:bE arr 1 rL L)(hi:i<L.length)(v:Int):bE (bt arr i [.int .i64 v]) 1 rL (L.set i v):=by
 have hf:=row.fit;have h1:i+([.int .i64 v]:List Value).length≤arr.size:=by show i+1≤_;omega
 refine rs gP row hi (fun j hj=>?_) (fun j hj=>?_) (by rw[bp h1];exact hf);·exact aV (by show j<i∨i+1≤j;omega) h1
 ·have:j=0:=by omega
  subst this;rw[cy (k:=0) om (by show 0<1;omega) om];rfl
end
section
open Go.RowKit
variable{r r':aY}{k:Nat}{i:Int}{arr:Array Value}
theorem JN{vs:List Value}(hs:r'.sum=r.sum)(hk:k+vs.length≤45)(hv:∀j,j<45→(j<2∨34≤j)→(ae r')[j]?=if k≤j∧j<k+vs.length then vs[j-k]? else(ae r)[j]?)(KJ:k+vs.length≤2∨34≤k):bt (ae r) k vs=ae r':=by
 have jv:k+vs.length≤(ae r).size:=by rw[ao];exact hk
 apply ayW;intro j;rw[KQ j jv];rcases ayQ j 45 with hj|hj
 ·by_cases hj2:j<2∨34≤j;·exact(hv j hj hj2).symm
  ·rw[if_neg om]
   have e:∀q:aY,(ae q)[j]?=(eT q.sum)[j-2]?:=fun q=>by
    obtain⟨i,rfl⟩:∃i,j=i+2:=⟨j-2,by omega⟩;have h3:i<(eT q.sum).length:=by rw[bK];omega
    simp only[ae,az9,azK,azh,azj,az1,az2];rw[ayV h3]
   rw[e,e,hs]
 ·rw[if_neg om,ayN (by rw[ao];exact hj),ayN (by rw[ao];exact hj)]
theorem sQ{j:Nat}(hj:j<45)(h:j<2∨34≤j):(ae r)[j]?=([.int .i64 r.state,.int .i64 r.aa,.int .i64 r.after,.int .i64 r.aq,.int .i64 r.eo,.bool r.put,.int .i64 r.aP,.int .i64 r.since,.int .i64 r.aZ,.int .i64 r.end_,.int .i64 r.av.cI,.int .i64 r.av.da,.int .i64 r.av.support]:List Value)[if j<2 then j else j-32]?:=by
 have h':j=0∨j=1∨j=34∨j=35∨j=36∨j=37∨j=38∨j=39∨j=40∨j=41∨j=42∨j=43∨j=44:=by omega
 rcases h' with rfl|rfl|rfl|rfl|rfl|rfl|rfl|rfl|rfl|rfl|rfl|rfl|rfl;·exact oB r
 ·exact rk r
 ·exact OB r
 ·exact Ha r
 ·exact Hb r
 ·exact y8 r
 ·exact lv r
 ·exact wk r
 ·exact nP r
 ·exact Zr r
 ·exact Zs r
 ·exact Zt r
 ·exact Zu r
theorem pI{v:Value}(hs:r'.sum=r.sum)(hk:k<2∨(34≤k∧k<45))(hv:∀i,i<13→([.int .i64 r'.state,.int .i64 r'.aa,.int .i64 r'.after,.int .i64 r'.aq,.int .i64 r'.eo,.bool r'.put,.int .i64 r'.aP,.int .i64 r'.since,.int .i64 r'.aZ,.int .i64 r'.end_,.int .i64 r'.av.cI,.int .i64 r'.av.da,.int .i64 r'.av.support]:List Value)[i]?=if i=(if k<2 then k else k-32)then some v else([.int .i64 r.state,.int .i64 r.aa,.int .i64 r.after,.int .i64 r.aq,.int .i64 r.eo,.bool r.put,.int .i64 r.aP,.int .i64 r.since,.int .i64 r.aZ,.int .i64 r.end_,.int .i64 r.av.cI,.int .i64 r.av.da,.int .i64 r.av.support]:List Value)[i]?):bt (ae r) k [v]=ae r':=by
 refine JN hs (by simp only[ayJ,ayY];omega) (fun j hj h=>?_) (by simp only[ayJ,ayY];omega);have hq:(if j<2 then j else j-32)<13:=by split<;>omega
 rw[sQ hj h,sQ hj h,hv _ hq];have hl:([v]:List Value).length=1:=rfl;rw[hl];by_cases e:j=k;·subst e;rw[if_pos rfl,if_pos ⟨ayp _,aAd _⟩,aAn];rfl
 ·have h1:¬((if j<2 then j else j-32)=(if k<2 then k else k-32)):=by
   rcases h with h|h<;>rcases hk with hk|hk;·rw[if_pos h,if_pos hk];exact e
   ·rw[if_pos h,if_neg om];omega
   ·rw[if_neg om,if_pos hk];omega
   ·rw[if_neg om,if_neg om];omega
  have h2:¬(k≤j∧j<k+1):=by omega
  rw[if_neg h1,if_neg h2]
theorem Oq(r:aY)(v:Int):bt (ae r) 0 [.int .i64 v]=ae ⟨v,r.aa,r.sum,r.after,r.aq,r.eo,r.put,r.aP,r.since,r.aZ,r.end_,r.av⟩:=pI rfl om fun i hi=>by
 match i,hi with
 |0,_|1,_|2,_|3,_|4,_|5,_|6,_|7,_|8,_|9,_|10,_|11,_|12,_=>rfl
theorem Ze(r:aY)(v:Bool):bt (ae r) 37 [.bool v]=ae ⟨r.state,r.aa,r.sum,r.after,r.aq,r.eo,v,r.aP,r.since,r.aZ,r.end_,r.av⟩:=pI rfl om fun i hi=>by
 match i,hi with
 |0,_|1,_|2,_|3,_|4,_|5,_|6,_|7,_|8,_|9,_|10,_|11,_|12,_=>rfl
theorem KK(r:aY)(v:Int):bt (ae r) 38 [.int .i64 v]=ae ⟨r.state,r.aa,r.sum,r.after,r.aq,r.eo,r.put,v,r.since,r.aZ,r.end_,r.av⟩:=pI rfl om fun i hi=>by
 match i,hi with
 |0,_|1,_|2,_|3,_|4,_|5,_|6,_|7,_|8,_|9,_|10,_|11,_|12,_=>rfl
theorem Ot(r:aY)(v:Int):bt (ae r) 39 [.int .i64 v]=ae ⟨r.state,r.aa,r.sum,r.after,r.aq,r.eo,r.put,r.aP,v,r.aZ,r.end_,r.av⟩:=pI rfl om fun i hi=>by
 match i,hi with
 |0,_|1,_|2,_|3,_|4,_|5,_|6,_|7,_|8,_|9,_|10,_|11,_|12,_=>rfl
theorem Ou(r:aY)(v:Int):bt (ae r) 40 [.int .i64 v]=ae ⟨r.state,r.aa,r.sum,r.after,r.aq,r.eo,r.put,r.aP,r.since,v,r.end_,r.av⟩:=pI rfl om fun i hi=>by
 match i,hi with
 |0,_|1,_|2,_|3,_|4,_|5,_|6,_|7,_|8,_|9,_|10,_|11,_|12,_=>rfl
theorem Zf(r:aY)(v:Int):bt (ae r) 41 [.int .i64 v]=ae ⟨r.state,r.aa,r.sum,r.after,r.aq,r.eo,r.put,r.aP,r.since,r.aZ,v,r.av⟩:=pI rfl om fun i hi=>by
 match i,hi with
 |0,_|1,_|2,_|3,_|4,_|5,_|6,_|7,_|8,_|9,_|10,_|11,_|12,_=>rfl
theorem Ov(r:aY)(v:j3):bt (ae r) 42 [.int .i64 v.cI,.int .i64 v.da,.int .i64 v.support]=ae ⟨r.state,r.aa,r.sum,r.after,r.aq,r.eo,r.put,r.aP,r.since,r.aZ,r.end_,v⟩:=by
 refine JN (r':=⟨r.state,r.aa,r.sum,r.after,r.aq,r.eo,r.put,r.aP,r.since,r.aZ,r.end_,v⟩) rfl (by show 42+3≤45;omega) (fun j hj h=>?_) (.inr om);rw[sQ hj h,sQ hj h];have h':j=0∨j=1∨j=34∨j=35∨j=36∨j=37∨j=38∨j=39∨j=40∨j=41∨j=42∨j=43∨j=44:=by omega
 rcases h' with rfl|rfl|rfl|rfl|rfl|rfl|rfl|rfl|rfl|rfl|rfl|rfl|rfl<;>rfl
def NV(i:Int):Option jY:=if i=0 then some tr0 else if i=1 then some tr1 else none
def dt(i:Int):jY:=(NV i).getD tr0
theorem FG{t:jY}(h:NV i=some t):0≤i∧i<2∧NT[i.toNat]?=some t:=by
 unfold NV at h;split at h;·rename_i e;subst e;cases h;exact⟨by omega,by omega,rfl⟩
 ·split at h;·rename_i e;subst e;cases h;exact⟨by omega,by omega,rfl⟩
  ·cases h
theorem FH(h:NV i=none):¬(0≤i∧i<(NT.length:Int)):=by
 unfold NV at h;split at h;·cases h
 ·split at h;·cases h
  ·show ¬(0≤i∧i<(2:Int));omega
theorem zD(h:0≤i∧i<2):NT[i.toNat]?=some (dt i):=by
 have:i=0∨i=1:=by omega
 rcases this with rfl|rfl<;>rfl
theorem nq(row:bE arr 18 lA NT)(h:0≤i∧i<2)(hk:k<18):arr[i.toNat*18+k]?=(lA (dt i))[k]?:=row.get (zD h) hk
theorem T1(row:bE arr 18 lA NT)(h:0≤i∧i<2):arr.extract (i.toNat*18) (i.toNat*18+18)=lA (dt i):=row.ext _ _ (zD h)
theorem T2(row:bE arr 18 lA NT)(h:0≤i∧i<2):i.toNat*18+18≤arr.size:=row.le (i:=i.toNat) (by show _<2;omega)
section
variable{w:World}{col:Nat→Nat}{f:CF}{m:CV}{s:bM}
abbrev DN(k:FuncId)(args:Array Value)(w:World)(col:Nat→Nat)(f:CF)(m:CV)(s:bM)(es:List iY)(err:Int)(s':bM):Prop:=CP k args w fun e w'=>∃col' m' v,e=.returned (.tuple #[v,.int .i64 err])∧Out w col m s w' col' f m' s'∧ix w w' col' v es
abbrev PG(k:FuncId)(args:Array Value)(w:World)(col:Nat→Nat)(f:CF)(m:CV)(s:bM)(es:List iY)(s':bM):Prop:=CP k args w fun e w'=>∃col' m' v,e=.returned v∧Out w col m s w' col' f m' s'∧ix w w' col' v es
def gQ(s:bM)(i:Int):Int:=match bS s.L 0 i with|some x=>if x.state=1 then 0 else 9|none=>4
def jS(s:bM)(x:aY)(i st now:Int):aY:=⟨st,x.aa,x.sum,x.after,x.aq,x.eo,x.put,x.aP,x.since,x.aZ,now,bR s.P i⟩
def tU(s:bM)(x:aY)(i st now:Int):bM:=(s.rI (ej s.L 0 i (jS s x i st now))).nk (gH s.P i st now)
def j7(s:bM)(a i:Int):Int×bM:=
 match bS s.L 0 i with
 |none=>(4,s)
 |some x=>
  if x.state=1 then
   if x.aP=-1 then
    if dw s.fs s.K a (dt x.aa).cU=0 then(0,(s.iP (ir s.fs s.K a (dt x.aa).cU)).rI (ej s.L 0 i ⟨x.state,x.aa,x.sum,x.after,x.aq,x.eo,x.put,a,x.since,x.aZ,x.end_,x.av⟩))
    else(dw s.fs s.K a (dt x.aa).cU,s.iP (ir s.fs s.K a (dt x.aa).cU))
   else(5,s)
  else(9,s)
def eG(x:aY)(a:Int):Bool:=if x.aP=-1 then false else decide (x.aP=a)
def eQ(x:aY)(a:Int):Bool:=x.put&&decide (x.eo=a)
def eX(s:bM)(x:aY)(a:Int):List (Int×Int):=
 if eQ x a=true then(if eG x a=true then jB (jB s.fs a 10) a (dt x.aa).cU else jB s.fs a 10)
 else(if eG x a=true then jB s.fs a (dt x.aa).cU else s.fs)
def eY(x:aY)(a:Int):aY:=⟨x.state,x.aa,x.sum,x.after,x.aq,x.eo,if eQ x a=true then false else x.put,if eG x a=true then-1 else x.aP,x.since,x.aZ,x.end_,x.av⟩
def eu(s:bM)(a i:Int):Int×bM:=
 match bS s.L 0 i with
 |none=>(4,s)
 |some x=>
  if x.state=1 then(9,s)
  else if eQ x a=true then(0,(s.iP (eX s x a)).rI (ej s.L 0 i (eY x a)))
  else if eG x a=true then(0,(s.iP (eX s x a)).rI (ej s.L 0 i (eY x a)))
  else(8,s)
def gm(s:bM)(a t:Int)(h:bU)(n now:Int):(Int×Int)×bM:=
 if(NV t).isSome=true then
  if a<0 then((0,1),s)else if 10≤a then((0,1),s)else if n<0 then((0,1),s)else if 1000<n then((0,1),s)
  else if 12≤(s.L.length:Int)then((0,3),s)
  else if qp s.P (s.L.length:Int) 0=4 then
   if dw s.fs s.K a 10=0 then((((s.L.length:Int)),0),(((s.nk (gH s.P (s.L.length:Int) 0 now)).iP (ir s.fs s.K a 10)).nk (l8 (gH s.P (s.L.length:Int) 0 now) (s.L.length:Int) t)).rI (ej s.L 0 (s.L.length:Int) ⟨1,t,h,n,now,a,true,-1,-1,-1,0,⟨0,0,0⟩⟩))
   else((0,dw s.fs s.K a 10),(s.nk (gH s.P (s.L.length:Int) 0 now)).iP (ir s.fs s.K a 10))
  else((0,5),s.nk (gH s.P (s.L.length:Int) 0 now))
 else((0,1),s)
def eZ(s:bM)(i now:Int):(List iY×Int)×bM:=
 match bS s.L 0 i with
 |none=>(([],4),s)
 |some x=>if x.state=1 then(([⟨1,i,5⟩],0),tU s x i 5 now)else(([],9),s)
def B0(s:bM)(x:aY):List iY:=(if x.put=true then[⟨6,x.eo,dV s.fs x.eo 10⟩]else[])++(if x.aP=-1 then[]else[⟨6,x.aP,dV (if x.put=true then oP s.fs x.eo 10 else s.fs) x.aP (dt x.aa).cU⟩])
def FI(s:bM)(x:aY):List (Int×Int):=
 if x.aP=-1 then(if x.put=true then oP s.fs x.eo 10 else s.fs)
 else oP (if x.put=true then oP s.fs x.eo 10 else s.fs) x.aP (dt x.aa).cU
def B1(s:bM)(x:aY)(i now:Int):aY:=⟨6,x.aa,x.sum,x.after,x.aq,x.eo,false,-1,x.since,x.aZ,now,bR s.P i⟩
def i9(s:bM)(i now:Int):(List iY×Int)×bM:=
 match bS s.L 0 i with
 |none=>(([],4),s)
 |some x=>if x.state=1 then((⟨1,i,6⟩::B0 s x,0),((tU s x i 6 now).iP (FI s x)).rI (ej (tU s x i 6 now).L 0 i (B1 s x i now)))else(([],9),s)
end
end
end Go.Proofs.YtdkpbpjcbkibiaaGreatDoor.B
