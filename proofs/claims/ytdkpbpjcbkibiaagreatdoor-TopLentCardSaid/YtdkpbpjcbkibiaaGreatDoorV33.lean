/- Du -/
import Derived.Test.YtdkpbpjcbkibiaaGreatDoorV0
import Derived.Test.YtdkpbpjcbkibiaaGreatDoorV32
set_option linter.all false
set_option maxRecDepth 100000
set_option maxHeartbeats 4000000
namespace Go.Proofs.YtdkpbpjcbkibiaaGreatDoor.B
open Go.RowKit
section
open Go.RowKit
variable{arr:Array Value}{o cap ag:Nat}{w:World}{col:Nat→Nat}{t1:TypeId}
def Yl(w0 w:World)(v:Value)(L:List cS):Prop:=(v=.slice none 0 0∧L=[])∨∃g c arr,v=.slice (some ⟨g,0,none⟩) L.length c∧bH w g arr 109∧bE arr 36 cx L∧w0.heap.size≤g
theorem yR(now:Int):∀(m n:Nat) (A:List cS),n≤m→n≤A.length→(∀(j:Nat) x,j<n→A[j]?=some x→x.at_≤now)→(n=A.length∨n=m∨∃x,A[n]?=some x∧¬x.at_≤now)→oy now m A=n
 |0,n,A,h1,_,_,_=>by cases A<;>(have:n=0:=by omega)<;>subst this<;>rfl
 |m+1,n,[],_,h2,_,_=>by
  have:n=0:=by simpa using h2
  subst this;rfl
 |m+1,n,t::A,h1,h2,h3,h4=>by
  cases n with
  |zero=>
   unfold oy;rcases h4 with h4|h4|⟨x,hx,h4⟩;·simp at h4
   ·omega
   ·simp at hx;subst hx;rw[if_neg h4]
  |succ n=>
   unfold oy;rw[if_pos (h3 0 t om rfl)];congr 1;refine yR now m n A om (by simpa using h2) (fun j x hj hx=>h3 (j+1) x om (by simpa using hx)) ?_;rcases h4 with h4|h4|⟨x,hx,h4⟩;·exact .inl (by simpa using h4)
   ·exact .inr (.inl om)
   ·exact .inr (.inr ⟨x,by simpa using hx,h4⟩)
theorem Kf(now:Int):∀(m:Nat) (A:List cS),oy now m A≤A.length∧oy now m A≤m
 |0,A=>by cases A<;>simp[oy]
 |m+1,[]=>by simp[oy]
 |m+1,t::A=>by
  unfold oy;split;·have:=Kf now m A;simp;omega
  ·simp
theorem kG.Rg{α:Type}{k n:Nat}{enc:α→Array Value}{L:List α}(h:kG arr o k enc L)(hn:n≤L.length)(hc:L.length≤cap):kG arr (if cap=n then o else o+n*k) k enc (L.drop n):=by
 split;·have:L.drop n=[]:=azb om;rw[this];exact⟨by have:=h.1;simp;omega,fun i x hx=>by cases hx⟩
 ·exact h.drop hn
theorem abZ{r:Nat}{A:List cS}{t:TypeId}(xR:bH w ag #[.slice (some ⟨r,o,none⟩) A.length cap] t1)(hb:bH w r arr t)(Ke:col r=0)(tZ:col ag=5)(row:kG arr o 36 cx A)(mB:A.length≤cap)(hlen:A.length≤12)(bG:rB col w)(now:Int):CP 47 #[pA ag 0,i6 now,i6 2] w fun e w'=>∃v,e=.returned v∧Yl w w' v (A.take (oy now 2 A))∧AC w' col ag (A.drop (oy now 2 A))∧au (fun b=>b=ag) w w':=by
 have fC:ag≠r:=fun e=>by rw[e,Ke]at tZ;cases tZ
 have hp:Hp w [(ag,#[.slice (some ⟨r,o,none⟩) A.length cap],t1),(r,arr,t)]:=(Hp.one hb).cons xR (by simp[fC]);have hT:=au.refl (fun b=>b=ag) w;have hf:=row.1;have fp:=xR.lt;refine fe Tryz.func47 Tryz.ntmps47 ?_;refine go ?_;refine cT (fun m' a' w'=>∃(n:Nat) (lW r9 lj kt iD u16 iL ig jd je iE iF iG kK k3 nA nC o3 pk qI ru u32 rv ry Ce Cf:Value),a'=(fR #[pA ag 0,i6 now,i6 2,undef,undef,undef,.slice none 0 0,i6 (n:Int),undef,pA ag 0,.bool false,lW,r9,lj,kt,iD,u16,iL,ig,jd,je,iE,iF,iG,kK,k3,nA,nC,o3,pk,qI,ru,u32,rv,ry,Ce,Cf,undef,undef,undef,undef,undef,undef,undef,undef,undef,undef,undef,undef,undef,undef,undef,undef,undef])∧m'=A.length-n∧Hp w' [(ag,#[.slice (some ⟨r,o,none⟩) A.length cap],t1),(r,arr,t)]∧au (fun b=>b=ag) w w'∧n≤A.length∧n≤2∧(∀(j:Nat) x,j<n→A[j]?=some x→x.at_≤now)) _ ⟨0,undef,undef,undef,undef,undef,undef,undef,undef,undef,undef,undef,undef,undef,undef,undef,undef,undef,undef,undef,undef,undef,undef,undef,undef,undef,undef,rfl,rfl,hp,hT,om,om,(fun _ _ q=>absurd q (ay7 _))⟩ ?_;rintro m2 _ w1 ⟨n,lW,r9,lj,kt,iD,u16,iL,ig,jd,je,iE,iF,iG,kK,k3,nA,nC,o3,pk,qI,ru,u32,rv,ry,Ce,Cf,rfl,rfl,hp,hT,hn,EC,ha⟩;refine go ?_;by_cases c3:(n:Int)<(A.length:Int)
 ·refine go ?_;by_cases c4:(n:Int)<2
  ·refine go ?_;obtain⟨x_n,ab0⟩:∃x,A[n]?=some x:=⟨_,ayq om⟩;refine ak (pA r (o+n*36)) (cX (l:=A.length) (j:=(n:Int)) (off:=o) (sz:=36) U106 kr rfl rfl om om (by simp)) ?_;refine ak (i6 x_n.at_) (ay (hp.at 1) ((row.2 n x_n ab0 1 dd).trans (Aj x_n)) U3 rfl) ?_;by_cases c5:x_n.at_≤now;·refine go ?_;refine ak (i6 ((n+1:Nat):Int)) (aC (m:=(n:Int)) (n:=1) (s:=((n+1:Nat):Int)) rfl rfl (by unfold wrap64;omega)) ?_;exact⟨_,om,n+1,_,_,_,_,_,_,_,_,_,_,_,_,_,_,_,_,_,_,_,_,_,_,_,_,_,_,rfl,rfl,hp,hT,om,om,(fun j y q r=>by rcases ayQ j n with e|e;exact ha j y e r;(have e2:j=n:=by omega);subst e2;rw[ab0]at r;cases r;simpa using c5)⟩
   refine go ?_;refine ak (.slice (some ⟨r,o,none⟩) n cap) (dD (n:=n) (c:=cap) (off:=o) (len:=A.length) (cap:=cap) (sz:=36) (l:=0) (h:=n) (m:=cap) (d:=o) U106 kr rfl (mY (len:=A.length) (cap:=cap) (h:=n) rfl om) wj om om) ?_;have gB:=hT.size;have rf:=hp;refine ce ((by have q:=uC (cap:=cap) (hp.at 1) (row.take hn) (by rw[ayZ];omega);rw[ayZ,azE hn]at q;exact q)) ?_;rintro _ w6 ⟨r2,c2,cW,rfl,gE,qZ,iq⟩;refine⟨_,rfl,ab ?_⟩;have hp:=hp.below iq;have hT:=hT.step iq;have hp:=hp.cons gE.fA (fun hm=>by obtain⟨x,hx,ex⟩:=ayM.1 hm;have h8:=(rf.2 x hx).lt;have ED:x.1=r2:=ex;omega);have bI:w.heap.size≤r2:=ayo gB qZ;refine go ?_;refine ak (.slice (some ⟨r,(if cap=n then o else o+n*36),none⟩) (A.length-n) (cap-n)) (dD (n:=A.length-n) (c:=cap-n) (off:=o) (len:=A.length) (cap:=cap) (sz:=36) (l:=n) (h:=A.length) (m:=cap) (d:=(if cap=n then o else o+n*36)) U106 kr rfl (fl (len:=A.length) (cap:=cap) (l:=n) rfl om) (by by_cases e:cap=n<;>simp[e]) om om) ?_;refine tJ fun w8 p7 hp=>?_;have hT:=hT.put p7 (.inl rfl);refine p1 ?_;have e:oy now 2 A=n:=yR now 2 n A EC hn ha (.inr (.inr ⟨x_n,ab0,by simpa using c5⟩));rw[e];exact⟨_,rfl,.inr ⟨r2,c2,cW,by rw[ayZ,azE hn],hp.at 0,gE.row,bI⟩,⟨.inl ⟨_,r,(if cap=n then o else o+n*36),cap-n,arr,_,by rw[azr];exact hp.at 1,hp.at 2,Ke,row.Rg hn mB,by rw[azr];omega⟩,tZ⟩,hT⟩
  refine go ?_;refine ak (.slice (some ⟨r,o,none⟩) n cap) (dD (n:=n) (c:=cap) (off:=o) (len:=A.length) (cap:=cap) (sz:=36) (l:=0) (h:=n) (m:=cap) (d:=o) U106 kr rfl (mY (len:=A.length) (cap:=cap) (h:=n) rfl om) wj om om) ?_;have gB:=hT.size;have rf:=hp;refine ce ((by have q:=uC (cap:=cap) (hp.at 1) (row.take hn) (by rw[ayZ];omega);rw[ayZ,azE hn]at q;exact q)) ?_;rintro _ w9 ⟨r2,c2,cW,rfl,gE,qZ,iq⟩;refine⟨_,rfl,ab ?_⟩;have hp:=hp.below iq;have hT:=hT.step iq;have hp:=hp.cons gE.fA (fun hm=>by obtain⟨x,hx,ex⟩:=ayM.1 hm;have h8:=(rf.2 x hx).lt;have ED:x.1=r2:=ex;omega);have bI:w.heap.size≤r2:=ayo gB qZ;refine go ?_;refine ak (.slice (some ⟨r,(if cap=n then o else o+n*36),none⟩) (A.length-n) (cap-n)) (dD (n:=A.length-n) (c:=cap-n) (off:=o) (len:=A.length) (cap:=cap) (sz:=36) (l:=n) (h:=A.length) (m:=cap) (d:=(if cap=n then o else o+n*36)) U106 kr rfl (fl (len:=A.length) (cap:=cap) (l:=n) rfl om) (by by_cases e:cap=n<;>simp[e]) om om) ?_;refine tJ fun ot KU hp=>?_;have hT:=hT.put KU (.inl rfl);refine p1 ?_;have e:oy now 2 A=n:=yR now 2 n A EC hn ha (om);rw[e];exact⟨_,rfl,.inr ⟨r2,c2,cW,by rw[ayZ,azE hn],hp.at 0,gE.row,bI⟩,⟨.inl ⟨_,r,(if cap=n then o else o+n*36),cap-n,arr,_,by rw[azr];exact hp.at 1,hp.at 2,Ke,row.Rg hn mB,by rw[azr];omega⟩,tZ⟩,hT⟩
 refine go ?_;refine ak (.slice (some ⟨r,o,none⟩) n cap) (dD (n:=n) (c:=cap) (off:=o) (len:=A.length) (cap:=cap) (sz:=36) (l:=0) (h:=n) (m:=cap) (d:=o) U106 kr rfl (mY (len:=A.length) (cap:=cap) (h:=n) rfl om) wj om om) ?_;have gB:=hT.size;have rf:=hp;refine ce ((by have q:=uC (cap:=cap) (hp.at 1) (row.take hn) (by rw[ayZ];omega);rw[ayZ,azE hn]at q;exact q)) ?_;rintro _ pW ⟨r2,c2,cW,rfl,gE,qZ,iq⟩;refine⟨_,rfl,ab ?_⟩;have hp:=hp.below iq;have hT:=hT.step iq;have hp:=hp.cons gE.fA (fun hm=>by obtain⟨x,hx,ex⟩:=ayM.1 hm;have h8:=(rf.2 x hx).lt;have ED:x.1=r2:=ex;omega);have bI:w.heap.size≤r2:=ayo gB qZ;refine go ?_;refine ak (.slice (some ⟨r,(if cap=n then o else o+n*36),none⟩) (A.length-n) (cap-n)) (dD (n:=A.length-n) (c:=cap-n) (off:=o) (len:=A.length) (cap:=cap) (sz:=36) (l:=n) (h:=A.length) (m:=cap) (d:=(if cap=n then o else o+n*36)) U106 kr rfl (fl (len:=A.length) (cap:=cap) (l:=n) rfl om) (by by_cases e:cap=n<;>simp[e]) om om) ?_;refine tJ fun ui BL hp=>?_;have hT:=hT.put BL (.inl rfl);refine p1 ?_;have e:oy now 2 A=n:=yR now 2 n A EC hn ha (om);rw[e];exact⟨_,rfl,.inr ⟨r2,c2,cW,by rw[ayZ,azE hn],hp.at 0,gE.row,bI⟩,⟨.inl ⟨_,r,(if cap=n then o else o+n*36),cap-n,arr,_,by rw[azr];exact hp.at 1,hp.at 2,Ke,row.Rg hn mB,by rw[azr];omega⟩,tZ⟩,hT⟩
theorem ab1(xR:bH w ag #[.slice none 0 0] t1)(tZ:col ag=5)(bG:rB col w)(now:Int):CP 47 #[pA ag 0,i6 now,i6 2] w fun e w'=>∃v,e=.returned v∧Yl w w' v ([].take (oy now 2 []))∧AC w' col ag ([].drop (oy now 2 []))∧au (fun b=>b=ag) w w':=by have hp:Hp w [(ag,#[.slice none 0 0],t1)]:=Hp.one xR;have hT:=au.refl (fun b=>b=ag) w;have fp:=xR.lt;refine fe Tryz.func47 Tryz.ntmps47 ?_;refine go ?_;refine iR 1 ?_;refine go ?_;refine ak (.slice none 0 0) (tL U106 kr rfl (mY (h:=0) rfl (ayp 0))) ?_;have gB:=hT.size;have rf:=hp;refine ce (Eh) ?_;rintro _ w1 ⟨rfl,iq⟩;refine⟨_,rfl,ab ?_⟩;have hp:=hp.below iq;have hT:=hT.step iq;refine go ?_;refine ak (.slice none 0 0) (tL U106 kr rfl (fl (l:=0) rfl (ayp 0))) ?_;refine tJ fun w3 p2 hp=>?_;have hT:=hT.put p2 (.inl rfl);refine p1 ?_;exact⟨_,rfl,.inl ⟨rfl,rfl⟩,⟨.inr ⟨rfl,_,hp.at 0⟩,tZ⟩,hT⟩
section
variable{w:World}{col:Nat→Nat}{f:CF}{m:CV}{s:bM}
theorem Rh(A:List cS)(x:cS)(h:A.length≤12):(dQ A x).2.length≤12:=by
 unfold dQ;repeat' split
 all_goals first|exact h|(rw[nu (fj A x)];omega)
theorem ab2(h:Ch w col f m s)(x:cS):q0 89 #[.pointer (some ⟨f.ag,0,none⟩),.agg (cx x)] w col f m s (.int .i64 (dQ s.A x).1) (s.DE (dQ s.A x).2):=by
 have key:CP 89 #[.pointer (some ⟨f.ag,0,none⟩),.agg (cx x)] w fun e w'=>e=.returned (.int .i64 (dQ s.A x).1)∧AC w' col f.ag (dQ s.A x).2∧au (fun b=>b=f.ag) w w':=by
  rcases h.BX.l with⟨t,r,o,cap,arr,t',h1,h2,h3,h4,h5⟩|⟨e,t,h1⟩;·exact abX h1 h2 h3 h.BX.ca h4 h5 h.inv.al h.bG x
  ·rw[e];exact abY h1 h.BX.ca h.bG x
 exact key.mono fun _ _ ⟨he,ha,ht⟩=>⟨col,m,he,h.XM ha ht (fun b q=>by subst q;exact h.BX.ca) (h.inv.DE (Rh s.A x h.inv.al))⟩
theorem ag2(h:Ch w col f m s)(now:Int):CP 47 #[.pointer (some ⟨f.ag,0,none⟩),.int .i64 now,.int .i64 2] w fun e w'=>∃col' m' v,e=.returned v∧Out w col m s w' col' f m' (s.DE (s.A.drop (oy now 2 s.A)))∧(∀b,col' b=col b)∧Yl w w' v (s.A.take (oy now 2 s.A)):=by
 have key:CP 47 #[.pointer (some ⟨f.ag,0,none⟩),.int .i64 now,.int .i64 2] w fun e w'=>∃v,e=.returned v∧Yl w w' v (s.A.take (oy now 2 s.A))∧AC w' col f.ag (s.A.drop (oy now 2 s.A))∧au (fun b=>b=f.ag) w w':=by
  rcases h.BX.l with⟨t,r,o,cap,arr,t',h1,h2,h3,h4,h5⟩|⟨e,t,h1⟩;·exact abZ h1 h2 h3 h.BX.ca h4 h5 h.inv.al h.bG now
  ·rw[e];exact ab1 h1 h.BX.ca h.bG now
 exact key.mono fun _ _ ⟨v,he,hv,ha,ht⟩=>⟨col,m,v,he,h.XM ha ht (fun b q=>by subst q;exact h.BX.ca) (h.inv.DE (by have:=h.inv.al;simp;omega)),fun _=>rfl,hv⟩
end
end
end Go.Proofs.YtdkpbpjcbkibiaaGreatDoor.B
