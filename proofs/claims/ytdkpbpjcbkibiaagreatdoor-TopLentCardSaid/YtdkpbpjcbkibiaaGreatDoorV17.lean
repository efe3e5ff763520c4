/- Rf2 -/
import Derived.Test.YtdkpbpjcbkibiaaGreatDoorV1
import Derived.Test.YtdkpbpjcbkibiaaGreatDoorV12
import Derived.Test.YtdkpbpjcbkibiaaGreatDoorV16
set_option linter.all false
set_option maxRecDepth 100000
set_option maxHeartbeats 4000000
namespace Go.Proofs.YtdkpbpjcbkibiaaGreatDoor.B
open Go.RowKit
section
open Go.RowKit
variable{w:World}{col:Nat→Nat}{f:CF}{m:CV}{s:bM}{i now:Int}
theorem H3(h:Ch w col f m s)(i z now:Int){x:aY}(hx:bS s.L 0 i=some x):q0 92 #[pA f.rp 0,pA f.vp 0,i6 i,i6 z,i6 now] w col f m s (.agg #[.int .i64 1,.int .i64 i,.int .i64 z]) (tU s x i z now):=by have ho:Out w col m s w col f m s:=bV.start h;obtain⟨tb,cap,arr,tt,DZ,row,EH,B9⟩:=h.ref.rp;have hp:Hp w [(f.rp,#[.slice (some ⟨tb,0,none⟩) 2 cap,.pointer (some ⟨f.rl,0,none⟩)],103),(tb,arr,tt)]:=DZ;have bT:col f.rp=0:=EH;have ez:col tb=0:=B9;have Ba:=h.inv.lt _ (ayw (h.inv.HI.1 hx).2);simp only at Ba;refine fe Tryz.func92 Tryz.ntmps92 ?_;refine go ?_;have kk:Ks col [(f.rp,0),(tb,0)]:=⟨bT,ez,trivial⟩;refine mU fun g1 w2 dh n3 hp dq ho kk cF=>?_;refine iC (jC ho.ch.ref hx) fun w5 nQ hp ho=>?_;refine mU fun g7 w8 me n9 hp mg ho kk Qf=>?_;refine sf (bL x) (ao _) rfl fun pW Ht hp=>?_;have ho:=ho.put Ht kk.1 (.inl mg);refine iC (yM ho.ch.gN i) fun oD eI hp ho=>?_;refine Bk (ae (aY.mk z x.aa x.sum x.after x.aq x.eo x.put x.aP x.since x.aZ x.end_ x.av)) fun qf Fm hp=>?_;have ho:=ho.put Fm kk.1 (.inl mg);refine Bk (ae (aY.mk z x.aa x.sum x.after x.aq x.eo x.put x.aP x.since x.aZ now x.av)) fun s7 LM hp=>?_;have ho:=ho.put LM kk.1 (.inl mg);refine Bk (ae (aY.mk z x.aa x.sum x.after x.aq x.eo x.put x.aP x.since x.aZ now (bR s.P i))) fun re pY hp=>?_;have ho:=ho.put pY kk.1 (.inl mg);refine gu 6 ?_;refine gq ?_;refine qs (.agg (ae (aY.mk z x.aa x.sum x.after x.aq x.eo x.put x.aP x.since x.aZ now (bR s.P i)))) (fun w' h'=>aQ (i:=0) (n:=45) ((hp.at 0).below h') (bF (aY.mk z x.aa x.sum x.after x.aq x.eo x.put x.aP x.since x.aZ now (bR s.P i))) (by rw[ao];exact ayp _) U62 kr rfl) ?_;refine nl fun uG fw hp=>?_;have ho:=ho.step fw;refine jo (iw ho.ch (i:=i) (x:=(aY.mk z x.aa x.sum x.after x.aq x.eo x.put x.aP x.since x.aZ now (bR s.P i))) hx (by show 0≤x.aa∧x.aa<2;exact Ba)) fun wu vI m25 agj hp ho kk=>?_;refine jo (v:=i6 (qp s.P i z)) (JH ho.ch i z now) fun BU Cb m29 asL hp ho kk=>?_;refine ak (.agg #[i6 1,i6 i,i6 z]) kr ?_;refine pF kk.2.1 (.inl dq) fun FN GN hp ho=>?_;refine kh (el (s:=10) (ty:=70) (cs:=#[i6 1,i6 i,i6 z]) (hp.at 1) U70 kr) ?_;exact⟨Cb,m29,rfl,ho⟩
theorem zR(h:gQ s i=0):∃x,bS s.L 0 i=some x∧x.state=1:=by
 unfold gQ at h;split at h
 ·rename_i x hx;split at h;·exact⟨x,hx,by assumption⟩
  ·cases h
 ·cases h
theorem H4(h:¬gQ s i=0):eZ s i now=(([],gQ s i),s):=by
 unfold gQ at*;unfold eZ;cases hx:bS s.L 0 i with
 |none=>rfl
 |some x=>
  simp only[hx]at h ⊢;split;·rename_i q;rw[if_pos q]at h;exact absurd rfl h
  ·rfl
theorem Qg(h:¬gQ s i=0):i9 s i now=(([],gQ s i),s):=by
 unfold gQ at*;unfold i9;cases hx:bS s.L 0 i with
 |none=>rfl
 |some x=>
  simp only[hx]at h ⊢;split;·rename_i q;rw[if_pos q]at h;exact absurd rfl h
  ·rfl
theorem Cc(h:Ch w col f m s)(i now:Int):DN 186 #[pA f.rp 0,pA f.vp 0,i6 i,i6 now] w col f m s ((eZ s i now).1.1) ((eZ s i now).1.2) ((eZ s i now).2):=by
 have ho:Out w col m s w col f m s:=bV.start h;obtain⟨tb,cap,arr,tt,DZ,row,EH,B9⟩:=h.ref.rp;have hp:Hp w [(f.rp,#[.slice (some ⟨tb,0,none⟩) 2 cap,.pointer (some ⟨f.rl,0,none⟩)],103),(tb,arr,tt)]:=DZ;have bT:col f.rp=0:=EH;have ez:col tb=0:=B9;refine fe Tryz.func186 Tryz.ntmps186 ?_;refine go ?_;refine iC (zP ho.ch i) fun w1 er hp ho=>?_;by_cases c3:gQ s i=0
 ·obtain⟨x,hx,hx1⟩:=zR c3;refine go ?_;have kk:Ks col [(f.rp,0),(tb,0)]:=⟨bT,ez,trivial⟩;refine jo (H3 ho.ch i 5 now hx) fun w4 agt m6 ho7 hp ho kk=>?_;refine dT (n:=1) (cells:=#[i6 1,i6 i,i6 5]) (e:=70) kr (fun g8 w9 N4=>ab ?_);obtain⟨FT,zS⟩:∃z,z=iQ agt g8:=⟨_,rfl⟩;have A13:A8 w w4 agt w9 FT:=by rw[zS];exact A8.kS N4 ho.ch.bG
  have am4:ix w w9 FT (.slice (some ⟨g8,0,none⟩) 1 1) [iY.mk 1 i 5]:=by rw[zS];exact ix.one N4 ho.turns.size
  obtain⟨hp,kk⟩:=aT A13 hp kk;have ho:=ho.j6 A13 (fun b _ q=>.inl q);refine go ?_;refine p2 ?_;refine fE ho am4 ?_ ?_ ?_<;>simp[eZ,hx,hx1]<;>and_intros<;>rfl
 refine go ?_;refine p2 ?_;have e:=H4 (now:=now) c3;rw[e];exact⟨col,m,_,rfl,ho,ix.nil⟩
theorem FU(h:bU):(aJ h).extract 0 (0+32)=aJ h:=by have:=bd h;simp only[ayR];rw[←this];simp
theorem L0(t:Int)(hs:bU)(n now a:Int)(w:World):(Instr.build 62 #[(0,.int .i64 1),(1,.int .i64 t),(2,.agg (aJ hs)),(3,.int .i64 n),(4,.int .i64 now),(5,.int .i64 a),(6,.bool true),(7,.int .i64 (-1)),(8,.int .i64 (-1)),(9,.int .i64 (-1))]).run Tryz.prog w=.ok (.agg (ae ⟨1,t,hs,n,now,a,true,-1,-1,-1,0,⟨0,0,0⟩⟩)) w:=by obtain⟨bs,hl⟩:=hs;obtain⟨b0,b1,b2,b3,b4,b5,b6,b7,b8,b9,ZI,Xy,ZJ,ZK,ZL,Xz,ZM,ZN,XA,ZO,ZP,ZQ,XB,ZR,OO,ZS,ZT,ZU,TH,ZV,TI,ZW,rfl⟩:=zd bs hl;kernel_rfl
theorem Qh(h:Ch w col f m s)(a t:Int)(hs:bU)(n now:Int):q0 74 #[pA f.rp 0,pA f.lp 0,pA f.vp 0,i6 a,i6 t,.agg (aJ hs),i6 n,i6 now] w col f m s (.tuple #[.int .i64 (gm s a t hs n now).1.1,.int .i64 (gm s a t hs n now).1.2]) ((gm s a t hs n now).2):=by
 have ho:Out w col m s w col f m s:=bV.start h;obtain⟨tb,cap,arr,tt,DZ,row,EH,B9⟩:=h.ref.rp;have hp:Hp w [(f.rp,#[.slice (some ⟨tb,0,none⟩) 2 cap,.pointer (some ⟨f.rl,0,none⟩)],103),(tb,arr,tt)]:=DZ;have bT:col f.rp=0:=EH;have ez:col tb=0:=B9;refine fe Tryz.func74 Tryz.ntmps74 ?_;refine go ?_;refine lR (v:=.agg (aJ hs)) rfl (fun g1 w2 n3=>ab ?_);have n3:jr _ _ _ (aJ hs) _:=n3;have dq:=ayo ho.turns.size n3.fresh;obtain⟨dh,cF⟩:∃z,z=mark col g1:=⟨_,rfl⟩;have bT:dh f.rp=0:=by rw[cF];exact(cN (azc (ayu (hp.at 0).lt n3.fresh))).trans bT
 have ez:dh tb=0:=by rw[cF];exact(cN (azc (ayu (hp.at 1).lt n3.fresh))).trans ez
 have ho:=ho.new n3;rw[←cF]at ho;have cR:dh g1=7:=by rw[cF];exact dX
 have hp:=hp.new n3;refine go ?_;by_cases c5:(NV t).isSome=true
 ·obtain⟨t_,hq⟩:=ayA.1 c5;have Uh:=FG hq;refine iC (rG ho.ch.ref Uh.1 Uh.2.2) fun w6 lT hp ho=>?_;have kk:Ks dh [(g1,7),(f.rp,0),(tb,0)]:=⟨cR,bT,ez,trivial⟩;refine mU fun g8 w9 FT N4 hp rW ho kk zS=>?_;refine pF kk.1 (.inl rW) fun oD s8 hp ho=>?_;by_cases oE:a<0;·refine go ?_;refine p2 ?_;refine fM ho ?_ ?_<;>simp[gm,c5,oE,hq]<;>rfl
  refine go ?_;by_cases gJ:(10:Int)≤a;·refine go ?_;refine p2 ?_;refine fM ho ?_ ?_<;>simp[gm,c5,oE,gJ,hq]<;>rfl
  refine go ?_;by_cases pg:n<0;·refine go ?_;refine p2 ?_;refine fM ho ?_ ?_<;>simp[gm,c5,oE,gJ,pg,hq]<;>rfl
  refine go ?_;by_cases Xw:(1000:Int)<n;·refine go ?_;refine p2 ?_;refine fM ho ?_ ?_<;>simp[gm,c5,oE,gJ,pg,Xw,hq]<;>rfl
  refine go ?_;refine iC (P8 ho.ch.ref.k5) fun s7 lz hp ho=>?_;by_cases KS:(12:Int)≤(s.L.length:Int);·refine go ?_;refine p2 ?_;refine fM ho ?_ ?_<;>simp[gm,c5,oE,gJ,pg,Xw,KS,hq]<;>rfl
  refine go ?_;refine iC (P8 ho.ch.ref.k5) fun uG fw hp ho=>?_;refine jo (JH ho.ch (s.L.length:Int) 0 now) fun wu vI m25 agj hp ho kk=>?_;by_cases kH:qp s.P (s.L.length:Int) 0=4
  ·refine go ?_;refine jo (v:=i6 (dw s.fs s.K a 10)) (wI ho.ch a 10) fun FM X9 m30 agu hp ho kk=>?_;by_cases oV:dw s.fs s.K a 10=0;·refine go ?_;refine jo (v:=i6 (pz (gH s.P (s.L.length:Int) 0 now) (s.L.length:Int) t)) (aaI ho.ch (s.L.length:Int) t) fun H5 aqy m35 asM hp ho kk=>?_;refine gu 11 ?_;refine gq ?_;refine qs (.agg (aJ hs)) (fun w' h'=>aQ (i:=0) (n:=32) ((hp.at 1).below h') (FU _) (by rw[bd];exact ayp _) U31 kr rfl) ?_;refine gq ?_;refine qs (.agg (ae (aY.mk 1 t hs n now a true (-1) (-1) (-1) 0 ⟨0,0,0⟩))) (fun w' h'=>Dg (L0 t hs n now a _) rfl) ?_;refine nl fun NW rR hp=>?_;have ho:=ho.step rR;refine jo (Py ho.ch (x:=(aY.mk 1 t hs n now a true (-1) (-1) (-1) 0 ⟨0,0,0⟩)) (by show s.L.length<12;omega) (by show 0≤t∧t<2;exact⟨Uh.1,Uh.2.1⟩)) fun N1 agv m41 asN hp ho kk=>?_;refine p2 ?_;refine fM ho ?_ ?_<;>simp[gm,c5,oE,gJ,pg,Xw,KS,kH,oV,hq]<;>rfl
   refine go ?_;refine p2 ?_;refine fM ho ?_ ?_<;>simp[gm,c5,oE,gJ,pg,Xw,KS,kH,oV,hq]<;>rfl
  refine go ?_;refine p2 ?_;refine fM ho ?_ ?_<;>simp[gm,c5,oE,gJ,pg,Xw,KS,kH,hq]<;>rfl
 have hq:NV t=none:=by simpa using c5
 refine iC (BW ho.ch.ref (FH hq)) fun NY rX hp ho=>?_;have kk:Ks dh [(g1,7),(f.rp,0),(tb,0)]:=⟨cR,bT,ez,trivial⟩;refine mU fun g45 PJ FQ n47 hp wY ho kk abb=>?_;refine pF kk.1 (.inl wY) fun LJ p49 hp ho=>?_;refine p2 ?_;refine fM ho ?_ ?_<;>simp[gm,c5,hq]<;>rfl
def dN(x:aY)(y:j3)(dR now:Int):Int:=
 if BK (dt x.aa) y dR=true then(if x.aZ=-1 then wrap64 (now+(dt x.aa).cm)else x.aZ)else-1
def mF(x:aY)(u:Int):aY:=⟨x.state,x.aa,x.sum,x.after,x.aq,x.eo,x.put,x.aP,x.since,u,x.end_,x.av⟩
def be(x:aY)(y:j3)(dR now:Int):aY×Int:=
 if x.since=-1 then(if 30≤wrap64 (now-x.aq)then(x,4)else(x,0))
 else
  if dN x y dR now=-1 then(if(dt x.aa).decision≤wrap64 (now-x.since)then(mF x (-1),3)else(mF x (-1),0))
  else if dN x y dR now≤now then(mF x (dN x y dR now),2)
  else(mF x (dN x y dR now),0)
theorem Qi(i:Int):(0≤(dt i).dz∧(dt i).dz≤1000000000)∧0≤(dt i).support∧(dt i).support≤1000000000:=by
 have:dt i=tr0∨dt i=tr1:=by
  unfold dt NV;split;·exact .inl rfl
  ·split;·exact .inr rfl
   ·exact .inl rfl
 rcases this with e|e<;>rw[e]<;>decide
theorem L3(h:Ch w col f m s)(x:aY)(Ba:0≤x.aa∧x.aa<2)(y:j3)(dR now:Int):CB 91 #[pA f.rp 0,.agg (ae x),.agg #[i6 y.cI,i6 y.da,i6 y.support],i6 dR,i6 now] w (.tuple #[.agg (ae (be x y dR now).1),.int .i64 (be x y dR now).2]):=by
 have hB:=Below.refl w.heap.size w;obtain⟨tb,cap,arr,tt,DZ,row,EH,B9⟩:=h.ref.rp;have hp:Hp w [(f.rp,#[.slice (some ⟨tb,0,none⟩) 2 cap,.pointer (some ⟨f.rl,0,none⟩)],103),(tb,arr,tt)]:=DZ;refine fe Tryz.func91 Tryz.ntmps91 ?_;refine go ?_;refine bv (ae x) fun g1 w2 n3 hp=>?_;have ai:=ayo hB.size n3.fresh;have hB:=U hB n3.below;refine ic fun g4 w5 n6 hp aL hB=>?_;refine jJ fun g7 w8 n9 hp bj hB=>?_;refine ak (i6 x.since) (ay (hp.at 2) (wk x) U3 rfl) ?_;by_cases dv:x.since=(-1)
 ·refine go ?_;refine ak (i6 x.aq) (ay (hp.at 2) (Ha x) U3 rfl) ?_;refine ak (i6 (wrap64 (now-x.aq))) (fH rfl rfl rfl) ?_;by_cases gA:(30:Int)≤wrap64 (now-x.aq)
  ·refine go ?_;refine ak (.agg (ae x)) (aQ (i:=0) (n:=45) (hp.at 2) (bF x) (by rw[ao];exact ayp _) U62 kr rfl) ?_;refine sf (bL x) (ao _) rfl fun oD s8 hp=>?_;have hB:=aN hB s8 bj;refine jV (el (s:=10) (ty:=62) (cs:=ae x) (hp.at 0) U62 (by rw[ao];kernel_rfl)) (fL (t:=11) (v:=i6 4)) ?_;have e1:(be x y dR now).1=x:=by simp[be,dN,mF,dv,gA]
   have e2:(be x y dR now).2=4:=by simp[be,dN,mF,dv,gA]
   rw[e1,e2];exact⟨rfl,hB⟩
  refine go ?_;refine ak (.agg (ae x)) (aQ (i:=0) (n:=45) (hp.at 2) (bF x) (by rw[ao];exact ayp _) U62 kr rfl) ?_;refine sf (bL x) (ao _) rfl fun pb ov hp=>?_;have hB:=aN hB ov bj;refine jV (el (s:=10) (ty:=62) (cs:=ae x) (hp.at 0) U62 (by rw[ao];kernel_rfl)) (fL (t:=11) (v:=i6 0)) ?_;have e1:(be x y dR now).1=x:=by simp[be,dN,mF,dv,gA]
  have e2:(be x y dR now).2=0:=by simp[be,dN,mF,dv,gA]
  rw[e1,e2];exact⟨rfl,hB⟩
 refine go ?_;refine tT 10 (some 9) (some 9) fun bl=>?_;refine af 0 ?_;refine af 1 ?_;refine af 2 ?_;refine af 3 ?_;refine af 4 ?_;refine gI (i6 x.aa) 5 rfl (yq fun w' h'=>ay ((hp.at 2).below h') (rk x) U3 rfl) ?_;refine gI (pA tb (x.aa.toNat*18)) 6 rfl (yq fun w' h'=>cX (l:=2) (j:=x.aa) (off:=0) (sz:=18) U76 kr rfl rfl om om om) ?_;refine gI (.agg #[i6 ((dt x.aa).oM),i6 ((dt x.aa).cU),i6 ((dt x.aa).kc),i6 ((dt x.aa).decision),i6 ((dt x.aa).cm),i6 ((dt x.aa).mQ),i6 1,i6 ((dt x.aa).dz),i6 ((dt x.aa).dz),i6 1,i6 0,i6 1,i6 ((dt x.aa).support),i6 ((dt x.aa).support),i6 1,i6 0,i6 ((dt x.aa).cap),i6 ((dt x.aa).uh)]) 7 rfl (yq fun w' h'=>aQ (i:=x.aa.toNat*18) (n:=18) ((hp.at 4).below h') (T1 row (i:=x.aa) om) (T2 row (i:=x.aa) om) U121 kr rfl) ?_;refine nF 8 (fun qf ff hp bl=>?_);have hB:=U hB ff;refine jJ fun g18 uH L4 hp Cd hB=>?_;have bl:=U bl L4.below;refine aS 9 (fun uG fw hp bl=>?_) (hD:=fun _ fw=>⟨br (U bl fw),az ((hp.sub ((.cons _ (.cons_cons _ (.cons_cons _ (.cons_cons _ (.cons_cons _ (.cons_cons _ .slnil)))))))).below fw)⟩);have hB:=U hB fw;refine gG Cd fun AZ uJ hp hB=>?_;refine aE (fun Hc qY hp=>?_);have hB:=U hB qY;refine go ?_;refine ak (i6 x.since) (ay (hp.at 3) (wk x) U3 rfl) ?_;refine ak (i6 (wrap64 (now-x.since))) (fH rfl rfl rfl) ?_;by_cases kH:(BK (dt x.aa) y dR)=true
 ·refine cC ((mu kH (za (dt x.aa) y dR (wrap64 (now-x.since)) (Qi _)))) fun FM lJ hp hB=>?_;refine ak (i6 x.aZ) (ay (hp.at 3) (nP x) U3 rfl) ?_;by_cases yQ:x.aZ=(-1)
  ·refine go ?_;refine ak (i6 (wrap64 (now+((dt x.aa).cm)))) (aC rfl rfl rfl) ?_;refine Bk (ae (aY.mk x.state x.aa x.sum x.after x.aq x.eo x.put x.aP x.since (wrap64 (now+((dt x.aa).cm))) x.end_ x.av)) fun FN GN hp=>?_;have hB:=aN hB GN ai;refine ak (i6 (wrap64 (now+((dt x.aa).cm)))) (ay (hp.at 3) (nP (aY.mk x.state x.aa x.sum x.after x.aq x.eo x.put x.aP x.since (wrap64 (now+((dt x.aa).cm))) x.end_ x.av)) U3 rfl) ?_;by_cases ri:wrap64 (now+((dt x.aa).cm))=(-1)
   ·refine go ?_;refine ak (i6 (wrap64 (now+((dt x.aa).cm)))) (ay (hp.at 3) (nP (aY.mk x.state x.aa x.sum x.after x.aq x.eo x.put x.aP x.since (wrap64 (now+((dt x.aa).cm))) x.end_ x.av)) U3 rfl) ?_;refine ak (i6 x.since) (ay (hp.at 3) (wk (aY.mk x.state x.aa x.sum x.after x.aq x.eo x.put x.aP x.since (wrap64 (now+((dt x.aa).cm))) x.end_ x.av)) U3 rfl) ?_;refine ak (i6 (wrap64 (now-x.since))) (fH rfl rfl rfl) ?_;by_cases EI:(dt x.aa).decision≤wrap64 (now-x.since)
    ·refine go ?_;refine ak (.agg (ae (aY.mk x.state x.aa x.sum x.after x.aq x.eo x.put x.aP x.since (wrap64 (now+((dt x.aa).cm))) x.end_ x.av))) (aQ (i:=0) (n:=45) (hp.at 3) (bF (aY.mk x.state x.aa x.sum x.after x.aq x.eo x.put x.aP x.since (wrap64 (now+((dt x.aa).cm))) x.end_ x.av)) (by rw[ao];exact ayp _) U62 kr rfl) ?_;refine sf (bL (aY.mk x.state x.aa x.sum x.after x.aq x.eo x.put x.aP x.since (wrap64 (now+((dt x.aa).cm))) x.end_ x.av)) (ao _) rfl fun PU Ya hp=>?_;have hB:=aN hB Ya bj;refine jV (el (s:=10) (ty:=62) (cs:=ae (aY.mk x.state x.aa x.sum x.after x.aq x.eo x.put x.aP x.since (wrap64 (now+((dt x.aa).cm))) x.end_ x.av)) (hp.at 1) U62 (by rw[ao];kernel_rfl)) (fL (t:=11) (v:=i6 3)) ?_;have e1:(be x y dR now).1=(aY.mk x.state x.aa x.sum x.after x.aq x.eo x.put x.aP x.since (wrap64 (now+((dt x.aa).cm))) x.end_ x.av):=by simp[be,dN,mF,dv,kH,yQ,ri,EI]
     have e2:(be x y dR now).2=3:=by simp[be,dN,mF,dv,kH,yQ,ri,EI]
     rw[e1,e2];exact⟨rfl,hB⟩
    refine go ?_;refine ak (.agg (ae (aY.mk x.state x.aa x.sum x.after x.aq x.eo x.put x.aP x.since (wrap64 (now+((dt x.aa).cm))) x.end_ x.av))) (aQ (i:=0) (n:=45) (hp.at 3) (bF (aY.mk x.state x.aa x.sum x.after x.aq x.eo x.put x.aP x.since (wrap64 (now+((dt x.aa).cm))) x.end_ x.av)) (by rw[ao];exact ayp _) U62 kr rfl) ?_;refine sf (bL (aY.mk x.state x.aa x.sum x.after x.aq x.eo x.put x.aP x.since (wrap64 (now+((dt x.aa).cm))) x.end_ x.av)) (ao _) rfl fun JU p37 hp=>?_;have hB:=aN hB p37 bj;refine jV (el (s:=10) (ty:=62) (cs:=ae (aY.mk x.state x.aa x.sum x.after x.aq x.eo x.put x.aP x.since (wrap64 (now+((dt x.aa).cm))) x.end_ x.av)) (hp.at 1) U62 (by rw[ao];kernel_rfl)) (fL (t:=11) (v:=i6 0)) ?_;have e1:(be x y dR now).1=(aY.mk x.state x.aa x.sum x.after x.aq x.eo x.put x.aP x.since (wrap64 (now+((dt x.aa).cm))) x.end_ x.av):=by simp[be,dN,mF,dv,kH,yQ,ri,EI]
    have e2:(be x y dR now).2=0:=by simp[be,dN,mF,dv,kH,yQ,ri,EI]
    rw[e1,e2];exact⟨rfl,hB⟩
   refine go ?_;refine ak (i6 (wrap64 (now+((dt x.aa).cm)))) (ay (hp.at 3) (nP (aY.mk x.state x.aa x.sum x.after x.aq x.eo x.put x.aP x.since (wrap64 (now+((dt x.aa).cm))) x.end_ x.av)) U3 rfl) ?_;by_cases c39:wrap64 (now+((dt x.aa).cm))≤now
   ·refine go ?_;refine ak (.agg (ae (aY.mk x.state x.aa x.sum x.after x.aq x.eo x.put x.aP x.since (wrap64 (now+((dt x.aa).cm))) x.end_ x.av))) (aQ (i:=0) (n:=45) (hp.at 3) (bF (aY.mk x.state x.aa x.sum x.after x.aq x.eo x.put x.aP x.since (wrap64 (now+((dt x.aa).cm))) x.end_ x.av)) (by rw[ao];exact ayp _) U62 kr rfl) ?_;refine sf (bL (aY.mk x.state x.aa x.sum x.after x.aq x.eo x.put x.aP x.since (wrap64 (now+((dt x.aa).cm))) x.end_ x.av)) (ao _) rfl fun Ti p40 hp=>?_;have hB:=aN hB p40 bj;refine jV (el (s:=10) (ty:=62) (cs:=ae (aY.mk x.state x.aa x.sum x.after x.aq x.eo x.put x.aP x.since (wrap64 (now+((dt x.aa).cm))) x.end_ x.av)) (hp.at 1) U62 (by rw[ao];kernel_rfl)) (fL (t:=11) (v:=i6 2)) ?_;have e1:(be x y dR now).1=(aY.mk x.state x.aa x.sum x.after x.aq x.eo x.put x.aP x.since (wrap64 (now+((dt x.aa).cm))) x.end_ x.av):=by simp[be,dN,mF,dv,kH,yQ,ri,c39]
    have e2:(be x y dR now).2=2:=by simp[be,dN,mF,dv,kH,yQ,ri,c39]
    rw[e1,e2];exact⟨rfl,hB⟩
   refine go ?_;refine ak (i6 (wrap64 (now+((dt x.aa).cm)))) (ay (hp.at 3) (nP (aY.mk x.state x.aa x.sum x.after x.aq x.eo x.put x.aP x.since (wrap64 (now+((dt x.aa).cm))) x.end_ x.av)) U3 rfl) ?_;refine ak (.agg (ae (aY.mk x.state x.aa x.sum x.after x.aq x.eo x.put x.aP x.since (wrap64 (now+((dt x.aa).cm))) x.end_ x.av))) (aQ (i:=0) (n:=45) (hp.at 3) (bF (aY.mk x.state x.aa x.sum x.after x.aq x.eo x.put x.aP x.since (wrap64 (now+((dt x.aa).cm))) x.end_ x.av)) (by rw[ao];exact ayp _) U62 kr rfl) ?_;refine sf (bL (aY.mk x.state x.aa x.sum x.after x.aq x.eo x.put x.aP x.since (wrap64 (now+((dt x.aa).cm))) x.end_ x.av)) (ao _) rfl fun NY p42 hp=>?_;have hB:=aN hB p42 bj;refine jV (el (s:=10) (ty:=62) (cs:=ae (aY.mk x.state x.aa x.sum x.after x.aq x.eo x.put x.aP x.since (wrap64 (now+((dt x.aa).cm))) x.end_ x.av)) (hp.at 1) U62 (by rw[ao];kernel_rfl)) (fL (t:=11) (v:=i6 0)) ?_;have e1:(be x y dR now).1=(aY.mk x.state x.aa x.sum x.after x.aq x.eo x.put x.aP x.since (wrap64 (now+((dt x.aa).cm))) x.end_ x.av):=by simp[be,dN,mF,dv,kH,yQ,ri,c39]
   have e2:(be x y dR now).2=0:=by simp[be,dN,mF,dv,kH,yQ,ri,c39]
   rw[e1,e2];exact⟨rfl,hB⟩
  refine go ?_;refine ak (i6 x.aZ) (ay (hp.at 3) (nP x) U3 rfl) ?_;refine ak (i6 x.aZ) (ay (hp.at 3) (nP x) U3 rfl) ?_;by_cases c44:x.aZ≤now
  ·refine go ?_;refine ak (.agg (ae x)) (aQ (i:=0) (n:=45) (hp.at 3) (bF x) (by rw[ao];exact ayp _) U62 kr rfl) ?_;refine sf (bL x) (ao _) rfl fun PJ p45 hp=>?_;have hB:=aN hB p45 bj;refine jV (el (s:=10) (ty:=62) (cs:=ae x) (hp.at 1) U62 (by rw[ao];kernel_rfl)) (fL (t:=11) (v:=i6 2)) ?_;have e1:(be x y dR now).1=x:=by simp[be,dN,mF,dv,kH,yQ,c44]
   have e2:(be x y dR now).2=2:=by simp[be,dN,mF,dv,kH,yQ,c44]
   rw[e1,e2];exact⟨rfl,hB⟩
  refine go ?_;refine ak (i6 x.aZ) (ay (hp.at 3) (nP x) U3 rfl) ?_;refine ak (.agg (ae x)) (aQ (i:=0) (n:=45) (hp.at 3) (bF x) (by rw[ao];exact ayp _) U62 kr rfl) ?_;refine sf (bL x) (ao _) rfl fun PK p47 hp=>?_;have hB:=aN hB p47 bj;refine jV (el (s:=10) (ty:=62) (cs:=ae x) (hp.at 1) U62 (by rw[ao];kernel_rfl)) (fL (t:=11) (v:=i6 0)) ?_;have e1:(be x y dR now).1=x:=by simp[be,dN,mF,dv,kH,yQ,c44]
  have e2:(be x y dR now).2=0:=by simp[be,dN,mF,dv,kH,yQ,c44]
  rw[e1,e2];exact⟨rfl,hB⟩
 replace kH:=eq_false_of_ne_true kH;refine cC ((mu kH (za (dt x.aa) y dR (wrap64 (now-x.since)) (Qi _)))) fun T3 pJ hp hB=>?_;refine Bk (ae (aY.mk x.state x.aa x.sum x.after x.aq x.eo x.put x.aP x.since (-1) x.end_ x.av)) fun N0 p51 hp=>?_;have hB:=aN hB p51 ai;refine ak (i6 (-1)) (ay (hp.at 3) (nP (aY.mk x.state x.aa x.sum x.after x.aq x.eo x.put x.aP x.since (-1) x.end_ x.av)) U3 rfl) ?_;refine ak (i6 (-1)) (ay (hp.at 3) (nP (aY.mk x.state x.aa x.sum x.after x.aq x.eo x.put x.aP x.since (-1) x.end_ x.av)) U3 rfl) ?_;refine ak (i6 x.since) (ay (hp.at 3) (wk (aY.mk x.state x.aa x.sum x.after x.aq x.eo x.put x.aP x.since (-1) x.end_ x.av)) U3 rfl) ?_;refine ak (i6 (wrap64 (now-x.since))) (fH rfl rfl rfl) ?_;by_cases mG:(dt x.aa).decision≤wrap64 (now-x.since)
 ·refine go ?_;refine ak (.agg (ae (aY.mk x.state x.aa x.sum x.after x.aq x.eo x.put x.aP x.since (-1) x.end_ x.av))) (aQ (i:=0) (n:=45) (hp.at 3) (bF (aY.mk x.state x.aa x.sum x.after x.aq x.eo x.put x.aP x.since (-1) x.end_ x.av)) (by rw[ao];exact ayp _) U62 kr rfl) ?_;refine sf (bL (aY.mk x.state x.aa x.sum x.after x.aq x.eo x.put x.aP x.since (-1) x.end_ x.av)) (ao _) rfl fun w55 p54 hp=>?_;have hB:=aN hB p54 bj;refine jV (el (s:=10) (ty:=62) (cs:=ae (aY.mk x.state x.aa x.sum x.after x.aq x.eo x.put x.aP x.since (-1) x.end_ x.av)) (hp.at 1) U62 (by rw[ao];kernel_rfl)) (fL (t:=11) (v:=i6 3)) ?_;have e1:(be x y dR now).1=(aY.mk x.state x.aa x.sum x.after x.aq x.eo x.put x.aP x.since (-1) x.end_ x.av):=by simp[be,dN,mF,dv,kH,mG]
  have e2:(be x y dR now).2=3:=by simp[be,dN,mF,dv,kH,mG]
  rw[e1,e2];exact⟨rfl,hB⟩
 refine go ?_;refine ak (.agg (ae (aY.mk x.state x.aa x.sum x.after x.aq x.eo x.put x.aP x.since (-1) x.end_ x.av))) (aQ (i:=0) (n:=45) (hp.at 3) (bF (aY.mk x.state x.aa x.sum x.after x.aq x.eo x.put x.aP x.since (-1) x.end_ x.av)) (by rw[ao];exact ayp _) U62 kr rfl) ?_;refine sf (bL (aY.mk x.state x.aa x.sum x.after x.aq x.eo x.put x.aP x.since (-1) x.end_ x.av)) (ao _) rfl fun Ua p56 hp=>?_;have hB:=aN hB p56 bj;refine jV (el (s:=10) (ty:=62) (cs:=ae (aY.mk x.state x.aa x.sum x.after x.aq x.eo x.put x.aP x.since (-1) x.end_ x.av)) (hp.at 1) U62 (by rw[ao];kernel_rfl)) (fL (t:=11) (v:=i6 0)) ?_;have e1:(be x y dR now).1=(aY.mk x.state x.aa x.sum x.after x.aq x.eo x.put x.aP x.since (-1) x.end_ x.av):=by simp[be,dN,mF,dv,kH,mG]
 have e2:(be x y dR now).2=0:=by simp[be,dN,mF,dv,kH,mG]
 rw[e1,e2];exact⟨rfl,hB⟩
end
end Go.Proofs.YtdkpbpjcbkibiaaGreatDoor.B
