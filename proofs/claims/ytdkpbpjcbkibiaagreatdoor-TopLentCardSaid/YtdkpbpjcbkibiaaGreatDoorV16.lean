/- Rf -/
import Derived.Test.YtdkpbpjcbkibiaaGreatDoorV12
import Derived.Test.YtdkpbpjcbkibiaaGreatDoorV15
set_option linter.all false
set_option maxRecDepth 100000
set_option maxHeartbeats 4000000
namespace Go.Proofs.YtdkpbpjcbkibiaaGreatDoor.B
open Go.RowKit
section
open Go.RowKit
variable{w:World}{gb r cap:Nat}{t:TypeId}{L:List ((Int×Int)×aY)}{col:Nat→Nat}{f:CF}{m:CV}{s:bM}
theorem P6(hb:bH w gb #[.slice (some ⟨r,0,none⟩) L.length cap] t):CB 121 #[.pointer (some ⟨gb,0,none⟩)] w (.int .i64 (L.length:Int)):=by have hp:=(Hp.nil w).cons hb (by simp);have hB:=Below.refl w.heap.size w;refine fe Tryz.func121 Tryz.ntmps121 ?_;refine go ?_;refine p1 ?_;exact⟨rfl,hB⟩
theorem P7{r cap:Nat}(hb:bH w gb #[.slice none 0 0] t)(hL:L=[]):CB 121 #[.pointer (some ⟨gb,0,none⟩)] w (.int .i64 (L.length:Int)):=by have hp:=(Hp.nil w).cons hb (by simp);have hB:=Below.refl w.heap.size w;refine fe Tryz.func121 Tryz.ntmps121 ?_;refine go ?_;refine p1 ?_;exact⟨by rw[hL];rfl,hB⟩
theorem P8{Z:Nat→Prop}(h:bq w gb Z 47 ep L):CB 121 #[.pointer (some ⟨gb,0,none⟩)] w (.int .i64 (L.length:Int)):=by
 rcases h with⟨t,r,cap,arr,t',hZ,hp,h⟩|⟨e,t,hp⟩;·exact P6 (hp.at 0)
 ·exact P7 (r:=0) (cap:=0) (hp.at 0) e
theorem zP(h:Ch w col f m s)(i:Int):CB 232 #[pA f.rp 0,i6 i] w (.int .i64 (gQ s i)):=by
 have hp:=Hp.nil w;have hB:=Below.refl w.heap.size w;refine fe Tryz.func232 Tryz.ntmps232 ?_;refine go ?_;by_cases c1:(bS s.L 0 i).isSome=true
 ·obtain⟨x,hx⟩:=ayA.1 c1;refine cC (jC (h.below hB).ref hx) fun w2 js hp hB=>?_;refine jJ fun g4 w5 n6 hp aL hB=>?_;refine sf (bL x) (ao _) rfl fun w8 p7 hp=>?_;have hB:=aN hB p7 aL;refine ak (i6 x.state) (ay (hp.at 0) (oB x) U3 rfl) ?_;by_cases c9:x.state=1;·refine go ?_;refine p1 ?_;exact⟨by simp[gQ,c1,c9,hx],hB⟩
  refine go ?_;refine p1 ?_;exact⟨by simp[gQ,c1,c9,hx],hB⟩
 have hx:bS s.L 0 i=none:=by simpa using c1
 refine cC (oG (h.below hB).ref hx) fun o2 oO hp hB=>?_;refine jJ fun g12 oD n14 hp nE hB=>?_;refine gG nE fun qf Fm hp hB=>?_;refine p1 ?_;exact⟨by simp[gQ,c1,hx],hB⟩
theorem LY(h:Ch w col f m s)(a i:Int):q0 42 #[pA f.rp 0,pA f.lp 0,i6 a,i6 i] w col f m s (.int .i64 (j7 s a i).1) ((j7 s a i).2):=by
 have ho:Out w col m s w col f m s:=bV.start h;obtain⟨tb,cap,arr,tt,DZ,row,EH,B9⟩:=h.ref.rp;have hp:Hp w [(f.rp,#[.slice (some ⟨tb,0,none⟩) 2 cap,.pointer (some ⟨f.rl,0,none⟩)],103),(tb,arr,tt)]:=DZ;have bT:col f.rp=0:=EH;have ez:col tb=0:=B9;refine fe Tryz.func42 Tryz.ntmps42 ?_;refine go ?_;by_cases c1:(bS s.L 0 i).isSome=true
 ·obtain⟨x,hx⟩:=ayA.1 c1;have Ba:=ho.ch.inv.lt _ (ayw (ho.ch.inv.HI.1 hx).2);simp only at Ba;refine iC (jC ho.ch.ref hx) fun w2 js hp ho=>?_;have kk:Ks col [(f.rp,0),(tb,0)]:=⟨bT,ez,trivial⟩;refine mU fun g4 w5 HY n6 hp gR ho kk JV=>?_;refine sf (bL x) (ao _) rfl fun w9 p8 hp=>?_;have ho:=ho.put p8 kk.1 (.inl gR);refine ak (i6 x.state) (ay (hp.at 0) (oB x) U3 rfl) ?_;by_cases dv:x.state=1
  ·refine go ?_;refine ak (i6 x.aP) (ay (hp.at 0) (lv x) U3 rfl) ?_;by_cases gA:x.aP=(-1)
   ·refine go ?_;refine gu 11 ?_;refine gq ?_;refine qs (i6 x.aa) (fun w' h'=>ay ((hp.at 0).below h') (rk x) U3 rfl) ?_;refine qs (pA tb (x.aa.toNat*18)) (fun w' h'=>cX (l:=2) (j:=x.aa) (off:=0) (sz:=18) U76 kr rfl rfl om om om) ?_;refine gq ?_;refine qs (i6 ((dt x.aa).cU)) (fun w' h'=>ay ((hp.at 2).below h') ((nq row (i:=x.aa) (k:=1) om dd).trans rfl) U3 rfl) ?_;refine nl fun pW kZ hp=>?_;have ho:=ho.step kZ;refine jo (wI ho.ch a ((dt x.aa).cU)) fun ui P9 m16 Ud hp ho kk=>?_;by_cases OC:dw s.fs s.K a ((dt x.aa).cU)=0;·refine go ?_;refine Bk (ae (aY.mk x.state x.aa x.sum x.after x.aq x.eo x.put a x.since x.aZ x.end_ x.av)) fun re pY hp=>?_;have ho:=ho.put pY kk.1 (.inl gR);refine gu 6 ?_;refine gq ?_;refine qs (.agg (ae (aY.mk x.state x.aa x.sum x.after x.aq x.eo x.put a x.since x.aZ x.end_ x.av))) (fun w' h'=>aQ (i:=0) (n:=45) ((hp.at 0).below h') (bF (aY.mk x.state x.aa x.sum x.after x.aq x.eo x.put a x.since x.aZ x.end_ x.av)) (by rw[ao];exact ayp _) U62 kr rfl) ?_;refine nl fun uG fw hp=>?_;have ho:=ho.step fw;refine jo (iw ho.ch (i:=i) (x:=(aY.mk x.state x.aa x.sum x.after x.aq x.eo x.put a x.since x.aZ x.end_ x.av)) hx (by show 0≤x.aa∧x.aa<2;exact Ba)) fun wu vI m25 agj hp ho kk=>?_;refine p1 ?_;refine fM ho ?_ ?_<;>simp[j7,c1,dv,gA,OC,hx]<;>rfl
    refine go ?_;refine p1 ?_;refine fM ho ?_ ?_<;>simp[j7,c1,dv,gA,OC,hx]<;>rfl
   refine go ?_;refine p1 ?_;refine fM ho ?_ ?_<;>simp[j7,c1,dv,gA,hx]<;>rfl
  refine go ?_;refine p1 ?_;refine fM ho ?_ ?_<;>simp[j7,c1,dv,hx]<;>rfl
 have hx:bS s.L 0 i=none:=by simpa using c1
 refine iC (oG ho.ch.ref hx) fun BU rT hp ho=>?_;have kk:Ks col [(f.rp,0),(tb,0)]:=⟨bT,ez,trivial⟩;refine mU fun wb NS Qa X7 hp wW ho kk aa8=>?_;refine pF kk.1 (.inl wW) fun GK Tg hp ho=>?_;refine p1 ?_;refine fM ho ?_ ?_<;>simp[j7,c1,hx]<;>rfl
end
end Go.Proofs.YtdkpbpjcbkibiaaGreatDoor.B
