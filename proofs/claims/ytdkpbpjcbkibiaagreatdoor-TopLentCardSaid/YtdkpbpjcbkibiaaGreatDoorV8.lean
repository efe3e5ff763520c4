/- Led LedB -/
import Derived.Test.YtdkpbpjcbkibiaaGreatDoorV0
import Derived.Test.YtdkpbpjcbkibiaaGreatDoorV2
import Derived.Test.YtdkpbpjcbkibiaaGreatDoorV3
set_option linter.all false
set_option maxRecDepth 100000
set_option maxHeartbeats 4000000
namespace Go.Proofs.YtdkpbpjcbkibiaaGreatDoor.B
open Go.RowKit
section
open Go.RowKit
variable{w:World}{lp ap gp k:Nat}{fs:List (Int×Int)}
theorem afu{arr:Array Value}{i:Nat}{u v:Value}(h0:arr[i]?=some u)(h1:arr[i+1]?=some v):arr.extract i (i+2)=#[u,v]:=by
 apply ayW;intro j;have gD:=(ayv.1 h1).1;rw[ayz];match j with
 |0=>rw[if_pos om];exact h0
 |1=>rw[if_pos om];exact h1
 |j+2=>rw[if_neg om];rfl
structure km(arr:Array Value)(fs:List (Int×Int)):Prop where
 size:20≤arr.size
 len:fs.length=10
 free:∀i x,fs[i]?=some x→arr[i*2]?=some (.int .i64 x.1)
 held:∀i x,fs[i]?=some x→arr[i*2+1]?=some (.int .i64 x.2)
def jQ(w:World)(lp ap gp:Nat)(fs:List (Int×Int)):Prop:=∃cap arr,Hp w [(lp,#[.slice (some ⟨ap,0,none⟩) 10 cap,.pointer (some ⟨gp,0,none⟩)],125),(ap,arr,85)]∧km arr fs
theorem jQ.below{w2:World}(h:jQ w lp ap gp fs)(hb:Bw w w2):jQ w2 lp ap gp fs:=
 let⟨c,a,hp,ha⟩:=h
 ⟨c,a,hp.below hb,ha⟩
def iU(fs:List (Int×Int))(a:Int):(Int×Int)×Bool:=if 0≤a∧a<10 then(fs.getD a.toNat (0,0),true)else((0,0),false)
theorem Jv(hk:k<10)(hl:fs.length=10):iU fs (k:Int)=(fs[k],true):=by unfold iU;rw[if_pos om];simp[List.getD,hl,hk]
theorem E7{a:Int}(h:¬(0≤a∧a<10)):iU fs a=((0,0),false):=if_neg h
theorem Hv(h:jQ w lp ap gp fs)(k:Nat)(hk:k<10):CB 33 #[.pointer (some ⟨lp,0,none⟩),.int .i64 k] w (.tuple #[.agg #[.int .i64 (iU fs k).1.1,.int .i64 (iU fs k).1.2],.bool (iU fs k).2]):=by
 obtain⟨cap,arr,hp,ha⟩:=h;have hl:k<fs.length:=by rw[ha.len];exact hk
 obtain⟨x,hx⟩:∃x,fs[k]=x:=⟨_,rfl⟩;have a0:=ha.free k x (by rw[ayq hl,hx]);have a1:=ha.held k x (by rw[ayq hl,hx]);have hn:k*2+2≤arr.size:=by have:=ha.size;omega
 have t0:decide ((k:Int)<0)=false:=decide_eq_false om;have t1:decide ((10:Int)≤(k:Int))=false:=decide_eq_false om;have hB:=Below.refl w.heap.size w;refine fe Tryz.func33 Tryz.ntmps33 ?_;refine go ?_;refine jJ fun g1 w2 n3 hp ai hB=>?_;first|refine ls (.bool false) (tH (m:=(k:Int)) (n:=0) rfl rfl t0) ?_|skip
 refine go ?_;first|refine ls (.bool false) (BE (m:=(k:Int)) (n:=10) rfl rfl t1) ?_|skip
 refine go ?_;refine ak (pA ap (k*2)) (cX (l:=10) (j:=(k:Int)) (off:=0) (sz:=2) U122 kr rfl rfl om om (by simp)) ?_;refine ak (.agg #[i6 x.1,i6 x.2]) (aQ (i:=k*2) (n:=2) (hp.at 2) (afu a0 a1) hn U85 kr rfl) ?_;refine gG ai fun w5 p4 hp hB=>?_;refine jV (el (s:=4) (ty:=85) (cs:=#[i6 x.1,i6 x.2]) (hp.at 0) U85 kr) (fL (t:=5) (v:=.bool true)) ?_;exact⟨by rw[Jv hk ha.len];simp[hx],hB⟩
theorem E8(h:jQ w lp ap gp fs)(a:Int)(hk:¬(0≤a∧a<10)):CB 33 #[.pointer (some ⟨lp,0,none⟩),.int .i64 a] w (.tuple #[.agg #[.int .i64 (iU fs a).1.1,.int .i64 (iU fs a).1.2],.bool (iU fs a).2]):=by
 obtain⟨cap,arr,hp,ha⟩:=h;have hB:=Below.refl w.heap.size w;by_cases Zp:a<0
 ·have t0:decide (a<0)=true:=decide_eq_true Zp;refine fe Tryz.func33 Tryz.ntmps33 ?_;refine go ?_;refine jJ fun g1 w2 n3 hp ai hB=>?_;first|refine ls (.bool true) (tH (m:=a) (n:=0) rfl rfl t0) ?_|skip
  refine go ?_;refine ak (.agg #[i6 0,i6 0]) kr ?_;refine gG ai fun w5 p4 hp hB=>?_;refine jV (el (s:=4) (ty:=85) (cs:=#[i6 0,i6 0]) (hp.at 0) U85 kr) (fL (t:=5) (v:=.bool false)) ?_;exact⟨by rw[E7 hk],hB⟩
 ·have t0:decide (a<0)=false:=decide_eq_false Zp;have t1:decide ((10:Int)≤a)=true:=decide_eq_true om;refine fe Tryz.func33 Tryz.ntmps33 ?_;refine go ?_;refine jJ fun g1 w2 n3 hp ai hB=>?_;first|refine ls (.bool false) (tH (m:=a) (n:=0) rfl rfl t0) ?_|skip
  refine go ?_;first|refine ls (.bool true) (BE (m:=a) (n:=10) rfl rfl t1) ?_|skip
  refine go ?_;refine ak (.agg #[i6 0,i6 0]) kr ?_;refine gG ai fun w5 p4 hp hB=>?_;refine jV (el (s:=4) (ty:=85) (cs:=#[i6 0,i6 0]) (hp.at 0) U85 kr) (fL (t:=5) (v:=.bool false)) ?_;exact⟨by rw[E7 hk],hB⟩
theorem sJ(h:jQ w lp ap gp fs)(a:Int):CB 33 #[.pointer (some ⟨lp,0,none⟩),.int .i64 a] w (.tuple #[.agg #[.int .i64 (iU fs a).1.1,.int .i64 (iU fs a).1.2],.bool (iU fs a).2]):=by
 by_cases hk:0≤a∧a<10;·obtain⟨k,rfl⟩:=az3 hk.1;exact Hv h k om
 ·exact E8 h a hk
theorem oN(ij:jQ w lp ap gp fs)(a:Int):CB 13 #[.pointer (some ⟨lp,0,none⟩),.int .i64 a] w (.int .i64 (iU fs a).1.1):=by have hB:=Below.refl w.heap.size w;have hp:=Hp.nil w;refine fe Tryz.func13 Tryz.ntmps13 ?_;refine go ?_;refine cC (sJ (ij.below hB) a) fun w1 er hp hB=>?_;refine ak (.bool ((iU fs a).2)) (tI rfl rfl) ?_;refine jJ fun g3 w4 n5 hp zn hB=>?_;refine gG zn fun w7 p6 hp hB=>?_;refine p1 ?_;exact⟨rfl,hB⟩
theorem aai(ij:jQ w lp ap gp fs)(a:Int):CB 58 #[.pointer (some ⟨lp,0,none⟩),.int .i64 a] w (.int .i64 (iU fs a).1.2):=by have hB:=Below.refl w.heap.size w;have hp:=Hp.nil w;refine fe Tryz.func58 Tryz.ntmps58 ?_;refine go ?_;refine cC (sJ (ij.below hB) a) fun w1 er hp hB=>?_;refine ak (.bool ((iU fs a).2)) (tI rfl rfl) ?_;refine jJ fun g3 w4 n5 hp zn hB=>?_;refine gG zn fun w7 p6 hp hB=>?_;refine p1 ?_;exact⟨rfl,hB⟩
def dL(fs:List (Int×Int)):Int:=fs.foldl (fun s x=>wrap64 (s+wrap64 (x.1+x.2))) 0
theorem E9{x:Int×Int}(hx:fs[k]?=some x):(fs.take (k+1)).foldl (fun s x=>wrap64 (s+wrap64 (x.1+x.2))) 0=wrap64 ((fs.take k).foldl (fun s x=>wrap64 (s+wrap64 (x.1+x.2))) 0+wrap64 (x.1+x.2)):=by rw[ay1,hx];simp
theorem zo(h:jQ w lp ap gp fs):CB 35 #[.pointer (some ⟨lp,0,none⟩)] w (.int .i64 (dL fs)):=by
 obtain⟨cap,arr,hp,ha⟩:=h;have hB:=Below.refl w.heap.size w;refine fe Tryz.func35 Tryz.ntmps35 ?_;refine go ?_;refine cT (fun m' a' w'=>∃(k:Nat) (s:Int) (u5 kt iD u16 iL ig jd je iE iF iG kK:Value),a'=(fR #[pA lp 0,undef,i6 0,i6 s,undef,u5,pA lp 0,.bool true,pA lp 0,pA lp 0,pA lp 0,.slice (some ⟨ap,0,none⟩) 10 cap,i6 10,i6 (k:Int),kt,iD,u16,iL,ig,jd,je,iE,iF,iG,kK,undef])∧m'=10-k∧Hp w' [(lp,#[.slice (some ⟨ap,0,none⟩) 10 cap,pA gp 0],125),(ap,arr,85)]∧Bw w w'∧k≤10∧s=(fs.take k).foldl (fun s x=>wrap64 (s+wrap64 (x.1+x.2))) 0) _ ⟨0,0,undef,undef,undef,undef,undef,undef,undef,undef,undef,undef,undef,undef,rfl,rfl,hp,hB,om,rfl⟩ ?_;rintro m2 _ w1 ⟨k,s,u5,kt,iD,u16,iL,ig,jd,je,iE,iF,iG,kK,rfl,rfl,hp,hB,hk,hs⟩;refine go ?_;by_cases c3:(k:Int)<10
 ·have hl:k<fs.length:=by rw[ha.len];omega
  obtain⟨x,hx⟩:∃x,fs[k]?=some x:=⟨_,ayq hl⟩;have a0:=ha.free k x hx;have a1:=ha.held k x hx;have hn:k*2+2≤arr.size:=by have:=ha.size;omega
  refine go ?_;refine ak (pA ap (k*2)) (cX (l:=10) (j:=(k:Int)) (off:=0) (sz:=2) U122 kr rfl rfl om om (by simp)) ?_;refine ak (.agg #[i6 x.1,i6 x.2]) (aQ (i:=k*2) (n:=2) (hp.at 1) (afu a0 a1) hn U85 kr rfl) ?_;refine jJ fun g4 w5 n6 hp aL hB=>?_;refine gG aL fun w8 p7 hp hB=>?_;refine ak (i6 (wrap64 (x.1+x.2))) (aC rfl rfl rfl) ?_;refine ak (i6 (wrap64 (s+(wrap64 (x.1+x.2))))) (aC rfl rfl rfl) ?_;refine ak (i6 ((k+1:Nat):Int)) (aC (m:=(k:Int)) (n:=1) (s:=((k+1:Nat):Int)) rfl rfl (by unfold wrap64;omega)) ?_;exact⟨_,om,k+1,_,_,_,_,_,_,_,_,_,_,_,_,_,rfl,rfl,hp.tail,hB,om,(by rw[E9 hx,hs])⟩
 refine go ?_;refine p1 ?_;obtain rfl:k=10:=by omega
 exact⟨by unfold dL;rw[hs];congr 3;rw[azG (by have:=ha.len;omega)],hB⟩
end
section
open Go.RowKit
variable{w:World}{lp ap gp:Nat}{fs:List (Int×Int)}{a:Int}{Z:Nat→Prop}{K:List ((Int×Int)×Int)}{α:Type}
theorem Dt(h:jQ w lp ap gp fs)(h0:0≤a∧a<10){x:Int×Int}(hx:fs[a.toNat]?=some x):CB 33 #[.pointer (some ⟨lp,0,none⟩),.int .i64 a] w (.tuple #[.agg #[.int .i64 x.1,.int .i64 x.2],.bool true]):=by have:=sJ h a;unfold iU at this;rw[if_pos h0]at this;simpa[List.getD,hx]using this
theorem Du(h:jQ w lp ap gp fs)(h0:¬(0≤a∧a<10)):CB 33 #[.pointer (some ⟨lp,0,none⟩),.int .i64 a] w (.tuple #[.agg #[.int .i64 0,.int .i64 0],.bool false]):=by have:=sJ h a;unfold iU at this;rwa[if_neg h0]at this
theorem jQ.get(h:jQ w lp ap gp fs)(h0:0≤a∧a<10):∃x,fs[a.toNat]?=some x:=
 let⟨_,_,_,ha⟩:=h
 ⟨_,ayq (by rw[ha.len];omega)⟩
structure LAt(w:World)(lp ap gp:Nat)(Z:Nat→Prop)(fs:List (Int×Int))(K:List ((Int×Int)×Int)):Prop where
 ij:jQ w lp ap gp fs
 k5:bq w gp Z 3 fT K
theorem LAt.below{w2:World}(h:LAt w lp ap gp Z fs K)(hb:Bw w w2):LAt w2 lp ap gp Z fs K:=⟨h.ij.below hb,h.k5.below hb⟩
theorem bq.bound{gb:Nat}{k:Nat}{enc:α→Array Value}{L:List α}(h:bq w gb Z k enc L):bq w gb (fun b=>Z b∧b<w.heap.size) k enc L:=by
 rcases h with⟨t,r,cap,arr,t',hZ,hp,h⟩|h;·exact .inl ⟨t,r,cap,arr,t',⟨hZ,(hp.at 1).lt⟩,hp,h⟩
 ·exact .inr h
def Dv(K:List ((Int×Int)×Int))(a:Int):Int:=(K.filter fun e=>decide (e.1.1=a)).foldl (fun m e=>mx m e.2) 0
theorem i2{β:Type}(f:β→α→β)(b:β){l:List α}{i:Nat}{x:α}(h:l[i]?=some x):(l.take (i+1)).foldl f b=f ((l.take i).foldl f b) x:=by rw[ay1,h];simp
theorem Fa(h:LAt w lp ap gp Z fs K)(a:Int):CP 157 #[.pointer (some ⟨lp,0,none⟩),.int .i64 a] w fun e w'=>∃lb S,e=.returned (.func (.func 270) #[] lb)∧Bw w w'∧iK 270 lb w' S (K.filter fun e=>decide (e.1.1=a)).length (fS (fun e:(Int×Int)×Int=>#[.int .i64 e.1.2,.int .i64 e.2]) (K.filter fun e=>decide (e.1.1=a)))∧∀b,S b→((w.heap.size≤b∧b<w'.heap.size)∨(Z b∧b<w.heap.size)):=by
 obtain⟨cap,arr,hp,ha⟩:=h.ij;have hB:=Below.refl w.heap.size w;refine fe Tryz.func157 Tryz.ntmps157 ?_;refine go ?_;have jv:=hB.size;refine ce (ae8 (h.k5.below hB) a) ?_;rintro _ w1 ⟨lb,S,rfl,ni,hg,hZ⟩;refine⟨_,rfl,ab ?_⟩;have hp:=hp.below ni;have hB:=U hB ni;refine go ?_;refine p1 ?_;refine⟨_,S,rfl,hB,hg,fun b hb=>?_⟩;have h2:=hB.size;rcases hZ b hb with⟨q1,q2⟩|⟨q1,q2⟩;·exact .inl ⟨ayo jv q1,q2⟩
 ·by_cases r:b<w.heap.size;·exact .inr ⟨q1,r⟩
  ·exact .inl ⟨by omega,by omega⟩
theorem BN(h:LAt w lp ap gp Z fs K)(a:Int):CB 103 #[.pointer (some ⟨lp,0,none⟩),.int .i64 a] w (.int .i64 (Dv K a)):=by
 have hp:=Hp.nil w;have hB:=Below.refl w.heap.size w;refine BF Tryz.func103 Tryz.ntmps103 ?_;refine go ?_;refine jJ fun g1 w2 n3 hp ai hB=>?_;refine gG ai fun w5 p4 hp hB=>?_;have hg1:=(hp.at 0).lt;refine ce (Fa (Z:=fun b=>Z b∧b<w.heap.size) ⟨h.ij.below hB,(h.k5.bound).below hB⟩ a) ?_;rintro _ w6 ⟨lb,S,rfl,ni,hg,hZ⟩;refine⟨_,rfl,ab ?_⟩;have hp:=hp.below ni;have hB:=U hB ni;refine go ?_;have lq:=hB.size;have Hw:=(hp.at 0).lt;refine ka hg (Below.refl _ _) (fun i' O' w'=>∃(m:Int),O'=(fun b=>b=g1)∧Hp w' [(g1,#[.int .i64 m],3)]∧m=((K.filter fun e=>decide (e.1.1=a)).take i').foldl (fun m e=>mx m e.2) 0∧Bw w w') (fun c' w'=>False) (fun b=>b=g1) (fun b hb=>by subst hb;exact Hw) (fun b hb=>⟨fun e=>by subst e;rcases hZ _ hb with q|q<;>omega,by rcases hZ b hb with q|q<;>omega⟩) (fun i O A B ⟨m,h1,h2,h3,h4⟩ k=>⟨m,h1,h2.eH k,h3,eL h4 k lq⟩) (fun c A B h k=>h) ⟨0,rfl,hp,by simp,hB⟩ ?_ ?_ ?_ Tryz.func270 (fN fun _=>rfl);·rintro l' i' O' A EU Jk jU u0 Jl ⟨m,hO,hp,hm,hB⟩;have hR:=au.refl O' A;obtain⟨e,he⟩:∃e,(K.filter fun e=>decide (e.1.1=a))[i']?=some e:=⟨_,ayq jU⟩;refine ye (a':=(fR #[pA lp 0,i6 a,undef,undef,i6 0,pA g1 0,undef,undef,pA lp 0,i6 a,.func (.func 270) #[] lb,i6 e.1.2,i6 e.2,undef,undef,undef,undef])) ?_ (by rw[cY he];simp);refine go ?_;refine⟨hR,fun w7 k8=>?_⟩;have hp:=hp.eH k8;have hB:=eL hB k8 lq;have hR:=au.refl O' w7;refine go ?_;refine ak (i6 (mx m e.2)) (qF rfl rfl) ?_;refine gG ai fun o2 p9 hp hB=>?_;have hR:=hR.put p9 (.inl (by rw[hO]));exact⟨O',⟨_,hO,hp,by rw[i2 _ _ he,hm],hB⟩,hR,fun b hb=>.inl hb⟩
 ·rintro D O' A kC yY ⟨m,hO,hp,hm,hB⟩ hD;rw[azq]at hm;refine go ?_;exact xJ hD fun w2 k=>⟨_,fL (t:=4),by rw[hm];rfl,eL hB k (ayo lq kC)⟩
 ·rintro D c' A kC hx hD;exact hx.elim
end
end Go.Proofs.YtdkpbpjcbkibiaaGreatDoor.B
