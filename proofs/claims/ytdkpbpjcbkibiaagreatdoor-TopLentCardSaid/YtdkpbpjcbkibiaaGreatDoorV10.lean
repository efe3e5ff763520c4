/- LedC Vot VotA VotB VotC -/
import Derived.Test.YtdkpbpjcbkibiaaGreatDoorV0
import Derived.Test.YtdkpbpjcbkibiaaGreatDoorV8
import Derived.Test.YtdkpbpjcbkibiaaGreatDoorV9
import Derived.Test.YtdkpbpjcbkibiaaGreatDoorV6
import Derived.Test.YtdkpbpjcbkibiaaGreatDoorV7
import Derived.Test.YtdkpbpjcbkibiaaGreatDoorV2
set_option linter.all false
set_option maxRecDepth 100000
set_option maxHeartbeats 4000000
namespace Go.Proofs.YtdkpbpjcbkibiaaGreatDoor.B
open Go.RowKit
section
open Go.RowKit
variable{col:Nat→Nat}{w w2:World}{lp ap gp i:Nat}{fs:List (Int×Int)}{K:List ((Int×Int)×Int)}{α:Type}{S:Nat→Prop}{arr:Array Value}{a n:Int}
def rB(col:Nat→Nat)(w:World):Prop:=∀b,w.heap.size≤b→col b=0
theorem rB.mono(h:rB col w)(hs:w.heap.size≤w2.heap.size):rB col w2:=fun b hb=>h b (ayo hs hb)
structure LC(w:World)(col:Nat→Nat)(lp ap gp:Nat)(fs:List (Int×Int))(K:List ((Int×Int)×Int)):Prop where
 ij:jQ w lp ap gp fs
 k5:bq w gp (fun b=>col b=0) 3 fT K
 cl:col lp=0
 ca:col ap=1
 cg:col gp=1
 ne:ap≠gp
theorem LC.la(h:LC w col lp ap gp fs K):LAt w lp ap gp (fun b=>col b=0) fs K:=⟨h.ij,h.k5⟩
theorem LC.below(h:LC w col lp ap gp fs K)(hb:Bw w w2):LC w2 col lp ap gp fs K:=⟨h.ij.below hb,h.k5.below hb,h.cl,h.ca,h.cg,h.ne⟩
theorem bq.turns{gb k:Nat}{Z:Nat→Prop}{enc:α→Array Value}{L:List α}(h:bq w gb Z k enc L)(ht:au S w w2)(hg:¬S gb)(hz:∀b,Z b→¬S b):bq w2 gb Z k enc L:=by
 rcases h with⟨t,r,cap,arr,t',hZ,hp,h⟩|⟨e,t,hp⟩;·exact .inl ⟨t,r,cap,arr,t',hZ,hp.turns ht (by simp only[ayK,ayx,false_implies,implies_true,and_true];exact⟨hg,hz _ hZ⟩),h⟩
 ·exact .inr ⟨e,t,hp.turns ht (by simpa using hg)⟩
theorem jQ.turns(h:jQ w lp ap gp fs)(ht:au S w w2)(h1:¬S lp)(h2:¬S ap):jQ w2 lp ap gp fs:=
 let⟨c,a,hp,ha⟩:=h
 ⟨c,a,hp.turns ht (by simp only[ayK,ayx,false_implies,implies_true,and_true];exact⟨h1,h2⟩),ha⟩
theorem LC.turns(h:LC w col lp ap gp fs K)(ht:au S w w2)(hS:∀b,S b→col b≠0∧col b≠1):LC w2 col lp ap gp fs K:=⟨h.ij.turns ht (fun q=>(hS _ q).1 h.cl) (fun q=>(hS _ q).2 h.ca),h.k5.turns ht (fun q=>(hS _ q).2 h.cg) (fun b q s=>(hS _ s).1 q),h.cl,h.ca,h.cg,h.ne⟩
theorem LC.acc{fs':List (Int×Int)}(h:LC w col lp ap gp fs K)(ht:au (fun b=>b=ap) w w2)(hl:jQ w2 lp ap gp fs'):LC w2 col lp ap gp fs' K:=⟨hl,h.k5.turns ht (fun e=>h.ne e.symm) (fun b q e=>by subst e;rw[h.ca]at q;cases q),h.cl,h.ca,h.cg,h.ne⟩
theorem LC.O3{K':List ((Int×Int)×Int)}(h:LC w col lp ap gp fs K)(ht:au (fun b=>b=gp) w w2)(hg:bq w2 gp (fun b=>col b=0) 3 fT K'):LC w2 col lp ap gp fs K':=⟨h.ij.turns ht (fun e=>by have:=h.cl;rw[e,h.cg]at this;cases this) h.ne,hg,h.cl,h.ca,h.cg,h.ne⟩
def acc(fs:List (Int×Int))(i:Nat):Int×Int:=fs.getD i (0,0)
def afy(fs:List (Int×Int))(i:Nat)(n:Int):List (Int×Int):=fs.set i (wrap64 ((acc fs i).1-n),(acc fs i).2)
def aaq(fs:List (Int×Int))(i:Nat)(n:Int):List (Int×Int):=fs.set i (wrap64 ((acc fs i).1+n),(acc fs i).2)
def alW(fs:List (Int×Int))(i:Nat)(n:Int):List (Int×Int):=fs.set i ((acc fs i).1,wrap64 ((acc fs i).2-n))
def alX(fs:List (Int×Int))(i:Nat)(n:Int):List (Int×Int):=fs.set i ((acc fs i).1,wrap64 ((acc fs i).2+n))
theorem km.BP(h:km arr fs)(hi:i<10):arr[i*2]?=some (.int .i64 (acc fs i).1):=by
 have hl:i<fs.length:=by rw[h.len];exact hi
 rw[h.free i fs[i] (ayq hl)];simp[acc,List.getD,hl]
theorem km.O4(h:km arr fs)(hi:i<10):arr[i*2+1]?=some (.int .i64 (acc fs i).2):=by
 have hl:i<fs.length:=by rw[h.len];exact hi
 rw[h.held i fs[i] (ayq hl)];simp[acc,List.getD,hl]
theorem km.O5(h:km arr fs)(hi:i<10)(v:Int):km (bt arr (i*2) [.int .i64 v]) (fs.set i (v,(acc fs i).2)):=by
 have hs:=h.size;have hf:i*2+([.int .i64 v]:List Value).length≤arr.size:=by show i*2+1≤_;omega
 have hl:([.int .i64 v]:List Value).length=1:=rfl;refine⟨by rw[bp hf];exact hs,by rw[azx];exact h.len,fun j x hx=>?_,fun j x hx=>?_⟩;all_goals rw[aze]at hx
 ·split at hx
  ·rename_i e;subst e;split at hx;·cases hx;rw[cy (k:=0) (azt _).symm (by show 0<1;omega) om];rfl
   ·cases hx
  ·rename_i e;rw[aV om hf];exact h.free j x hx
 ·rw[aV om hf];split at hx
  ·rename_i e;subst e;split at hx;·cases hx;exact h.O4 hi
   ·cases hx
  ·exact h.held j x hx
theorem km.afz(h:km arr fs)(hi:i<10)(v:Int):km (bt arr (i*2+1) [.int .i64 v]) (fs.set i ((acc fs i).1,v)):=by
 have hs:=h.size;have hf:i*2+1+([.int .i64 v]:List Value).length≤arr.size:=by show i*2+1+1≤_;omega
 have hl:([.int .i64 v]:List Value).length=1:=rfl;refine⟨by rw[bp hf];exact hs,by rw[azx];exact h.len,fun j x hx=>?_,fun j x hx=>?_⟩;all_goals rw[aze]at hx
 ·rw[aV om hf];split at hx
  ·rename_i e;subst e;split at hx;·cases hx;exact h.BP hi
   ·cases hx
  ·exact h.free j x hx
 ·split at hx
  ·rename_i e;subst e;split at hx;·cases hx;rw[cy (k:=0) (azt _).symm (by show 0<1;omega) om];rfl
   ·cases hx
  ·rename_i e;rw[aV om hf];exact h.held j x hx
theorem aar{x:Int×Int}(h:fs[i]?=some x):acc fs i=x:=by simp[acc,List.getD,h]
def Fc(a:Int):Bool:=decide (0≤a∧a<10)
theorem sK(h:jQ w lp ap gp fs)(h0:Fc a=true):CB 33 #[.pointer (some ⟨lp,0,none⟩),.int .i64 a] w (.tuple #[.agg #[.int .i64 (acc fs a.toNat).1,.int .i64 (acc fs a.toNat).2],.bool true]):=by obtain⟨x,hx⟩:=h.get (of_decide_eq_true h0);rw[aar hx];exact Dt h (of_decide_eq_true h0) hx
theorem sL(h:jQ w lp ap gp fs)(h0:¬Fc a=true):CB 33 #[.pointer (some ⟨lp,0,none⟩),.int .i64 a] w (.tuple #[.agg #[.int .i64 0,.int .i64 0],.bool false]):=Du h (fun q=>h0 (decide_eq_true q))
def dw(fs:List (Int×Int))(K:List ((Int×Int)×Int))(a n:Int):Int:=
 if Fc a=true then if dn n 0 1073741824=true then if(acc fs a.toNat).1<n then 6 else if 0<n then if wrap64 ((acc fs a.toNat).1-n)<Dv K a then 7 else 0 else 0 else 1 else 1
theorem BQ(h:dw fs K a n=0):Fc a=true:=by
 unfold dw at h;split at h;·assumption
 ·cases h
theorem jg(h:Fc a=true):a.toNat<10:=by have:=of_decide_eq_true h;omega
theorem mC(h:Fc a=true):0≤a:=(of_decide_eq_true h).1
theorem kd(h:Fc a=true):a<10:=(of_decide_eq_true h).2
theorem Fe(hl:LC w col lp ap gp fs K)(a n:Int):CB 69 #[.pointer (some ⟨lp,0,none⟩),.int .i64 a,.int .i64 n] w (.int .i64 (dw fs K a n)):=by
 have hp:=Hp.nil w;have hB:=Below.refl w.heap.size w;refine fe Tryz.func69 Tryz.ntmps69 ?_;refine go ?_;by_cases c1:Fc a=true
 ·refine cC (sK (hl.ij.below hB) c1) fun w2 js hp hB=>?_;refine jJ fun g4 w5 n6 hp aL hB=>?_;refine gG aL fun w8 p7 hp hB=>?_;by_cases c9:dn n 0 1073741824=true
  ·refine cC (((show dn n 0 1073741824=true from c9)▸fO n:fq 94 _ (.bool true)) _) fun o2 oO hp hB=>?_;by_cases iB:(acc fs a.toNat).1<n;·refine go ?_;refine p1 ?_;exact⟨by simp[dw,c1,c9,iB],hB⟩
   refine go ?_;refine vZ ?_;refine gq ?_;by_cases ng:(0:Int)<n
   ·refine gq ?_;refine qs (i6 (wrap64 (((acc fs a.toNat).1)-n))) (fun w' h'=>fH rfl rfl rfl) ?_;refine gq ?_;refine qc (fun w' h'=>dJ h' (BN (hl.la.below (U hB h')) a)) ?_;by_cases oE:wrap64 (((acc fs a.toNat).1)-n)<(Dv K a);·refine gq ?_;refine nB fun pb jx hp hB=>?_;refine go ?_;refine p1 ?_;exact⟨by simp[dw,c1,c9,iB,ng,oE],hB⟩
    refine gq ?_;refine nB fun s6 gC hp hB=>?_;refine go ?_;refine p1 ?_;exact⟨by simp[dw,c1,c9,iB,ng,oE],hB⟩
   refine gq ?_;refine nB fun uH jA hp hB=>?_;refine go ?_;refine p1 ?_;exact⟨by simp[dw,c1,c9,iB,ng],hB⟩
  refine cC (((show dn n 0 1073741824=false from(by simpa using c9))▸fO n:fq 94 _ (.bool false)) _) fun uG fw hp hB=>?_;refine p1 ?_;exact⟨by simp[dw,c1,c9],hB⟩
 refine cC (sL (hl.ij.below hB) c1) fun wu rC hp hB=>?_;refine jJ fun Jw tN n27 hp BR hB=>?_;refine gG BR fun zp p28 hp hB=>?_;refine p1 ?_;exact⟨by simp[dw,c1],hB⟩
def ir(fs:List (Int×Int))(K:List ((Int×Int)×Int))(a n:Int):List (Int×Int):=if dw fs K a n=0 then alX (afy fs a.toNat n) a.toNat n else fs
def dV(fs:List (Int×Int))(a n:Int):Int:=if Fc a=true then mx (mn n (acc fs a.toNat).2) 0 else 0
def iN(fs:List (Int×Int))(a n:Int):List (Int×Int):=if Fc a=true then alW fs a.toNat (dV fs a n)else fs
def jB(fs:List (Int×Int))(a n:Int):List (Int×Int):=if 0<dV fs a n then aaq (iN fs a n) a.toNat (dV fs a n)else iN fs a n
def oP(fs:List (Int×Int))(a n:Int):List (Int×Int):=if 0<dV fs a n then aaq (iN fs a n) 0 (dV fs a n)else iN fs a n
def iu(fs:List (Int×Int))(K:List ((Int×Int)×Int))(a b n:Int):Int:=if Fc b=true then if dw fs K a n=7 then if a=b then 0 else 7 else dw fs K a n else 1
def fg(fs:List (Int×Int))(K:List ((Int×Int)×Int))(a b n:Int):List (Int×Int):=if Fc b=true then if dw fs K a n=0 then aaq (afy fs a.toNat n) b.toNat n else fs else fs
def mR(K:List ((Int×Int)×Int))(a i n:Int):List ((Int×Int)×Int):=if Fc a=true then if n≤0∨1073741824<n then nU K a i else ej K a i n else K
theorem Lf(hl:LC w col lp ap gp fs K)(a n:Int):CP 71 #[.pointer (some ⟨lp,0,none⟩),i6 a,i6 n] w fun e w'=>e=.returned (.int .i64 (dw fs K a n))∧LC w' col lp ap gp (ir fs K a n) K∧au (fun b=>b=ap) w w':=by
 obtain⟨cap,arr,hp,ha⟩:=hl.ij;have hT:=au.refl (fun b=>b=ap) w;refine fe Tryz.func71 Tryz.ntmps71 ?_;refine go ?_;refine tK (Fe (hl.acc hT ⟨cap,_,(hp.sub ((.cons_cons _ (.cons_cons _ .slnil)))),ha⟩) a n) fun w1 er hp=>?_;have hT:=hT.step er;by_cases c3:(dw fs K a n)=0
 ·have ga:=BQ c3;refine go ?_;refine ak (pA ap (a.toNat*2)) (cX (l:=10) (j:=a) (off:=0) (sz:=2) U122 kr rfl rfl (mC ga) (kd ga) (by simp)) ?_;refine ak (i6 ((acc fs a.toNat).1)) (ay (hp.at 1) (ha.BP (i:=a.toNat) (jg ga)) U3 rfl) ?_;refine ak (i6 (wrap64 (((acc fs a.toNat).1)-n))) (fH rfl rfl rfl) ?_;refine ak (pA ap (a.toNat*2)) (cX (l:=10) (j:=a) (off:=0) (sz:=2) U122 kr rfl rfl (mC ga) (kd ga) (by simp)) ?_;refine aU (i:=a.toNat*2) (v:=i6 (wrap64 (((acc fs a.toNat).1)-n))) (hp.at 1) rfl rfl kr (by have:=ha.size;have:=jg ga;show a.toNat*2+1≤_;omega) (by simp[Value.oneCell',Value.cells]) (fun w5 p4=>ab ?_);have ha7:=ha.O5 (i:=a.toNat) (jg ga) (wrap64 (((acc fs a.toNat).1)-n));obtain⟨Bl,ku⟩:∃z,z=bt arr (a.toNat*2) [i6 (wrap64 (((acc fs a.toNat).1)-n))]:=⟨_,rfl⟩;rw[←ku]at ha7;have p4:=cL (cs':=Bl) p4 (by rw[ku];rfl);obtain⟨XF,afC⟩:∃z,z=fs.set a.toNat (wrap64 (((acc fs a.toNat).1)-n),(acc fs a.toNat).2):=⟨_,rfl⟩;rw[←afC]at ha7;have hp:=(hp.put 1 p4).nf;have hT:=hT.put p4 (.inl rfl);refine go ?_;refine ak (pA ap (a.toNat*2)) (cX (l:=10) (j:=a) (off:=0) (sz:=2) U122 kr rfl rfl (mC ga) (kd ga) (by simp)) ?_;refine ak (i6 ((acc XF a.toNat).2)) (ay (hp.at 1) (ha7.O4 (i:=a.toNat) (jg ga)) U3 rfl) ?_;refine ak (i6 (wrap64 (((acc XF a.toNat).2)+n))) (aC rfl rfl rfl) ?_;refine ak (pA ap (a.toNat*2)) (cX (l:=10) (j:=a) (off:=0) (sz:=2) U122 kr rfl rfl (mC ga) (kd ga) (by simp)) ?_;refine aU (i:=a.toNat*2+1) (v:=i6 (wrap64 (((acc XF a.toNat).2)+n))) (hp.at 1) rfl rfl kr (by have:=ha7.size;have:=jg ga;show a.toNat*2+1+1≤_;omega) (by simp[Value.oneCell',Value.cells]) (fun o2 p9=>ab ?_);have Hx:=ha7.afz (i:=a.toNat) (jg ga) (wrap64 (((acc XF a.toNat).2)+n));obtain⟨O6,zq⟩:∃z,z=bt Bl (a.toNat*2+1) [i6 (wrap64 (((acc XF a.toNat).2)+n))]:=⟨_,rfl⟩;rw[←zq]at Hx;have p9:=cL (cs':=O6) p9 (by rw[zq];rfl);obtain⟨aat,Ff⟩:∃z,z=XF.set a.toNat ((acc XF a.toNat).1,wrap64 (((acc XF a.toNat).2)+n)):=⟨_,rfl⟩;rw[←Ff]at Hx;have hp:=(hp.put 1 p9).nf;have hT:=hT.put p9 (.inl rfl);refine go ?_;refine p1 ?_;refine⟨rfl,?_,hT⟩;have q:=hl.acc hT ⟨cap,_,(hp.sub ((.cons_cons _ (.cons_cons _ .slnil)))),Hx⟩;have e:ir fs K a n=aat:=by unfold ir;rw[if_pos c3,Ff,afC];rfl
  rw[e];exact q
 refine go ?_;refine p1 ?_;refine⟨rfl,?_,hT⟩;have q:=hl.acc hT ⟨cap,_,(hp.sub ((.cons_cons _ (.cons_cons _ .slnil)))),ha⟩;rw[show ir fs K a n=fs from if_neg c3];exact q
theorem Fg(hl:LC w col lp ap gp fs K)(a n:Int):CP 120 #[.pointer (some ⟨lp,0,none⟩),i6 a,i6 n] w fun e w'=>e=.returned (.int .i64 (dV fs a n))∧LC w' col lp ap gp (iN fs a n) K∧au (fun b=>b=ap) w w':=by
 obtain⟨cap,arr,hp,ha⟩:=hl.ij;have hT:=au.refl (fun b=>b=ap) w;refine fe Tryz.func120 Tryz.ntmps120 ?_;refine go ?_;by_cases c1:Fc a=true
 ·have ga:=c1;refine tK (sK (hl.acc hT ⟨cap,_,(hp.sub ((.cons_cons _ (.cons_cons _ .slnil)))),ha⟩).ij c1) fun w2 js hp=>?_;have hT:=hT.step js;refine alg fun g4 w5 n6 hp=>?_;have lZ:=ayo hT.size n6.fresh;have hT:=hT.step n6.below;refine tJ fun w8 p7 hp=>?_;have hT:=hT.put p7 (.inr lZ);refine ak (i6 (mn n ((acc fs a.toNat).2))) (xG rfl rfl) ?_;refine ak (i6 (mx (mn n ((acc fs a.toNat).2)) 0)) (qF rfl rfl) ?_;refine ak (pA ap (a.toNat*2)) (cX (l:=10) (j:=a) (off:=0) (sz:=2) U122 kr rfl rfl (mC ga) (kd ga) (by simp)) ?_;refine ak (i6 ((acc fs a.toNat).2)) (ay (hp.at 2) (ha.O4 (i:=a.toNat) (jg ga)) U3 rfl) ?_;refine ak (i6 (wrap64 (((acc fs a.toNat).2)-(mx (mn n ((acc fs a.toNat).2)) 0)))) (fH rfl rfl rfl) ?_;refine ak (pA ap (a.toNat*2)) (cX (l:=10) (j:=a) (off:=0) (sz:=2) U122 kr rfl rfl (mC ga) (kd ga) (by simp)) ?_;refine aU (i:=a.toNat*2+1) (v:=i6 (wrap64 (((acc fs a.toNat).2)-(mx (mn n ((acc fs a.toNat).2)) 0)))) (hp.at 2) rfl rfl kr (by have:=ha.size;have:=jg ga;show a.toNat*2+1+1≤_;omega) (by simp[Value.oneCell',Value.cells]) (fun o2 p9=>ab ?_);have Hx:=ha.afz (i:=a.toNat) (jg ga) (wrap64 (((acc fs a.toNat).2)-(mx (mn n ((acc fs a.toNat).2)) 0)));obtain⟨O6,zq⟩:∃z,z=bt arr (a.toNat*2+1) [i6 (wrap64 (((acc fs a.toNat).2)-(mx (mn n ((acc fs a.toNat).2)) 0)))]:=⟨_,rfl⟩;rw[←zq]at Hx;have p9:=cL (cs':=O6) p9 (by rw[zq];rfl);obtain⟨aat,Ff⟩:∃z,z=fs.set a.toNat ((acc fs a.toNat).1,wrap64 (((acc fs a.toNat).2)-(mx (mn n ((acc fs a.toNat).2)) 0))):=⟨_,rfl⟩;rw[←Ff]at Hx;have hp:=(hp.put 2 p9).nf;have hT:=hT.put p9 (.inl rfl);refine go ?_;refine p1 ?_;refine⟨by unfold dV;rw[if_pos ga],?_,hT⟩;have q:=hl.acc hT ⟨cap,_,(hp.sub ((.cons _ (.cons_cons _ (.cons_cons _ .slnil))))),Hx⟩;have e:iN fs a n=aat:=by unfold iN dV;rw[if_pos ga,if_pos ga,Ff];rfl
  rw[e];exact q
 refine tK (sL (hl.acc hT ⟨cap,_,(hp.sub ((.cons_cons _ (.cons_cons _ .slnil)))),ha⟩).ij c1) fun ui kM hp=>?_;have hT:=hT.step kM;refine alg fun g16 s6 Ta hp=>?_;have sM:=ayo hT.size Ta.fresh;have hT:=hT.step Ta.below;refine tJ fun re pY hp=>?_;have hT:=hT.put pY (.inr sM);refine p1 ?_;refine⟨by unfold dV;rw[if_neg c1],?_,hT⟩;have q:=hl.acc hT ⟨cap,_,(hp.sub ((.cons _ (.cons_cons _ (.cons_cons _ .slnil))))),ha⟩;rw[show iN fs a n=fs from if_neg c1];exact q
theorem BT(h:0<dV fs a n):Fc a=true:=by
 unfold dV at h;split at h;·assumption
 ·omega
theorem pq(L:List ((Int×Int)×α))(a b:Int)(v:α):(ej L a b v).length≤L.length+1:=by
 have:=j4 L a b;unfold ej;split;·simp
 ·simp;omega
theorem Lg(hl:LC w col lp ap gp fs K)(a n:Int):CP 73 #[.pointer (some ⟨lp,0,none⟩),i6 a,i6 n] w fun e w'=>e=.returned (.int .i64 (dV fs a n))∧LC w' col lp ap gp (jB fs a n) K∧au (fun b=>b=ap) w w':=by
 obtain⟨cap,arr,hp,ha⟩:=hl.ij;have hT:=au.refl (fun b=>b=ap) w;refine fe Tryz.func73 Tryz.ntmps73 ?_;refine go ?_;refine ce (Fg (hl.acc hT ⟨cap,_,(hp.sub ((.cons_cons _ (.cons_cons _ .slnil)))),ha⟩) a n) ?_;rintro _ w1 ⟨rfl,v8,yi⟩;refine⟨_,rfl,ab ?_⟩;obtain⟨cap,arr,hp,ha⟩:=v8.ij;have hT:=hT.trans (yi.mono fun b _ e=>.inl e);refine go ?_;by_cases c2:(0:Int)<(dV fs a n);·have ga:=BT c2;refine go ?_;refine ak (pA ap (a.toNat*2)) (cX (l:=10) (j:=a) (off:=0) (sz:=2) U122 kr rfl rfl (mC ga) (kd ga) (by simp)) ?_;refine ak (i6 ((acc (iN fs a n) a.toNat).1)) (ay (hp.at 1) (ha.BP (i:=a.toNat) (jg ga)) U3 rfl) ?_;refine ak (i6 (wrap64 (((acc (iN fs a n) a.toNat).1)+(dV fs a n)))) (aC rfl rfl rfl) ?_;refine ak (pA ap (a.toNat*2)) (cX (l:=10) (j:=a) (off:=0) (sz:=2) U122 kr rfl rfl (mC ga) (kd ga) (by simp)) ?_;refine aU (i:=a.toNat*2) (v:=i6 (wrap64 (((acc (iN fs a n) a.toNat).1)+(dV fs a n)))) (hp.at 1) rfl rfl kr (by have:=ha.size;have:=jg ga;show a.toNat*2+1≤_;omega) (by simp[Value.oneCell',Value.cells]) (fun w4 p3=>ab ?_);have ha6:=ha.O5 (i:=a.toNat) (jg ga) (wrap64 (((acc (iN fs a n) a.toNat).1)+(dV fs a n)));obtain⟨aav,Fh⟩:∃z,z=bt arr (a.toNat*2) [i6 (wrap64 (((acc (iN fs a n) a.toNat).1)+(dV fs a n)))]:=⟨_,rfl⟩;rw[←Fh]at ha6;have p3:=cL (cs':=aav) p3 (by rw[Fh];rfl);obtain⟨fs5,O7⟩:∃z,z=(iN fs a n).set a.toNat (wrap64 (((acc (iN fs a n) a.toNat).1)+(dV fs a n)),(acc (iN fs a n) a.toNat).2):=⟨_,rfl⟩;rw[←O7]at ha6;have hp:=(hp.put 1 p3).nf;have hT:=hT.put p3 (.inl rfl);refine go ?_;refine p1 ?_;refine⟨rfl,?_,hT⟩;have q:=hl.acc hT ⟨cap,_,(hp.sub ((.cons_cons _ (.cons_cons _ .slnil)))),ha6⟩;rw[show jB fs a n=fs5 by unfold jB;rw[if_pos c2,O7];rfl];exact q
 refine go ?_;refine p1 ?_;refine⟨rfl,?_,hT⟩;have q:=hl.acc hT ⟨cap,_,(hp.sub ((.cons_cons _ (.cons_cons _ .slnil)))),ha⟩;rw[show jB fs a n=iN fs a n from if_neg c2];exact q
theorem O8(hl:LC w col lp ap gp fs K)(a n:Int):CP 234 #[.pointer (some ⟨lp,0,none⟩),i6 a,i6 n] w fun e w'=>e=.returned (.int .i64 (dV fs a n))∧LC w' col lp ap gp (oP fs a n) K∧au (fun b=>b=ap) w w':=by
 obtain⟨cap,arr,hp,ha⟩:=hl.ij;have hT:=au.refl (fun b=>b=ap) w;refine fe Tryz.func234 Tryz.ntmps234 ?_;refine go ?_;refine ce (Fg (hl.acc hT ⟨cap,_,(hp.sub ((.cons_cons _ (.cons_cons _ .slnil)))),ha⟩) a n) ?_;rintro _ w1 ⟨rfl,v8,yi⟩;refine⟨_,rfl,ab ?_⟩;obtain⟨cap,arr,hp,ha⟩:=v8.ij;have hT:=hT.trans (yi.mono fun b _ e=>.inl e);refine go ?_;by_cases c2:(0:Int)<(dV fs a n);·have ga:=BT c2;refine go ?_;refine ak (pA ap 0) (cX (l:=10) (j:=0) (off:=0) (sz:=2) U122 kr rfl rfl dd dd rfl) ?_;refine ak (i6 ((acc (iN fs a n) 0).1)) (ay (hp.at 1) (ha.BP (i:=0) dd) U3 rfl) ?_;refine ak (i6 (wrap64 (((acc (iN fs a n) 0).1)+(dV fs a n)))) (aC rfl rfl rfl) ?_;refine ak (pA ap 0) (cX (l:=10) (j:=0) (off:=0) (sz:=2) U122 kr rfl rfl dd dd rfl) ?_;refine aU (i:=0) (v:=i6 (wrap64 (((acc (iN fs a n) 0).1)+(dV fs a n)))) (hp.at 1) rfl rfl kr (by have:=ha.size;have:=hT.size;show 0+1≤_;omega) (by simp[Value.oneCell',Value.cells]) (fun w4 p3=>ab ?_);have ha6:=ha.O5 (i:=0) dd (wrap64 (((acc (iN fs a n) 0).1)+(dV fs a n)));obtain⟨aav,Fh⟩:∃z,z=bt arr (0*2) [i6 (wrap64 (((acc (iN fs a n) 0).1)+(dV fs a n)))]:=⟨_,rfl⟩;rw[←Fh]at ha6;have p3:=cL (cs':=aav) p3 (by rw[Fh];rfl);obtain⟨fs5,O7⟩:∃z,z=(iN fs a n).set 0 (wrap64 (((acc (iN fs a n) 0).1)+(dV fs a n)),(acc (iN fs a n) 0).2):=⟨_,rfl⟩;rw[←O7]at ha6;have hp:=(hp.put 1 p3).nf;have hT:=hT.put p3 (.inl rfl);refine go ?_;refine p1 ?_;refine⟨rfl,?_,hT⟩;have q:=hl.acc hT ⟨cap,_,(hp.sub ((.cons_cons _ (.cons_cons _ .slnil)))),ha6⟩;rw[show oP fs a n=fs5 by unfold oP;rw[if_pos c2,O7];rfl];exact q
 refine go ?_;refine p1 ?_;refine⟨rfl,?_,hT⟩;have q:=hl.acc hT ⟨cap,_,(hp.sub ((.cons_cons _ (.cons_cons _ .slnil)))),ha⟩;rw[show oP fs a n=iN fs a n from if_neg c2];exact q
theorem Hy(hl:LC w col lp ap gp fs K)(a b n:Int):CP 38 #[.pointer (some ⟨lp,0,none⟩),i6 a,i6 b,i6 n] w fun e w'=>e=.returned (.int .i64 (iu fs K a b n))∧LC w' col lp ap gp (fg fs K a b n) K∧au (fun b=>b=ap) w w':=by
 obtain⟨cap,arr,hp,ha⟩:=hl.ij;have hT:=au.refl (fun b=>b=ap) w;refine fe Tryz.func38 Tryz.ntmps38 ?_;refine go ?_;refine tK (Fe (hl.acc hT ⟨cap,_,(hp.sub ((.cons_cons _ (.cons_cons _ .slnil)))),ha⟩) a n) fun w1 er hp=>?_;have hT:=hT.step er;by_cases c3:Fc b=true
 ·have gb:=c3;refine tK (sK (hl.acc hT ⟨cap,_,(hp.sub ((.cons_cons _ (.cons_cons _ .slnil)))),ha⟩).ij c3) fun w4 qH hp=>?_;have hT:=hT.step qH;refine alg fun g6 w7 n8 hp=>?_;have O9:=ayo hT.size n8.fresh;have hT:=hT.step n8.below;refine tJ fun o2 p9 hp=>?_;have hT:=hT.put p9 (.inr O9);by_cases gA:(dw fs K a n)=7
  ·refine go ?_;by_cases iB:a=b;·refine go ?_;refine p1 ?_;refine⟨by subst iB;simp[iu,c3,gA],?_,hT⟩;have q:=hl.acc hT ⟨cap,_,(hp.sub ((.cons _ (.cons_cons _ (.cons_cons _ .slnil))))),ha⟩;rw[show fg fs K a b n=fs by subst iB;simp[fg,c3,gA]];exact q
   refine go ?_;refine ak (.bool false) (ER (m:=(dw fs K a n)) (n:=0) rfl rfl (decide_eq_false (by rw[gA];decide)) U27) ?_;refine p1 ?_;refine⟨by simp[iu,c3,gA,iB],?_,hT⟩;have q:=hl.acc hT ⟨cap,_,(hp.sub ((.cons _ (.cons_cons _ (.cons_cons _ .slnil))))),ha⟩;rw[show fg fs K a b n=fs by simp[fg,c3,gA,iB]];exact q
  refine go ?_;by_cases ng:(dw fs K a n)=0;·have ga:=BQ ng;refine go ?_;refine ak (pA ap (a.toNat*2)) (cX (l:=10) (j:=a) (off:=0) (sz:=2) U122 kr rfl rfl (mC ga) (kd ga) (by simp)) ?_;refine ak (i6 ((acc fs a.toNat).1)) (ay (hp.at 2) (ha.BP (i:=a.toNat) (jg ga)) U3 rfl) ?_;refine ak (i6 (wrap64 (((acc fs a.toNat).1)-n))) (fH rfl rfl rfl) ?_;refine ak (pA ap (a.toNat*2)) (cX (l:=10) (j:=a) (off:=0) (sz:=2) U122 kr rfl rfl (mC ga) (kd ga) (by simp)) ?_;refine aU (i:=a.toNat*2) (v:=i6 (wrap64 (((acc fs a.toNat).1)-n))) (hp.at 2) rfl rfl kr (by have:=ha.size;have:=jg ga;show a.toNat*2+1≤_;omega) (by simp[Value.oneCell',Value.cells]) (fun pb ov=>ab ?_);have Pa:=ha.O5 (i:=a.toNat) (jg ga) (wrap64 (((acc fs a.toNat).1)-n));obtain⟨XG,Pb⟩:∃z,z=bt arr (a.toNat*2) [i6 (wrap64 (((acc fs a.toNat).1)-n))]:=⟨_,rfl⟩;rw[←Pb]at Pa;have ov:=cL (cs':=XG) ov (by rw[Pb];rfl);obtain⟨Fi,XH⟩:∃z,z=fs.set a.toNat (wrap64 (((acc fs a.toNat).1)-n),(acc fs a.toNat).2):=⟨_,rfl⟩;rw[←XH]at Pa;have hp:=(hp.put 2 ov).nf;have hT:=hT.put ov (.inl rfl);refine go ?_;refine ak (pA ap (b.toNat*2)) (cX (l:=10) (j:=b) (off:=0) (sz:=2) U122 kr rfl rfl (mC gb) (kd gb) (by simp)) ?_;refine ak (i6 ((acc Fi b.toNat).1)) (ay (hp.at 2) (Pa.BP (i:=b.toNat) (jg gb)) U3 rfl) ?_;refine ak (i6 (wrap64 (((acc Fi b.toNat).1)+n))) (aC rfl rfl rfl) ?_;refine ak (pA ap (b.toNat*2)) (cX (l:=10) (j:=b) (off:=0) (sz:=2) U122 kr rfl rfl (mC gb) (kd gb) (by simp)) ?_;refine aU (i:=b.toNat*2) (v:=i6 (wrap64 (((acc Fi b.toNat).1)+n))) (hp.at 2) rfl rfl kr (by have:=Pa.size;have:=jg gb;show b.toNat*2+1≤_;omega) (by simp[Value.oneCell',Value.cells]) (fun re pY=>ab ?_);have aaw:=Pa.O5 (i:=b.toNat) (jg gb) (wrap64 (((acc Fi b.toNat).1)+n));obtain⟨Jy,zr⟩:∃z,z=bt XG (b.toNat*2) [i6 (wrap64 (((acc Fi b.toNat).1)+n))]:=⟨_,rfl⟩;rw[←zr]at aaw;have pY:=cL (cs':=Jy) pY (by rw[zr];rfl);obtain⟨alZ,XI⟩:∃z,z=Fi.set b.toNat (wrap64 (((acc Fi b.toNat).1)+n),(acc Fi b.toNat).2):=⟨_,rfl⟩;rw[←XI]at aaw;have hp:=(hp.put 2 pY).nf;have hT:=hT.put pY (.inl rfl);refine go ?_;refine p1 ?_;refine⟨by simp[iu,c3,gA,ng],?_,hT⟩;have q:=hl.acc hT ⟨cap,_,(hp.sub ((.cons _ (.cons_cons _ (.cons_cons _ .slnil))))),aaw⟩;rw[show fg fs K a b n=alZ by unfold fg;rw[if_pos gb,if_pos ng,XI,XH];rfl];exact q
  refine go ?_;refine p1 ?_;refine⟨by simp[iu,c3,gA,ng],?_,hT⟩;have q:=hl.acc hT ⟨cap,_,(hp.sub ((.cons _ (.cons_cons _ (.cons_cons _ .slnil))))),ha⟩;rw[show fg fs K a b n=fs by simp[fg,c3,gA,ng]];exact q
 refine tK (sL (hl.acc hT ⟨cap,_,(hp.sub ((.cons_cons _ (.cons_cons _ .slnil)))),ha⟩).ij c3) fun AZ jh hp=>?_;have hT:=hT.step jh;refine alg fun Lh BU n28 hp=>?_;have Li:=ayo hT.size n28.fresh;have hT:=hT.step n28.below;refine tJ fun NS p29 hp=>?_;have hT:=hT.put p29 (.inr Li);refine p1 ?_;refine⟨by simp[iu,c3],?_,hT⟩;have q:=hl.acc hT ⟨cap,_,(hp.sub ((.cons _ (.cons_cons _ (.cons_cons _ .slnil))))),ha⟩;rw[show fg fs K a b n=fs by simp[fg,c3]];exact q
theorem Jz(hl:LC w col lp ap gp fs K)(bG:rB col w)(hK:K.length<999000)(a i n:Int):CP 141 #[.pointer (some ⟨lp,0,none⟩),.int .i64 a,.int .i64 i,.int .i64 n] w fun e w'=>e=.returned (.tuple #[])∧LC w' col lp ap gp fs (mR K a i n)∧au (fun b=>b=gp) w w':=by
 obtain⟨cap,arr,hp,ha⟩:=hl.ij;have hB:=Below.refl w.heap.size w;have hT:=au.refl (fun b=>b=gp) w;refine fe Tryz.func141 Tryz.ntmps141 ?_;refine go ?_;by_cases c1:Fc a=true
 ·refine cC (sK (hl.ij.below hB) c1) fun w2 js hp hB=>?_;have hT:=hT.step js;refine jJ fun g4 w5 n6 hp aL hB=>?_;have lZ:=ayo hT.size n6.fresh;have hT:=hT.step n6.below;refine gG aL fun w8 p7 hp hB=>?_;have hT:=hT.put p7 (.inr lZ);by_cases c9:n≤0;·refine go ?_;refine ce (XE (hl.k5.below hB) om a i) ?_;rintro _ o2 ⟨rfl,hg,yi⟩;refine⟨_,rfl,ab ?_⟩;have wi:=hl.below hB;have jv:=hB.size;have hT:=hT.trans (yi.mono fun b _ e=>.inl e);refine go ?_;refine cK ?_;refine⟨rfl,?_,hT⟩;rw[show mR K a i n=nU K a i by simp[mR,c1,c9]];exact wi.O3 yi (hg.mono fun b q=>by first|exact bG b om|exact q.elim (fun q=>bG b om) id)
  refine go ?_;by_cases gA:(1073741824:Int)<n;·refine go ?_;refine ce (XE (hl.k5.below hB) om a i) ?_;rintro _ pW ⟨rfl,hg,yi⟩;refine⟨_,rfl,ab ?_⟩;have wi:=hl.below hB;have jv:=hB.size;have hT:=hT.trans (yi.mono fun b _ e=>.inl e);refine go ?_;refine cK ?_;refine⟨rfl,?_,hT⟩;rw[show mR K a i n=nU K a i by simp[mR,c1,c9,gA]];exact wi.O3 yi (hg.mono fun b q=>by first|exact bG b om|exact q.elim (fun q=>bG b om) id)
  refine go ?_;refine ce (afx (hl.k5.below hB) om a i n) ?_;rintro _ oD ⟨rfl,hg,yi⟩;refine⟨_,rfl,ab ?_⟩;have wi:=hl.below hB;have jv:=hB.size;have hT:=hT.trans (yi.mono fun b _ e=>.inl e);refine go ?_;refine cK ?_;refine⟨rfl,?_,hT⟩;rw[show mR K a i n=ej K a i n by simp[mR,c1,c9,gA]];exact wi.O3 yi (hg.mono fun b q=>by first|exact bG b om|exact q.elim (fun q=>bG b om) id)
 refine cC (sL (hl.ij.below hB) c1) fun ui kM hp hB=>?_;have hT:=hT.step kM;refine jJ fun g16 s6 Ta hp Lj hB=>?_;have sM:=ayo hT.size Ta.fresh;have hT:=hT.step Ta.below;refine gG Lj fun re pY hp hB=>?_;have hT:=hT.put pY (.inr sM);refine cK ?_;refine⟨rfl,?_,hT⟩;rw[show mR K a i n=K by simp[mR,c1]];exact hl.below hB
end
section
open Go.RowKit
variable{w w2:World}{col:Nat→Nat}{V:List ((Int×Int)×cZ)}{a t i b:Int}
structure cH where
 aa:Int
 av:j3
 state:Int
 end_:Int
structure Dlg where
 iV:Int
 level:Int
 n:Int
structure fU where
 ef:Option Dlg
 bP:Wt
 aZ:Int
 n:Int
def vz:fU:=⟨none,⟨0,0⟩,0,0⟩
structure VG where
 vp:Nat
 vg:Nat
 rg:Nat
 pid:Nat→Nat
 ji:Int→Int→Nat
 oQ:Int→Int→Nat
def kv(b:Bool)(g:Nat):Value:=.pointer (if b=true then some ⟨g,0,none⟩else none)
def qJ(p:cH):Array Value:=#[.int .i64 p.aa,.int .i64 p.av.cI,.int .i64 p.av.da,.int .i64 p.av.support,.int .i64 p.state,.int .i64 p.end_]
def recC(d:Nat)(r:fU):Array Value:=#[kv r.ef.isSome d,.int .i64 r.bP.dm,.int .i64 r.bP.ds,.int .i64 r.aZ,.int .i64 r.n]
def aax(d:Dlg):Array Value:=#[.int .i64 d.iV,.int .i64 d.level,.int .i64 d.n]
structure Lk(arr:Array Value)(g:VG)(P:Nat→Option cH):Prop where
 size:arr.size=14
 vg:arr[12]?=some (.pointer (some ⟨g.vg,0,none⟩))
 rg:arr[13]?=some (.pointer (some ⟨g.rg,0,none⟩))
 pv:∀i,i<12→arr[i]?=some (kv (P i).isSome (g.pid i))
abbrev kF:=List ((Int×Int)×fU)
def l6(g:VG)(R:kF):List ((Int×Int)×Nat):=R.map fun e=>(e.1,g.ji e.1.1 e.1.2)
def wz(a t:Int):Nat:=200+(a.toNat*4+t.toNat)
structure VC(w:World)(col:Nat→Nat)(g:VG)(P:Nat→Option cH)(V:List ((Int×Int)×cZ))(R:kF):Prop where
 vp:∃arr,bH w g.vp arr 160∧Lk arr g P
 pv:∀i p,i<12→P i=some p→bH w (g.pid i) (qJ p) 100
 dm:bq w g.vg (fun b=>col b=0) 8 fm V
 vB:bq w g.rg (fun b=>col b=0) 3 jf (l6 g R)
 Pc:∀e∈R,bH w (g.ji e.1.1 e.1.2) (recC (g.oQ e.1.1 e.1.2) e.2) 217
 wC:∀e∈R,∀d,e.2.ef=some d→bH w (g.oQ e.1.1 e.1.2) (aax d) 225∧col (g.oQ e.1.1 e.1.2)=0
 A0:col g.vp=2
 Fj:col g.vg=12
 Fk:col g.rg=13
 cp:∀i,i<12→P i≠none→col (g.pid i)=100+i
 cr:∀e∈R,col (g.ji e.1.1 e.1.2)=wz e.1.1 e.1.2
 key:∀e∈R,(0≤e.1.1∧e.1.1<10)∧0≤e.1.2∧e.1.2<4
 iO:gM R
def A4(c:Nat):Prop:=c=2∨c=12∨c=13∨(100≤c∧c<240)
theorem VC.below{g:VG}{P:Nat→Option cH}{R:kF}(h:VC w col g P V R)(hb:Bw w w2):VC w2 col g P V R:=⟨let⟨a,h1,h2⟩:=h.vp;⟨a,h1.below hb,h2⟩,fun i p hi hp=>(h.pv i p hi hp).below hb,h.dm.below hb,h.vB.below hb,fun e he=>(h.Pc e he).below hb,fun e he d hd=>⟨(h.wC e he d hd).1.below hb,(h.wC e he d hd).2⟩,h.A0,h.Fj,h.Fk,h.cp,h.cr,h.key,h.iO⟩
theorem gY(h:(0≤a∧a<10)∧0≤t∧t<4):200≤wz a t∧wz a t<240:=by unfold wz;omega
theorem Pd{a' t':Int}(h:(0≤a∧a<10)∧0≤t∧t<4)(h':(0≤a'∧a'<10)∧0≤t'∧t'<4)(e:wz a t=wz a' t'):a=a'∧t=t':=by unfold wz at e;omega
theorem VC.turns{S:Nat→Prop}{g:VG}{P:Nat→Option cH}{R:kF}(h:VC w col g P V R)(ht:au S w w2)(hS:∀b,S b→col b≠0∧¬A4 (col b)):VC w2 col g P V R:=⟨let⟨a,h1,h2⟩:=h.vp;⟨a,h1.turns ht (fun q=>(hS _ q).2 (by rw[h.A0];exact .inl rfl)),h2⟩,fun i p hi hp=>(h.pv i p hi hp).turns ht (fun q=>(hS _ q).2 (by rw[h.cp i hi (by rw[hp];simp)];exact .inr (.inr (.inr ⟨by omega,by omega⟩)))),h.dm.turns ht (fun q=>(hS _ q).2 (by rw[h.Fj];exact .inr (.inl rfl))) (fun b q s=>(hS _ s).1 q),h.vB.turns ht (fun q=>(hS _ q).2 (by rw[h.Fk];exact .inr (.inr (.inl rfl)))) (fun b q s=>(hS _ s).1 q),fun e he=>(h.Pc e he).turns ht (fun q=>(hS _ q).2 (by rw[h.cr e he];have:=gY (h.key e he);exact .inr (.inr (.inr ⟨by omega,by omega⟩)))),fun e he d hd=>⟨(h.wC e he d hd).1.turns ht (fun q=>(hS _ q).1 (h.wC e he d hd).2),(h.wC e he d hd).2⟩,h.A0,h.Fj,h.Fk,h.cp,h.cr,h.key,h.iO⟩
def cM(P:Nat→Option cH)(i:Int):Option cH:=if dn i 0 11=true then P i.toNat else none
theorem i5{P:Nat→Option cH}{p:cH}(h:cM P i=some p):dn i 0 11=true∧P i.toNat=some p:=by
 unfold cM at h;split at h;·exact⟨by assumption,h⟩
 ·cases h
theorem Lk.at{arr:Array Value}{g:VG}{P:Nat→Option cH}(h:Lk arr g P)(hi:dn i 0 11=true):arr[i.toNat]?=some (kv (P i.toNat).isSome (g.pid i.toNat)):=h.pv _ (by have:=dC.1 hi;omega)
theorem Dx(h:dn i a b=true):a≤i:=(dC.1 h).1
theorem Dy(h:dn i a b=true):i≤b:=(dC.1 h).2
theorem nD{g:VG}{P:Nat→Option cH}{R:kF}(hv:VC w col g P V R){p:cH}(eF:cM P i=some p):CB 45 #[.pointer (some ⟨g.vp,0,none⟩),.int .i64 i] w (.pointer (some ⟨g.pid i.toNat,0,none⟩)):=by
 obtain⟨arr,yL,ha⟩:=hv.vp;have hp:=(Hp.nil w).cons yL (by simp);have hB:=Below.refl w.heap.size w;obtain⟨jU,hpi⟩:=i5 eF;have hpt:arr[i.toNat]?=some (.pointer (some ⟨g.pid i.toNat,0,none⟩)):=by rw[ha.at jU,hpi];rfl
 refine fe Tryz.func45 Tryz.ntmps45 ?_;refine go ?_;refine cC ((eW jU (kL i 0 11)) _) fun w1 er hp hB=>?_;refine ak (pA g.vp i.toNat) (ed (n:=12) (j:=i) (off:=0) (sz:=1) U156 kr rfl rfl (Dx jU) (by have:=Dy jU;omega) om) ?_;refine ak (pA (g.pid i.toNat) 0) (ay (hp.at 0) hpt U97 rfl) ?_;refine p1 ?_;exact⟨rfl,hB⟩
theorem py{g:VG}{P:Nat→Option cH}{R:kF}(hv:VC w col g P V R)(eF:cM P i=none):CB 45 #[.pointer (some ⟨g.vp,0,none⟩),.int .i64 i] w (.pointer none):=by
 obtain⟨arr,yL,ha⟩:=hv.vp;have hp:=(Hp.nil w).cons yL (by simp);have hB:=Below.refl w.heap.size w;refine fe Tryz.func45 Tryz.ntmps45 ?_;refine go ?_;by_cases c1:(dn i 0 11)=true
 ·have jU:=c1;have hpt:arr[i.toNat]?=some (.pointer none):=by rw[ha.at jU];unfold cM at eF;rw[if_pos jU]at eF;rw[eF];rfl
  refine cC ((eW c1 (kL i 0 11)) _) fun w2 js hp hB=>?_;refine ak (pA g.vp i.toNat) (ed (n:=12) (j:=i) (off:=0) (sz:=1) U156 kr rfl rfl (Dx jU) (by have:=Dy jU;omega) om) ?_;refine ak (.pointer none) (ay (hp.at 0) hpt U97 rfl) ?_;refine p1 ?_;exact⟨rfl,hB⟩
 replace c1:=eq_false_of_ne_true c1;refine cC ((eW c1 (kL i 0 11)) _) fun w4 qH hp hB=>?_;refine p1 ?_;exact⟨rfl,hB⟩
end
section
open Go.RowKit
variable{P:Nat→Option cH}{i gb k:Nat}{v:Option cH}{α:Type}{w:World}{col':Nat→Nat}{p:cH}
def iH(P:Nat→Option cH)(i:Nat)(v:Option cH):Nat→Option cH:=fun j=>if j=i then v else P j
theorem sN:iH P i v i=v:=if_pos rfl
theorem lC{j:Nat}(h:j≠i):iH P i v j=P j:=if_neg h
def iI(R:kF)(a t:Int)(r:fU):kF:=R.map fun e=>if e.1=(a,t)then(e.1,r)else e
def aF(R:kF)(a t:Int):fU:=(bS R a t).getD vz
def i7(R:kF)(a t:Int):kF:=if gh R a t=true then R else ej R a t vz
theorem Ll(R:kF)(a t:Int)(r:fU):(iI R a t r).map (·.1)=R.map (·.1):=by unfold iI;rw[azU];congr 1;funext e;simp only[Function.comp];split<;>rfl
theorem Lm{β:Type}{L:List ((Int×Int)×α)}{L':List ((Int×Int)×β)}(h:L'.map (·.1)=L.map (·.1))(hr:gM L):gM L':=by unfold gM at*;have h1:(L.map (·.1)).Pairwise yg:=aAq.2 hr;rw[←h]at h1;exact aAq.1 h1
theorem l7{R:kF}{a t:Int}{r:fU}{e:(Int×Int)×fU}:e∈iI R a t r↔(e.1=(a,t)∧e.2=r∧∃r0,((a,t),r0)∈R)∨(e.1≠(a,t)∧e∈R):=by
 unfold iI;rw[ayM];constructor
 ·rintro⟨x,hx,he⟩;split at he;·rename_i q;subst he;exact .inl ⟨q,rfl,x.2,by rw[←q];exact hx⟩
  ·rename_i q;subst he;exact .inr ⟨q,hx⟩
 ·rintro(⟨h1,h2,r0,h3⟩|⟨h1,h2⟩);·exact⟨_,h3,by rw[if_pos rfl];obtain⟨k,v⟩:=e;simp only at h1 h2;rw[h1,h2]⟩
  ·exact⟨_,h2,if_neg h1⟩
section
variable{w w2:World}{col:Nat→Nat}{g:VG}{P:Nat→Option cH}{V:List ((Int×Int)×cZ)}{R:kF}
theorem bq.lt{w:World}{Z:Nat→Prop}{enc:α→Array Value}{L:List α}(h:bq w gb Z k enc L):gb<w.heap.size:=by
 rcases h with⟨t,r,cap,arr,t',hZ,hp,h⟩|⟨e,t,hp⟩;·exact(hp.at 0).lt
 ·exact(hp.at 0).lt
theorem bq.ew{w:World}{col:Nat→Nat}{enc:α→Array Value}{L:List α}(h:bq w gb (fun b=>col b=0) k enc L)(hc:∀b,b<w.heap.size→col' b=col b):bq w gb (fun b=>col' b=0) k enc L:=h.bound.mono fun r q=>by rw[hc r q.2];exact q.1
theorem LC.ew{lp ap gp:Nat}{fs:List (Int×Int)}{K:List ((Int×Int)×Int)}(h:LC w col lp ap gp fs K)(hc:∀b,b<w.heap.size→col' b=col b):LC w col' lp ap gp fs K:=⟨h.ij,h.k5.ew hc,by obtain⟨_,_,hp,_⟩:=h.ij;rw[hc _ (hp.at 0).lt];exact h.cl,by obtain⟨_,_,hp,_⟩:=h.ij;rw[hc _ (hp.at 1).lt];exact h.ca,by rw[hc _ h.k5.lt];exact h.cg,h.ne⟩
theorem VC.ew(h:VC w col g P V R)(hc:∀b,b<w.heap.size→col' b=col b):VC w col' g P V R:=⟨h.vp,h.pv,h.dm.ew hc,h.vB.ew hc,h.Pc,fun e he d hd=>⟨(h.wC e he d hd).1,by rw[hc _ (h.wC e he d hd).1.lt];exact(h.wC e he d hd).2⟩,by obtain⟨_,hb,_⟩:=h.vp;rw[hc _ hb.lt];exact h.A0,by rw[hc _ h.dm.lt];exact h.Fj,by rw[hc _ h.vB.lt];exact h.Fk,fun i hi hp=>by obtain⟨p,hq⟩:=Option.ne_none_iff_exists'.1 hp;rw[hc _ (h.pv i p hi hq).lt];exact h.cp i hi hp,fun e he=>by rw[hc _ (h.Pc e he).lt];exact h.cr e he,h.key,h.iO⟩
theorem VC.JA(h:VC w col g P V R){p':cH}(hi:i<12)(hp:P i=some p)(ht:au (fun b=>b=g.pid i) w w2)(hb:bH w2 (g.pid i) (qJ p') 100):VC w2 col g (iH P i (some p')) V R:=by
 have hc:=h.cp i hi (by rw[hp];simp);have ne:∀b,col b≠100+i→b≠g.pid i:=fun b q e=>q (by rw[e,hc]);refine⟨?_,fun j q hj hq=>?_,h.dm.turns ht (ne _ (by rw[h.Fj];omega)) (fun b q=>ne b (by rw[q];omega)),h.vB.turns ht (ne _ (by rw[h.Fk];omega)) (fun b q=>ne b (by rw[q];omega)),fun e he=>(h.Pc e he).turns ht (ne _ (by rw[h.cr e he];have:=gY (h.key e he);omega)),fun e he d hd=>⟨(h.wC e he d hd).1.turns ht (ne _ (by rw[(h.wC e he d hd).2];omega)),(h.wC e he d hd).2⟩,h.A0,h.Fj,h.Fk,fun j hj hq=>?_,h.cr,h.key,h.iO⟩
 ·obtain⟨arr,h1,h2⟩:=h.vp;refine⟨arr,h1.turns ht (ne _ (by rw[h.A0];omega)),h2.size,h2.vg,h2.rg,fun j hj=>?_⟩;rw[h2.pv j hj];by_cases e:j=i;·subst e;rw[sN,hp];rfl
  ·rw[lC e]
 ·by_cases e:j=i;·subst e;rw[sN]at hq;cases hq;exact hb
  ·rw[lC e]at hq;exact(h.pv j q hj hq).turns ht (ne _ (by rw[h.cp j hj (by rw[hq];simp)];omega))
 ·by_cases e:j=i;·subst e;exact hc
  ·rw[lC e]at hq;exact h.cp j hj hq
theorem VC.Fl{V':List ((Int×Int)×cZ)}(h:VC w col g P V R)(ht:au (fun b=>b=g.vg) w w2)(hg:bq w2 g.vg (fun b=>col b=0) 8 fm V'):VC w2 col g P V' R:=by have ne:∀b,col b≠12→b≠g.vg:=fun b q e=>q (by rw[e,h.Fj]);exact⟨let⟨a,h1,h2⟩:=h.vp;⟨a,h1.turns ht (ne _ (by rw[h.A0];omega)),h2⟩,fun i p hi hp=>(h.pv i p hi hp).turns ht (ne _ (by rw[h.cp i hi (by rw[hp];simp)];omega)),hg,h.vB.turns ht (ne _ (by rw[h.Fk];omega)) (fun b q=>ne b (by rw[q];omega)),fun e he=>(h.Pc e he).turns ht (ne _ (by rw[h.cr e he];have:=gY (h.key e he);omega)),fun e he d hd=>⟨(h.wC e he d hd).1.turns ht (ne _ (by rw[(h.wC e he d hd).2];omega)),(h.wC e he d hd).2⟩,h.A0,h.Fj,h.Fk,h.cp,h.cr,h.key,h.iO⟩
theorem VC.TL(h:VC w col g P V R){id:Nat}{arr:Array Value}(hi:i<12)(hp:P i=none)(hva:bH w g.vp arr 160)(ha:Lk arr g P)(ht:au (fun b=>b=g.vp) w w2)(hid:w.heap.size≤id)(hvb:bH w2 g.vp (bt arr i [.pointer (some ⟨id,0,none⟩)]) 160)(hb:bH w2 id (qJ p) 100):VC w2 (fun b=>if b=id then 100+i else col b) {g with pid:=fun j=>if j=i then id else g.pid j} (iH P i (some p)) V R:=by
 have fp:∀b,b<w.heap.size→(if b=id then 100+i else col b)=col b:=fun b hb=>if_neg om;have h':=h.ew fp;have ne:∀b,col b≠2→b≠g.vp:=fun b q e=>q (by rw[e,h.A0]);have hf:i+([.pointer (some ⟨id,0,none⟩)]:List Value).length≤arr.size:=by show i+1≤_;rw[ha.size];omega
 have h1:([.pointer (some ⟨id,0,none⟩)]:List Value).length=1:=rfl;refine⟨⟨_,hvb,by rw[bp hf];exact ha.size,by rw[aV om hf];exact ha.vg,by rw[aV om hf];exact ha.rg,fun j hj=>?_⟩,fun j q hj hq=>?_,h'.dm.turns ht (ne _ (by rw[h.Fj];omega)) (fun b q e=>?_),h'.vB.turns ht (ne _ (by rw[h.Fk];omega)) (fun b q e=>?_),fun e he=>(h.Pc e he).turns ht (ne _ (by rw[h.cr e he];have:=gY (h.key e he);omega)),fun e he d hd=>⟨(h.wC e he d hd).1.turns ht (ne _ (by rw[(h.wC e he d hd).2];omega)),(h'.wC e he d hd).2⟩,h'.A0,h'.Fj,h'.Fk,fun j hj hq=>?_,h'.cr,h.key,h.iO⟩
 ·by_cases e:j=i;·subst e;rw[cy (k:=0) (azt _).symm om om,sN];simp[kv]
  ·rw[aV om hf,ha.pv j hj,lC e];simp[e]
 ·by_cases e:j=i;·subst e;rw[sN]at hq;cases hq;simpa using hb
  ·rw[lC e]at hq;have:=(h.pv j q hj hq).turns ht (ne _ (by rw[h.cp j hj (by rw[hq];simp)];omega));simpa[e]using this
 ·subst e;have:=h'.A0;rw[this]at q;cases q
 ·subst e;have:=h'.A0;rw[this]at q;cases q
 ·by_cases e:j=i;·subst e;simp
  ·rw[lC e]at hq;have:=h'.cp j hj hq;simpa[e]using this
end
end
section
open Go.RowKit
variable{P:Nat→Option cH}{i:Int}{w:World}{col:Nat→Nat}{g:VG}{V:List ((Int×Int)×cZ)}{R:kF}
def bR(P:Nat→Option cH)(i:Int):j3:=match cM P i with|some p=>p.av|none=>⟨0,0,0⟩
def qp(P:Nat→Option cH)(i s:Int):Int:=match cM P i with|some p=>if p.state=0 then if dn s 2 6=true then 0 else 1 else 9|none=>4
def gH(P:Nat→Option cH)(i s n:Int):Nat→Option cH:=match cM P i with|some p=>if p.state=0 then if dn s 2 6=true then iH P i.toNat (some {p with state:=s,end_:=n})else P else P|none=>P
def pz(P:Nat→Option cH)(i t:Int):Int:=if dn i 0 11=true then if dn t 0 3=true then if(cM P i).isSome=true then 5 else 0 else 1 else 1
def l8(P:Nat→Option cH)(i t:Int):Nat→Option cH:=if pz P i t=0 then iH P i.toNat (some ⟨t,⟨0,0,0⟩,0,0⟩)else P
theorem zt(h:dn i 0 11=true)(hn:cM P i=none):P i.toNat=none:=by unfold cM at hn;rwa[if_pos h]at hn
theorem VC.Pe(h:VC w col g P V R){p:cH}(hp:cM P i=some p):i.toNat<12∧col (g.pid i.toNat)=100+i.toNat∧bH w (g.pid i.toNat) (qJ p) 100:=by
 have q:=i5 hp;have hi:i.toNat<12:=by have:=dC.1 q.1;omega
 exact⟨hi,h.cp _ hi (by rw[q.2];simp),h.pv _ p hi q.2⟩
theorem yM(hv:VC w col g P V R)(i:Int):CB 21 #[pA g.vp 0,i6 i] w (qe (bR P i)):=by
 have hp:=Hp.nil w;have hB:=Below.refl w.heap.size w;refine fe Tryz.func21 Tryz.ntmps21 ?_;refine go ?_;refine jJ fun g1 w2 n3 hp ai hB=>?_;by_cases c4:(cM P i).isSome=true;·obtain⟨p,eF⟩:=ayA.1 c4;have hq:=hv.Pe eF;have hp:=hp.cons (hq.2.2.below hB) (by simp only[ayC,ayB,ayE,ayx,or_false,not_or];exact(azc (ayu (hq.2.2.lt) ai)));have hp:Hp _ [((g.pid i.toNat),#[i6 p.aa,i6 p.av.cI,i6 p.av.da,i6 p.av.support,i6 p.state,i6 p.end_],100),(g1,#[i6 0,i6 0,i6 0],56)]:=hp;refine cC (nD (hv.below hB) eF) fun w5 nQ hp hB=>?_;refine gG ai fun w8 p7 hp hB=>?_;refine kh (el (s:=4) (ty:=56) (cs:=#[i6 p.av.cI,i6 p.av.da,i6 p.av.support]) (hp.at 1) U56 kr) ?_;exact⟨by unfold bR;rw[eF];rfl,hB⟩
 have eF:cM P i=none:=by simpa using c4
 refine cC (py (hv.below hB) eF) fun w9 nS hp hB=>?_;refine ak (.agg #[i6 0,i6 0,i6 0]) kr ?_;refine gG ai fun pW Ht hp hB=>?_;refine kh (el (s:=4) (ty:=56) (cs:=#[i6 0,i6 0,i6 0]) (hp.at 0) U56 kr) ?_;exact⟨by unfold bR;rw[eF];rfl,hB⟩
theorem Pf(hv:VC w col g P V R)(i s n:Int):CP 122 #[pA g.vp 0,i6 i,i6 s,i6 n] w fun e w'=>e=.returned (.int .i64 (qp P i s))∧VC w' col g (gH P i s n) V R∧au (fun b=>A4 (col b)) w w':=by
 have hp:=Hp.nil w;have hB:=Below.refl w.heap.size w;have hT:=au.refl (fun b=>b=g.pid i.toNat) w;refine fe Tryz.func122 Tryz.ntmps122 ?_;refine go ?_;by_cases c1:(cM P i).isSome=true
 ·obtain⟨p,eF⟩:=ayA.1 c1;have hq:=hv.Pe eF;have hp:=hp.cons (hq.2.2.below hB) (by simp);have hp:Hp _ [((g.pid i.toNat),#[i6 p.aa,i6 p.av.cI,i6 p.av.da,i6 p.av.support,i6 p.state,i6 p.end_],100)]:=hp;refine cC (nD (hv.below hB) eF) fun w2 js hp hB=>?_;have hT:=hT.step js;by_cases c4:p.state=0
  ·refine go ?_;by_cases c5:(dn s 2 6)=true;·refine cC ((eW c5 (kL s 2 6)) _) fun w6 lT hp hB=>?_;have hT:=hT.step lT;have TD:=hB;refine tJ fun w9 p8 hp=>?_;have hT:=hT.put p8 (.inl rfl);refine tJ fun ot KU hp=>?_;have hT:=hT.put KU (.inl rfl);refine p1 ?_;refine⟨by simp[qp,eF,c1,c4,c5],?_,hT.mono fun b _ e=>by subst e;rw[hq.2.1];exact .inr (.inr (.inr ⟨by omega,by omega⟩))⟩;rw[show gH P i s n=iH P i.toNat (some {p with state:=s,end_:=n})by simp[gH,eF,c1,c4,c5]];exact hv.JA hq.1 (i5 eF).2 hT (hp.at 0)
   replace c5:=eq_false_of_ne_true c5;refine cC ((eW c5 (kL s 2 6)) _) fun pW kZ hp hB=>?_;have hT:=hT.step kZ;refine p1 ?_;exact⟨by simp[qp,eF,c1,c4,c5],by rw[show gH P i s n=P by simp[gH,eF,c1,c4,c5]];exact hv.below hB,au.aW hB⟩
  refine go ?_;refine p1 ?_;exact⟨by simp[qp,eF,c1,c4],by rw[show gH P i s n=P by simp[gH,eF,c1,c4]];exact hv.below hB,au.aW hB⟩
 have eF:cM P i=none:=by simpa using c1
 refine cC (py (hv.below hB) eF) fun ui kM hp hB=>?_;have hT:=hT.step kM;refine p1 ?_;exact⟨by simp[qp,eF,c1],by rw[show gH P i s n=P by simp[gH,eF,c1]];exact hv.below hB,au.aW hB⟩
theorem TM(hv:VC w col g P V R)(bG:rB col w)(i t:Int):CP 123 #[pA g.vp 0,i6 i,i6 t] w fun e w'=>∃col' TN,e=.returned (.int .i64 (pz P i t))∧VC w' col' {g with pid:=TN} (l8 P i t) V R∧au (fun b=>b=g.vp) w w'∧(∀b,b<w.heap.size→col' b=col b)∧rB col' w'∧∀j,(P j).isSome=true→TN j=g.pid j:=by
 obtain⟨arr,yL,ha⟩:=hv.vp;have hp:=(Hp.nil w).cons yL (by simp);have hB:=Below.refl w.heap.size w;have hT:=au.refl (fun b=>b=g.vp) w;refine fe Tryz.func123 Tryz.ntmps123 ?_;refine go ?_;by_cases c1:(dn i 0 11)=true
 ·have jU:=c1;have Pg:i.toNat<12:=by have:=dC.1 jU;omega
  refine cC ((eW c1 (kL i 0 11)) _) fun w2 js hp hB=>?_;have hT:=hT.step js;by_cases c4:(dn t 0 3)=true
  ·refine cC ((eW c4 (lO t)) _) fun w5 nQ hp hB=>?_;have hT:=hT.step nQ;by_cases c7:(cM P i).isSome=true;·obtain⟨p,eF⟩:=ayA.1 c7;have hq:=hv.Pe eF;have hp:=hp.cons (hq.2.2.below hB) (by simp only[ayC,ayB,ayE,ayx,or_false,not_or];exact(fun e=>by have h1:=hq.2.1;rw[e]at h1;have h2:=hv.A0;omega));have hp:Hp _ [((g.pid i.toNat),#[i6 p.aa,i6 p.av.cI,i6 p.av.da,i6 p.av.support,i6 p.state,i6 p.end_],100),(g.vp,arr,160)]:=hp;refine cC (nD (hv.below hB) eF) fun w8 fD hp hB=>?_;have hT:=hT.step fD;refine p1 ?_;exact⟨col,g.pid,by simp[pz,c1,c4,c7],by rw[show l8 P i t=P by simp[l8,pz,c1,c4,c7]];exact hv.below hB,au.aW hB,fun _ _=>rfl,bG.mono hB.size,fun _ _=>rfl⟩
   have eF:cM P i=none:=by simpa using c7
   refine cC (py (hv.below hB) eF) fun o2 oO hp hB=>?_;have hT:=hT.step oO;refine ak (.agg #[i6 t,i6 0,i6 0,i6 0,i6 0,i6 0]) kr ?_;refine ic fun g12 oD n14 hp nE hB=>?_;have adC:=ayo hT.size n14.fresh;have hT:=hT.step n14.below;refine ak (pA g.vp i.toNat) (ed (n:=12) (j:=i) (off:=0) (sz:=1) U156 kr rfl rfl (Dx jU) (by have:=Dy jU;omega) om) ?_;have TD:=hB;refine aU (i:=i.toNat) (v:=pA g12 0) (hp.at 1) rfl rfl kr (by show i.toNat+1≤_;rw[ha.size];omega) (by simp[Value.oneCell',Value.cells]) (fun qf Fm=>ab ?_);have Fm:=cL (cs':=bt arr i.toNat [pA g12 0]) Fm rfl;have hp:=(hp.put 1 Fm).nf;have hT:=hT.put Fm (.inl rfl);refine go ?_;refine p1 ?_;refine⟨fun b=>if b=g12 then 100+i.toNat else col b,fun j=>if j=i.toNat then g12 else g.pid j,by simp[pz,c1,c4,c7],?_,hT,fun b hb=>if_neg om,fun b hb=>?_,fun j hj=>if_neg fun q=>by subst q;rw[zt jU eF]at hj;cases hj⟩;·rw[show l8 P i t=iH P i.toNat (some ⟨t,⟨0,0,0⟩,0,0⟩)by simp[l8,pz,c1,c4,c7]];exact hv.TL Pg (zt jU eF) yL ha hT nE (hp.at 1) (hp.at 0)
   ·have h1:=(hp.at 0).lt;have h2:=hT.size;exact(if_neg om).trans (bG b om)
  replace c4:=eq_false_of_ne_true c4;refine cC ((eW c4 (lO t)) _) fun s6 gC hp hB=>?_;have hT:=hT.step gC;refine p1 ?_;exact⟨col,g.pid,by simp[pz,c1,c4],by rw[show l8 P i t=P by simp[l8,pz,c1,c4]];exact hv.below hB,au.aW hB,fun _ _=>rfl,bG.mono hB.size,fun _ _=>rfl⟩
 replace c1:=eq_false_of_ne_true c1;refine cC ((eW c1 (kL i 0 11)) _) fun uH jA hp hB=>?_;have hT:=hT.step jA;refine p1 ?_;exact⟨col,g.pid,by simp[pz,c1],by rw[show l8 P i t=P by simp[l8,pz,c1]];exact hv.below hB,au.aW hB,fun _ _=>rfl,bG.mono hB.size,fun _ _=>rfl⟩
end
section
open Go.RowKit
variable{g:VG}{R:kF}{a t:Int}
section
variable{α β:Type}{L:List ((Int×Int)×α)}{f:(Int×Int)×α→β}
theorem BV(i:Nat):ln (L.map fun e=>(e.1,f e)) i=ln L i:=by unfold ln;rw[ayL];cases L[i]?<;>rfl
theorem Hz(a b:Int):gi (L.map fun e=>(e.1,f e)) a b=gi L a b:=by unfold gi;rw[azV];congr 1;funext i;exact BV i
theorem Ph(a b:Int):gh (L.map fun e=>(e.1,f e)) a b=gh L a b:=by unfold gh;rw[Hz,azV,BV]
theorem Fo(a b:Int):bS (L.map fun e=>(e.1,f e)) a b=(bS L a b).map fun v=>f ((a,b),v):=by
 unfold bS;rw[Ph,Hz];cases hg:gh L a b with
 |false=>rfl
 |true=>obtain⟨v,hv⟩:=fo hg;rw[if_pos rfl,if_pos rfl,ayL,hv];rfl
end
theorem Ln(g:VG)(R:kF):(l6 g R).length=R.length:=azV _
theorem Pj(h:gh R a t=true):bS (l6 g R) a t=some (g.ji a t):=by unfold l6;rw[Fo];obtain⟨v,hv⟩:=fo h;rw[ph h hv];rfl
theorem Fp(h:gh R a t=false):bS (l6 g R) a t=none:=by unfold l6;rw[Fo,Jq (by rw[h];decide)];rfl
theorem l9(hr:gM R)(hl:R.length<1000000)(a t:Int):((a,t),aF R a t)∈i7 R a t:=by
 unfold aF i7;split;·rename_i h;obtain⟨v,hv⟩:=fo h;rw[ph h hv];exact ayw hv
 ·rename_i h;rw[Jq h];exact(i1 hr hl).2 (.inl rfl)
theorem JB(hr:gM R)(hl:R.length<1000000)(h:gh R a t=false){e:(Int×Int)×fU}(he:e∈R):e.1≠(a,t):=fun q=>by have:=(zh (a:=a) (b:=t) hr hl).2 ⟨e.2,by rw[←q];exact he⟩;rw[h]at this;cases this
section
variable{w w1 w2:World}{col:Nat→Nat}{g:VG}{P:Nat→Option cH}{V:List ((Int×Int)×cZ)}{R:kF}
theorem VC.aay(h:VC w col g P V R)(hl:R.length<1000000)(hk:(0≤a∧a<10)∧0≤t∧t<4)(hg:gh R a t=false){id:Nat}(bG:rB col w)(ht:au (fun b=>b=g.rg) w w2)(hid:w.heap.size≤id)(hb:bH w2 id (recC 0 vz) 217){n:Nat}(hn:w.heap.size≤n)(arJ:id<n)(hgr:bq w2 g.rg (fun r=>n≤r) 3 jf (ej (l6 g R) a t id)):VC w2 (fun b=>if b=id then wz a t else col b) {g with ji:=fun x y=>if x=a∧y=t then id else g.ji x y} P V (ej R a t vz):=by
 have fp:∀b,b<w.heap.size→(if b=id then wz a t else col b)=col b:=fun b hb=>if_neg om;have h':=h.ew fp;have ne:∀b,col b≠13→b≠g.rg:=fun b q e=>q (by rw[e,h.Fk]);have hrk:=gY hk;have TB:g.rg<w.heap.size:=h.vB.lt;have mem:=fun e=>i1 (e:=e) (a:=a) (b:=t) (v:=vz) h.iO hl;have aaz:∀e:(Int×Int)×fU,e.1≠(a,t)→(if e.1.1=a∧e.1.2=t then id else g.ji e.1.1 e.1.2)=g.ji e.1.1 e.1.2:=fun e q=>if_neg fun r=>q (by obtain⟨⟨x,y⟩,v⟩:=e;simp only at r ⊢;rw[r.1,r.2]);refine⟨let⟨ar,h1,h2⟩:=h.vp;⟨ar,h1.turns ht (ne _ (by rw[h.A0];omega)),h2.size,h2.vg,h2.rg,h2.pv⟩,fun i p hi hp=>(h.pv i p hi hp).turns ht (ne _ (by rw[h.cp i hi (by rw[hp];simp)];omega)),h'.dm.turns ht (ne _ (by rw[h.Fj];omega)) (fun b q e=>?_),?_,fun e he=>?_,fun e he d hd=>?_,h'.A0,h'.Fj,h'.Fk,h'.cp,fun e he=>?_,fun e he=>?_,h.iO.ej hl vz⟩;·subst e;have:=h'.Fk;rw[this]at q;cases q
 ·have al1:l6 {g with ji:=fun x y=>if x=a∧y=t then id else g.ji x y} (ej R a t vz)=ej (l6 g R) a t id:=by
   have Hw:gh (l6 g R) a t=false:=by unfold l6;rw[Ph];exact hg
   have al2:gi (l6 g R) a t=gi R a t:=by unfold l6;rw[Hz]
   rw[jK vz rfl hg,jK id al2 Hw];unfold l6;rw[aAi,ayC,←List.map_take,←List.map_drop];have XJ:∀l:kF,(∀e∈l,e∈R)→l.map (fun e=>(e.1,if e.1.1=a∧e.1.2=t then id else g.ji e.1.1 e.1.2))=l.map fun e=>(e.1,g.ji e.1.1 e.1.2):=fun l hm=>aDG fun e he=>by rw[aaz e (JB h.iO hl hg (hm e he))]
   simp only;rw[XJ _ (fun e he=>aAf he),XJ _ (fun e he=>aAe he)];simp
  rw[al1];exact hgr.mono fun r q=>(if_neg om).trans (bG r om)
 ·rcases(mem e).1 he with rfl|⟨h1,h2⟩;·simp only[and_self,if_true];exact hb
  ·simp only[aaz e h2];exact(h.Pc e h1).turns ht (ne _ (by rw[h.cr e h1];have:=gY (h.key e h1);omega))
 ·rcases(mem e).1 he with rfl|⟨h1,h2⟩;·cases hd
  ·exact⟨(h.wC e h1 d hd).1.turns ht (ne _ (by rw[(h.wC e h1 d hd).2];omega)),(h'.wC e h1 d hd).2⟩
 ·rcases(mem e).1 he with rfl|⟨h1,h2⟩;·simp
  ·simp only[aaz e h2];exact h'.cr e h1
 ·rcases(mem e).1 he with rfl|⟨h1,h2⟩;·exact hk
  ·exact h.key e h1
theorem VC.aaA(h:VC w col g P V R){r r':fU}(hm:((a,t),r)∈R)(ht:au (fun b=>b=g.ji a t) w w2){d':Nat}(hb:bH w2 (g.ji a t) (recC d' r') 217)(hd':∀d,r'.ef=some d→bH w2 d' (aax d) 225∧col d'=0):VC w2 col {g with oQ:=fun x y=>if x=a∧y=t then d' else g.oQ x y} P V (iI R a t r'):=by
 have hc:=h.cr _ hm;have hk:=h.key _ hm;simp only at hc hk;have hrk:=gY hk;have ne:∀b,col b≠wz a t→b≠g.ji a t:=fun b q e=>q (by rw[e,hc]);have Pk:∀e:(Int×Int)×fU,e.1≠(a,t)→¬(e.1.1=a∧e.1.2=t):=fun e q r=>q (by obtain⟨⟨x,y⟩,v⟩:=e;simp only at r ⊢;rw[r.1,r.2]);refine⟨let⟨ar,h1,h2⟩:=h.vp;⟨ar,h1.turns ht (ne _ (by rw[h.A0];omega)),h2.size,h2.vg,h2.rg,h2.pv⟩,fun i p hi hp=>(h.pv i p hi hp).turns ht (ne _ (by rw[h.cp i hi (by rw[hp];simp)];omega)),h.dm.turns ht (ne _ (by rw[h.Fj];omega)) (fun b q=>ne b (by rw[q];omega)),?_,fun e he=>?_,fun e he d hd=>?_,h.A0,h.Fj,h.Fk,h.cp,fun e he=>?_,fun e he=>?_,Lm (Ll R a t r') h.iO⟩
 ·have:l6 {g with oQ:=fun x y=>if x=a∧y=t then d' else g.oQ x y} (iI R a t r')=l6 g R:=by unfold l6 iI;rw[azU];congr 1;funext e;simp only[Function.comp];split<;>rfl
  rw[this];exact h.vB.turns ht (ne _ (by rw[h.Fk];omega)) (fun b q=>ne b (by rw[q];omega))
 ·rcases l7.1 he with⟨h1,h2,r0,h3⟩|⟨h1,h2⟩;·simp only[h1,h2,and_self,if_true];exact hb
  ·simp only[if_neg (Pk e h1)];refine(h.Pc e h2).turns ht (ne _ fun q=>?_);rw[h.cr e h2]at q;exact Pk e h1 (Pd (h.key e h2) hk q)
 ·rcases l7.1 he with⟨h1,h2,r0,h3⟩|⟨h1,h2⟩;·rw[h2]at hd;simp only[h1,and_self,if_true];exact hd' d hd
  ·simp only[if_neg (Pk e h1)];have q:=h.wC e h2 d hd;exact⟨q.1.turns ht (ne _ (by rw[q.2];omega)),q.2⟩
 ·rcases l7.1 he with⟨h1,h2,r0,h3⟩|⟨h1,h2⟩;·rw[h1];exact hc
  ·exact h.cr e h2
 ·rcases l7.1 he with⟨h1,h2,r0,h3⟩|⟨h1,h2⟩;·rw[h1];exact hk
  ·exact h.key e h2
end
end
end Go.Proofs.YtdkpbpjcbkibiaaGreatDoor.B
