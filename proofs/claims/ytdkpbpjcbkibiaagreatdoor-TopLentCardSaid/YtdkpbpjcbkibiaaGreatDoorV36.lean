/- Blo Lm -/
import Derived.Test.YtdkpbpjcbkibiaaGreatDoorV1
import Derived.Test.YtdkpbpjcbkibiaaGreatDoorV12
import Derived.Test.YtdkpbpjcbkibiaaGreatDoorV35
set_option linter.all false
set_option maxRecDepth 100000
set_option maxHeartbeats 4000000
namespace Go.Proofs.YtdkpbpjcbkibiaaGreatDoor.B
open Go.RowKit
section
open Go.RowKit
variable{s:bM}{w w2:World}{col:Nat→Nat}{f:CF}{m:CV}
abbrev kq(s:bM)(i:Nat):List iY×bM:=((lM s).take i).foldl oX ([],qB s)
theorem CD{i:Nat}{x:cS}(h:(lM s)[i]?=some x):kq s (i+1)=oX (kq s i) x:=by unfold kq;rw[ay1,h,azY];rfl
theorem acf(s:bM)(i:Nat):(kq s i).2.N=s.N:=by
 have key:∀(L:List cS) (a:List iY×bM),(L.foldl oX a).2.N=a.2.N:=by
  intro L;induction L with
  |nil=>intro a;rfl
  |cons t L ih=>intro a;rw[aAl,ih];exact Rl _ _
 exact(key _ _).trans rfl
theorem ahg(h:Ch w col f m s){n:Int}{cs:Array Value}{t:TypeId}(p:o1 w w2 f.cp cs t)(hc:cs=#[.int .i64 n,.pointer (some ⟨f.lp,0,none⟩),.pointer (some ⟨f.vp,0,none⟩),.pointer (some ⟨f.rp,0,none⟩),.pointer (some ⟨f.pp,0,none⟩),.pointer (some ⟨f.ag,0,none⟩)]):Out w col m s w2 col f m (s.cq n):=h.afJ (hc▸p.fA) p.turns
theorem Yl.below{w0:World}{v:Value}{L:List cS}(h:Yl w0 w v L)(hb:Bw w w2):Yl w0 w2 v L:=h.imp id fun⟨g,c,arr,h1,h2,h3,h4⟩=>⟨g,c,arr,h1,h2.below hb,h3,h4⟩
theorem RI(now:Int)(s:bM)(i:Int):(ux now s i).L.length≤s.L.length+1:=by
 unfold ux;split;·exact pq _ _ _ _
 ·omega
theorem oI(s:bM)(o now:Int):(aA s o now).L.length≤2*s.L.length:=by
 have key:∀(l:List Int) (s:bM),(l.foldl (ux now) s).L.length≤s.L.length+l.length:=by
  intro l;induction l with
  |nil=>intro s;simp
  |cons i l ih=>intro s;have:=ih (ux now s i);have:=RI now s i;simp only[aAl,ayJ];omega
 have h1:=key (sd s o now) s
 have h2:(sd s o now).length≤s.L.length:=by
  unfold sd;rw[ayZ,n4];have h3:(dB (LF s) o now).length≤(LF s).length:=by unfold dB;rw[azV];exact azl _ _
  have h4:(LF s).length≤s.L.length:=azl _ _;omega
 unfold aA;omega
theorem yb(s:bM)(now:Int)(h:s.L.length≤12):(fW s now).2.length≤48:=by
 have key:∀(L:List ((Int×Int)×aY)) (a:bM×List iY),(L.foldl (mh now) a).2.length≤a.2.length+L.length:=by
  intro L;induction L with
  |nil=>intro a;simp
  |cons e L ih=>intro a;have:=ih (mh now a e);have:=Cz now a e;simp only[aAl,ayJ];omega
 have h1:=key (LF (aA (aA s 0 now) 1 now)) (aA (aA s 0 now) 1 now,[]);have h2:(LF (aA (aA s 0 now) 1 now)).length≤(aA (aA s 0 now) 1 now).L.length:=azl _ _;have h3:=oI (aA s 0 now) 1 now;have h4:=oI s 0 now;simp only[ayY,ayR]at h1;unfold fW;omega
theorem vT(s:bM):(lM s).length≤2:=by unfold lM;rw[ayZ];have:=Kf s.now 2 s.A;omega
theorem UT(h:Ch w col f m s)(hNC:NC s)(ahh:0≤s.now):PG 26 #[.pointer (some ⟨f.cp,0,none⟩)] w col f m s (jj s).1 (jj s).2:=by
 have ho:Out w col m s w col f m s:=bV.start h;have hp:=Hp.nil w;have hn0:=ahh;refine fe Tryz.func26 Tryz.ntmps26 ?_;refine go ?_;refine ak (i6 s.now) (ay (ho.ch.iX.choose_spec) rfl U3 rfl) ?_;by_cases c1:(1073741824:Int)≤s.now
 ·refine go ?_;refine p1 ?_;have e:jj s=([],s):=by unfold jj;rw[if_pos c1]
  rw[e];exact⟨col,m,_,rfl,ho,ix.nil⟩
 refine go ?_;refine ak (i6 s.now) (ay (ho.ch.iX.choose_spec) rfl U3 rfl) ?_;refine ak (i6 (s.now+1)) (aC (m:=s.now) (n:=1) (s:=(s.now+1)) rfl rfl (by unfold wrap64;omega)) ?_;refine aU (i:=0) (v:=i6 (s.now+1)) (ho.ch.iX.choose_spec) rfl rfl kr (ayr rfl) (by simp[Value.oneCell',Value.cells]) (fun w2 p3=>ab ?_);have hx4:=ahg (n:=(s.now+1)) ho.ch p3 rfl;have kk:Ks col []:=trivial;obtain⟨hp,kk⟩:=mT hx4 hp kk;have ho:=ho.trans hx4;refine go ?_;refine tT 11 (some 8) none fun bl=>?_;refine af 0 ?_;refine af 1 ?_;refine af 2 ?_;refine gI (pA f.ag 0) 3 rfl (yq fun w' h'=>ay ((ho.step h').ch.iX.choose_spec) rfl U80 rfl) ?_;refine af 4 ?_;refine af 5 ?_;refine af 6 ?_;refine gI (i6 (s.now+1)) 7 rfl (yq fun w' h'=>ay ((ho.step h').ch.iX.choose_spec) rfl U3 rfl) ?_;refine ah 10 ?_;refine nF 8 (fun w5 nQ hp bl=>?_);have ho:=ho.step nQ;have hcb:=ho.ch.bG;refine ce ((ag2 ho.ch (s.now+1))) ?_;rintro _ w7 ⟨lf,m9,at7,rfl,yp,hce,htk⟩;refine⟨_,rfl,ab ?_⟩;obtain⟨hp,kk⟩:=mT yp hp kk;have ho:=ho.trans yp;have B9:=fun b (q:_≤b)=>(hce b).trans (hcb b q);have ho:Out w col m s w7 lf f m9 (qB (s.cq (s.now+1))):=ho;refine go ?_;refine aD 9 (fun ot fY hp=>?_);have htk:=Yl.below htk fY;have ho:=ho.step fY;rcases htk with⟨hv1,hv2⟩|⟨gt,ct,vU,hv1,hbt,o0,hgt⟩
 ·subst hv1;have hD0:lM (s.cq (s.now+1))=[]:=hv2;refine go ?_;refine aE (fun oD eI hp=>?_);have ho:=ho.step eI;refine go ?_;refine iR 1 ?_;refine go ?_;refine tT 22 (some 18) none fun bl=>?_;refine ah 0 ?_;refine ah 1 ?_;refine af 2 ?_;refine af 3 ?_;refine af 4 ?_;refine gI (pA f.rp 0) 5 rfl (yq fun w' h'=>ay ((ho.step h').ch.iX.choose_spec) rfl U64 rfl) ?_;refine af 6 ?_;refine af 7 ?_;refine af 8 ?_;refine gI (pA f.lp 0) 9 rfl (yq fun w' h'=>ay ((ho.step h').ch.iX.choose_spec) rfl U42 rfl) ?_;refine af 10 ?_;refine af 11 ?_;refine af 12 ?_;refine gI (pA f.vp 0) 13 rfl (yq fun w' h'=>ay ((ho.step h').ch.iX.choose_spec) rfl U57 rfl) ?_;refine af 14 ?_;refine af 15 ?_;refine af 16 ?_;refine gI (i6 ((qB (s.cq (s.now+1))).now)) 17 rfl (yq fun w' h'=>ay ((ho.step h').ch.iX.choose_spec) rfl U3 rfl) ?_;refine nF 18 (fun pb jx hp bl=>?_);have ho:=ho.step jx;have hsl:=yb (qB (s.cq (s.now+1))) ((qB (s.cq (s.now+1))).now) ho.ch.inv.ll;refine ce (Ct ho.ch ((qB (s.cq (s.now+1))).now)) ?_;rintro _ zN ⟨pO,m24,v17,rfl,ab5,xj⟩;refine⟨_,rfl,ab ?_⟩;have xj:=xj.since ho.turns.size;obtain⟨XA,Cp,KS,rfl⟩:=xj.sl;obtain⟨hp,kk⟩:=mT ab5 hp kk;have ho:=ho.trans ab5;refine go ?_;refine aD 19 (fun tN vL hp=>?_);have xj:=xj.below vL;have ho:=ho.step vL;refine jo (sV ho.ch xj om) fun FM X9 m30 agu hp ho kk=>?_;have xj:=xj.oU agu;refine aD 20 (fun FN ow hp=>?_);have xj:=xj.below ow;have ho:=ho.step ow;refine nY (ix.nil (wE:=w)) xj ho.ch.bG ho.turns.size (by have h9:=hsl;simp only[ayY];omega) rfl rfl (fun v34 EG Gj A37 MH=>?_) U26;refine ab ?_;obtain⟨hp,kk⟩:=aT A37 hp kk;have ho:=ho.j6 A37 (fun b _ q=>.inl q);obtain⟨b39,n40,GQ,rfl⟩:=MH.sl;refine go ?_;refine aD 21 (fun GM rQ hp=>?_);have MH:=MH.below rQ;have ho:=ho.step rQ;refine go ?_;refine aE (fun N6 mI hp=>?_);have MH:=MH.below mI;have ho:=ho.step mI;refine go ?_;refine p1 ?_;have e:jj s=(([]++(fW (qB (s.cq (s.now+1))) ((qB (s.cq (s.now+1))).now)).2),(bz ((fW (qB (s.cq (s.now+1))) ((qB (s.cq (s.now+1))).now)).1) ((fW (qB (s.cq (s.now+1))) ((qB (s.cq (s.now+1))).now)).2))):=by unfold jj;rw[if_neg c1];simp only[];rw[hD0];rfl
  rw[e];exact⟨Gj,m30,_,rfl,ho,MH⟩
 ·subst hv1;have MI:=B9 gt hgt;have o0:bE vU 36 cx (lM (s.cq (s.now+1))):=o0;have hp:=hp.cons hbt (by simp);refine go ?_;refine aE (fun PJ qz hp=>?_) (hD:=fun _ qz=>⟨aR (by rfl),az ((hp.sub ((.cons _ .slnil))).below qz)⟩);have ho:=ho.step qz;refine go ?_;refine cT (fun m' a' w'=>∃(i:Nat) (cA:Nat→Nat) (mA:CV) (bb:Option Addr) (nn:Nat) (cc:Nat) (u5 rv ry Ce Cf FX FY FZ Cg Ci:Value),a'=(fR #[pA f.cp 0,undef,.slice none 0 0,.slice bb nn cc,undef,u5,pA f.cp 0,.bool false,.bool false,pA f.cp 0,pA f.cp 0,pA f.cp 0,i6 s.now,.bool false,.bool false,pA f.cp 0,pA f.cp 0,pA f.cp 0,i6 s.now,i6 (s.now+1),pA f.cp 0,pA f.cp 0,pA f.cp 0,pA f.cp 0,pA f.cp 5,pA f.ag 0,pA f.cp 0,pA f.cp 0,pA f.cp 0,i6 (s.now+1),.slice (some ⟨gt,0,none⟩) ((lM (s.cq (s.now+1))).length) ct,i6 (((lM (s.cq (s.now+1))).length:Nat):Int),i6 (i:Int),rv,ry,Ce,Cf,FX,FY,FZ,Cg,Ci,undef,undef,undef,undef,undef,undef,undef,undef,undef,undef,undef,undef,undef,undef,undef,undef,undef,undef,undef,undef,undef])∧m'=(lM (s.cq (s.now+1))).length-i∧Hp w' [(gt,vU,109)]∧i≤(lM (s.cq (s.now+1))).length∧Out w col m s w' cA f mA (kq (s.cq (s.now+1)) i).2∧ix w w' cA (.slice bb nn cc) (kq (s.cq (s.now+1)) i).1∧(kq (s.cq (s.now+1)) i).1.length≤i*193∧cA gt=0) _ ⟨0,lf,m9,none,0,0,undef,undef,undef,undef,undef,undef,undef,undef,undef,undef,rfl,rfl,hp,om,ho,.nil,(ayp 0),MI⟩ ?_;rintro m49 _ PK ⟨i,cA,mA,bb,nn,cc,u5,rv,ry,Ce,Cf,FX,FY,FZ,Cg,Ci,rfl,rfl,hp,hi,ho,iv,hl,MI⟩;refine go ?_;by_cases Eb:(i:Int)<(((lM (s.cq (s.now+1))).length:Nat):Int);·obtain⟨qU,yB⟩:∃x,(lM (s.cq (s.now+1)))[i]?=some x:=⟨_,ayq om⟩;refine go ?_;refine ak (pA gt (i*36)) (cX (l:=(lM (s.cq (s.now+1))).length) (j:=(i:Int)) (off:=0) (sz:=36) U106 kr rfl rfl om om (by simp)) ?_;refine ak (.agg (cx qU)) (aQ (i:=i*36) (n:=36) (hp.at 0) (o0.ext i qU yB) (by have:=o0.le (i:=i) om;omega) U109 kr rfl) ?_;have kk:Ks cA [(gt,0)]:=⟨MI,trivial⟩;refine mU fun X5 N0 rS n53 hp pQ ho kk HV=>?_;have iv:=iv.new n53;rw[←HV]at iv;refine aU (i:=0) (v:=.agg (cx qU)) (hp.at 0) rfl rfl (by show _=some ((cx qU)).size;rw[dW];kernel_rfl) (by show 0+((cx qU)).size≤_;rw[dW];exact ayr rfl) (xk.one _) (fun w56 PL=>ab ?_);have PL:=cz PL (by show((cx qU)).size=_;rw[dW];rfl);have hp:=(hp.put 0 PL).nf;have iv:=iv.put PL kk.1;have ho:=ho.put PL kk.1 (.inl pQ);refine go ?_;refine ak (.agg (cx qU)) (aQ (i:=0) (n:=36) (hp.at 0) (ml qU) (by rw[dW];exact ayp _) U109 kr rfl) ?_;refine ce (US ho.ch qU (fun e he=>hNC e (by have q:=he;rw[acf]at q;exact q))) ?_;rintro _ w62 ⟨arc,m64,v57,rfl,acg,UU⟩;refine⟨_,rfl,ab ?_⟩;have UU:=UU.since ho.turns.size;obtain⟨b58,n59,c60,rfl⟩:=UU.sl;have iv:=iv.oU acg;obtain⟨hp,kk⟩:=mT acg hp kk;have ho:=ho.trans acg;refine nY iv UU ho.ch.bG ho.turns.size (by have:=uD (kq (s.cq (s.now+1)) i).2 qU;have h8:=vT (s.cq (s.now+1));omega) rfl rfl (fun v66 Tf Yz A69 ahi=>?_) U26;refine ab ?_;obtain⟨hp,kk⟩:=aT A69 hp kk;have ho:=ho.j6 A69 (fun b _ q=>.inl q);obtain⟨b71,n72,Bx,rfl⟩:=ahi.sl;refine go ?_;refine ak (i6 ((i+1:Nat):Int)) (aC (m:=(i:Int)) (n:=1) (s:=((i+1:Nat):Int)) rfl rfl (by have:=vT (s.cq (s.now+1));unfold wrap64;omega)) ?_;have hF:kq (s.cq (s.now+1)) (i+1)=(((kq (s.cq (s.now+1)) i).1++(eA ((kq (s.cq (s.now+1)) i).2) qU).1),(eA ((kq (s.cq (s.now+1)) i).2) qU).2):=CD yB;have v8:=uD (kq (s.cq (s.now+1)) i).2 qU;have MI:=kk.2.1;exact⟨_,om,i+1,Yz,m64,b71,n72,Bx,_,_,_,_,_,_,_,_,_,_,rfl,rfl,hp.tail,om,(by rw[hF];exact ho),(by rw[hF];exact ahi),(by rw[hF,ayG];omega),MI⟩
  refine go ?_;refine tT 22 (some 18) none fun bl=>?_;refine ah 0 ?_;refine ah 1 ?_;refine af 2 ?_;refine af 3 ?_;refine af 4 ?_;refine gI (pA f.rp 0) 5 rfl (yq fun w' h'=>ay ((ho.step h').ch.iX.choose_spec) rfl U64 rfl) ?_;refine af 6 ?_;refine af 7 ?_;refine af 8 ?_;refine gI (pA f.lp 0) 9 rfl (yq fun w' h'=>ay ((ho.step h').ch.iX.choose_spec) rfl U42 rfl) ?_;refine af 10 ?_;refine af 11 ?_;refine af 12 ?_;refine gI (pA f.vp 0) 13 rfl (yq fun w' h'=>ay ((ho.step h').ch.iX.choose_spec) rfl U57 rfl) ?_;refine af 14 ?_;refine af 15 ?_;refine af 16 ?_;refine gI (i6 (((kq (s.cq (s.now+1)) i).2).now)) 17 rfl (yq fun w' h'=>ay ((ho.step h').ch.iX.choose_spec) rfl U3 rfl) ?_;refine nF 18 (fun w74 D6 hp bl=>?_);have iv:=iv.below D6;have ho:=ho.step D6;have hsl:=yb ((kq (s.cq (s.now+1)) i).2) (((kq (s.cq (s.now+1)) i).2).now) ho.ch.inv.ll;refine ce (Ct ho.ch (((kq (s.cq (s.now+1)) i).2).now)) ?_;rintro _ w81 ⟨Yc,m83,v76,rfl,L6,Ap⟩;refine⟨_,rfl,ab ?_⟩;have Ap:=Ap.since ho.turns.size;obtain⟨b77,n78,c79,rfl⟩:=Ap.sl;have iv:=iv.oU L6;have kk:Ks cA [(gt,0)]:=⟨MI,trivial⟩;obtain⟨hp,kk⟩:=mT L6 hp kk;have ho:=ho.trans L6;refine go ?_;refine aD 19 (fun Ug r7 hp=>?_);have iv:=iv.below r7;have Ap:=Ap.below r7;have ho:=ho.step r7;refine jo (sV ho.ch Ap om) fun w87 ard m89 ahj hp ho kk=>?_;have iv:=iv.oU ahj;have Ap:=Ap.oU ahj;refine aD 20 (fun w91 By hp=>?_);have iv:=iv.below By;have Ap:=Ap.below By;have ho:=ho.step By;refine nY iv Ap ho.ch.bG ho.turns.size (by have h8:=vT (s.cq (s.now+1));have h9:=hsl;omega) rfl rfl (fun v93 w94 B3 A96 MJ=>?_) U26;refine ab ?_;obtain⟨hp,kk⟩:=aT A96 hp kk;have ho:=ho.j6 A96 (fun b _ q=>.inl q);obtain⟨b98,n99,auf,rfl⟩:=MJ.sl;refine go ?_;refine aD 21 (fun aaV qL hp=>?_);have MJ:=MJ.below qL;have ho:=ho.step qL;refine go ?_;refine aE (fun amz xP hp=>?_);have MJ:=MJ.below xP;have ho:=ho.step xP;refine go ?_;refine p1 ?_;have e:jj s=(((kq (s.cq (s.now+1)) i).1++(fW ((kq (s.cq (s.now+1)) i).2) (((kq (s.cq (s.now+1)) i).2).now)).2),(bz ((fW ((kq (s.cq (s.now+1)) i).2) (((kq (s.cq (s.now+1)) i).2).now)).1) ((fW ((kq (s.cq (s.now+1)) i).2) (((kq (s.cq (s.now+1)) i).2).now)).2))):=by unfold jj;rw[if_neg c1];simp only[];rw[show lM (s.cq (s.now+1))=(lM (s.cq (s.now+1))).take i from(azG om).symm]
  rw[e];exact⟨B3,m89,_,rfl,ho,MJ⟩
end
section
open Go.RowKit
variable{α β:Type}{of_ now:Int}{s:bM}{h:bU}{H:bn→bU}
def NN(s s':bM):Prop:=s'.N=s.N∧s'.now=s.now
theorem NN.refl(s:bM):NN s s:=⟨rfl,rfl⟩
theorem NN.trans{a b c:bM}(h:NN a b)(k:NN b c):NN a c:=⟨k.1.trans h.1,k.2.trans h.2⟩
theorem RJ(s:bM)(a i:Int)(v:cZ):NN s (mS s a i v).2:=by
 unfold mS;repeat' split
 all_goals exact⟨rfl,rfl⟩
theorem Iu(s:bM)(a i n:Int):NN s (kQ s a i n).2:=by
 unfold kQ;repeat' split
 all_goals exact⟨rfl,rfl⟩
theorem Ek(s:bM)(a b c d e:Int):NN s (fh s a b c d e).2:=by
 unfold fh;repeat' split
 all_goals exact⟨rfl,rfl⟩
theorem Aq(s:bM)(a b c:Int):NN s (gO s a b c).2:=by
 unfold gO;repeat' split
 all_goals exact⟨rfl,rfl⟩
theorem Iv(s:bM)(a b c:Int):NN s (kR s a b c).2:=by
 unfold kR;repeat' split
 all_goals exact⟨rfl,rfl⟩
theorem Ar(s:bM)(a b:Int)(h:bU)(c d:Int):NN s (gm s a b h c d).2:=by
 unfold gm;repeat' split
 all_goals exact⟨rfl,rfl⟩
theorem Gp(s:bM)(a b:Int):NN s (j7 s a b).2:=by
 unfold j7;repeat' split
 all_goals exact⟨rfl,rfl⟩
theorem Iw(s:bM)(a b:Int):NN s (eu s a b).2:=by
 unfold eu;repeat' split
 all_goals exact⟨rfl,rfl⟩
theorem RK(s:bM)(h:bU):NN s (Gb s h):=by
 unfold Gb;repeat' split
 all_goals exact⟨rfl,rfl⟩
theorem uE(s:bM)(h:bU):NN s (fb s h):=by
 unfold fb;repeat' split
 all_goals exact⟨rfl,rfl⟩
theorem At{α:Type}(f:bM→α→bM)(h:∀s x,NN s (f s x)):∀(l:List α) (s:bM),NN s (l.foldl f s)
 |[],s=>NN.refl s
 |x::l,s=>(h s x).trans (At f h l (f s x))
theorem CE{α β:Type}(f:bM×β→α→bM×β)(h:∀a x,NN a.1 (f a x).1):∀(l:List α) (a:bM×β),NN a.1 (l.foldl f a).1
 |[],a=>NN.refl a.1
 |x::l,a=>(h a x).trans (CE f h l (f a x))
theorem xm{α β:Type}(f:β×bM→α→β×bM)(h:∀a x,NN a.2 (f a x).2):∀(l:List α) (a:β×bM),NN a.2 (l.foldl f a).2
 |[],a=>NN.refl a.2
 |x::l,a=>(h a x).trans (xm f h l (f a x))
theorem UW(now:Int)(s:bM)(i:Int):NN s (ux now s i):=by unfold ux;split<;>exact⟨rfl,rfl⟩
theorem Au(s:bM)(o now:Int):NN s (aA s o now):=At _ (UW now) _ s
theorem Av(s:bM)(x:aY)(i st now:Int):NN s (tU s x i st now):=by
 unfold tU;repeat' split
 all_goals exact⟨rfl,rfl⟩
theorem RL(now:Int)(a:bM×List iY)(e:(Int×Int)×aY):NN a.1 (mh now a e).1:=by
 unfold mh;split
 ·simp only;split;·exact⟨rfl,rfl⟩
  ·exact NN.trans (b:=a.1.rI (ej a.1.L 0 e.1.2 (be e.2 (bR a.1.P e.1.2) (dL a.1.fs) now).1)) ⟨rfl,rfl⟩ (Av _ _ _ _ _)
 ·exact NN.refl _
theorem yd(s:bM)(now:Int):NN s (fW s now).1:=((Au s 0 now).trans (Au _ 1 now)).trans (CE _ (RL now) _ (aA (aA s 0 now) 1 now,[]))
theorem MK(s:bM)(e:iY):NN s (mL s e):=by
 unfold mL;repeat' split
 ·exact⟨rfl,rfl⟩
 ·exact uE _ _
 ·exact NN.refl _
theorem xn(s:bM)(es:List iY):NN s (bz s es):=At _ MK es s
theorem ML(s:bM)(c t n:Int):NN s (gZ s c t n).2:=by
 unfold gZ;repeat' split
 all_goals exact⟨rfl,rfl⟩
theorem Ix(s:bM)(i now:Int):NN s (eZ s i now).2:=by
 unfold eZ;repeat' split
 all_goals first|exact⟨rfl,rfl⟩|exact NN.trans (b:=_) ⟨rfl,rfl⟩ (Av _ _ _ _ _)
theorem RM(s:bM)(i now:Int):NN s (i9 s i now).2:=by
 unfold i9;repeat' split
 all_goals first|exact⟨rfl,rfl⟩|exact NN.trans (b:=_) ⟨rfl,rfl⟩ (Av _ _ _ _ _)
theorem CG{of_ now:Int}:∀(l:List bn) (out:List iY) (s:bM),(∀x∈l,∀s,NN s (aX of_ now x s).2)→NN s (dG of_ now l out s).2
 |[],out,s,h=>by rw[dG];exact NN.refl s
 |c::l,out,s,h=>by
  have h1:=h c (by simp) s;by_cases q:(aX of_ now c s).1.2=0;·rw[oe q];exact h1.trans (CG l _ _ fun x hx=>h x (by simp[hx]))
  ·rw[pU q];exact h1
theorem RO(c:bn):∀s,NN s (aX of_ now c s).2:=by
 refine bn.ind (P:=fun c=>∀s,NN s (aX of_ now c s).2) (fun c IH=>?_) c;intro s;obtain⟨k,t,n,l⟩:=c;rw[aX];split;·exact NN.refl s
 ·split;·exact ML _ _ _ _
  ·split;·exact CG l [] s fun x hx=>IH x hx
   ·split
    ·split;·exact NN.refl s
     ·exact Ix _ _ _
    ·split;·exact NN.refl s
     ·exact RM _ _ _
theorem ach(s:bM)(c:bn)(of_ now:Int):NN s (oz s c of_ now).2:=by
 unfold oz;split
 ·split;·exact RO c s
  ·exact NN.refl s
 ·exact NN.refl s
theorem CH(s:bM)(t:cS):NN s (eA s t).2:=by
 unfold eA;split;·exact uE _ _
 ·exact((ach _ _ _ _).trans (xn _ _)).trans (uE _ _)
theorem RP(s:bM):(jj s).2.N=s.N:=by
 unfold jj;split;·rfl
 ·simp only;have h1:=xm oX (fun a t=>CH a.2 t) (lM (s.cq (s.now+1))) ([],qB (s.cq (s.now+1)));exact((xn _ _).1.trans (yd _ _).1).trans h1.1
theorem Iy(s:bM):(jj s).2.now=s.now∨(jj s).2.now=s.now+1:=by
 unfold jj;split;·exact .inl rfl
 ·simp only;have h1:=xm oX (fun a t=>CH a.2 t) (lM (s.cq (s.now+1))) ([],qB (s.cq (s.now+1)));exact .inr (((xn _ _).2.trans (yd _ _).2).trans h1.2)
structure EK(s:bM):Prop where
 nc:NC s
 now:0≤s.now
theorem NN.ok{s':bM}(h:NN s s')(k:EK s):EK s':=⟨by unfold NC;rw[h.1];exact k.nc,by rw[h.2];exact k.now⟩
theorem MM(k:EK s):EK (jj s).2:=⟨by unfold NC;rw[RP];exact k.nc,by have:=k.now;rcases Iy s with e|e<;>rw[e]<;>omega⟩
theorem RQ{L:List (bU×α)}{v:α}{e:bU×α}(q:e∈tf L h v):e∈L∨e=(h,v):=by
 unfold tf at q;split at q
 ·rcases azp q with q|q;·exact .inl q
  ·exact .inr q
 ·rcases azk.1 q with q|q;·exact .inl q
  ·exact .inr (by simpa using q)
theorem RR{L:List (bU×α)}{e:bU×α}(q:e∈Fu L h):e∈L:=by
 unfold Fu at q;split at q;·exact List.mem_of_mem_eraseIdx q
 ·exact q
theorem RS(k:EK s)(a:Int)(c:bn):EK (de H s a c).2:=by
 unfold de;split;·exact k
 ·split;·exact k
  ·split
   ·rename_i hc;split;·exact k
    ·split;·exact k
     ·split
      ·refine⟨fun e he=>?_,k.now⟩;rcases RQ he with q|q;·exact k.nc e q
       ·rw[q];exact hc
      ·exact⟨k.nc,k.now⟩
   ·exact k
theorem Iz(k:EK s)(a:Int)(h:bU):EK (nt s a h).2:=by
 unfold nt;split;·exact k
 ·split
  ·split;·exact k
   ·exact⟨fun e he=>k.nc e (RR he),k.now⟩
  ·exact k
theorem IA(s:bM)(e:se):NN s (qC s e).2:=by
 unfold qC;simp only;split;·exact(Ar _ _ _ _ _ _).trans (RK _ _)
 ·exact Ar _ _ _ _ _ _
theorem MN(s:bM)(e:se):NN s (oY s e).2:=by
 unfold oY;repeat' split
 ·exact RJ _ _ _ _
 ·exact Iu _ _ _ _
 ·exact Ek _ _ _ _ _ _
 ·exact Aq _ _ _ _
 ·exact Iv _ _ _ _
theorem MO(k:EK s)(e:se):EK (jF H s e).2:=by
 unfold jF;split
 ·split;·exact⟨k.nc,k.now⟩
  ·split;·exact RS k _ _
   ·split;·exact Iz k _ _
    ·split;·exact(IA s e).ok k
     ·split;·exact(Gp _ _ _).ok k
      ·split;·exact(Iw _ _ _).ok k
       ·exact(MN _ _).ok k
 ·exact k
end
end Go.Proofs.YtdkpbpjcbkibiaaGreatDoor.B
