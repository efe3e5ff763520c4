/- Act -/
import Derived.Test.YtdkpbpjcbkibiaaGreatDoorV1
import Derived.Test.YtdkpbpjcbkibiaaGreatDoorV12
import Derived.Test.YtdkpbpjcbkibiaaGreatDoorV30
import Derived.Test.YtdkpbpjcbkibiaaGreatDoorV18
set_option linter.all false
set_option maxRecDepth 100000
set_option maxHeartbeats 4000000
namespace Go.Proofs.YtdkpbpjcbkibiaaGreatDoor.B
open Go.RowKit
section
open Go.RowKit
variable{of_ now d:Int}{c:bn}{l kids:List bn}{s:bM}{w:World}{col:Nat→Nat}{f:CF}{m:CV}{dp g off cc_:Nat}{td ty:TypeId}{arr:Array Value}{b:Option Addr}
theorem drop_at{α:Type}{l:List α}{i:Nat}{x:α}(h:l[i]?=some x):l.drop i=x::l.drop (i+1):=by obtain⟨hi,rfl⟩:=ays.1 h;exact azZ hi
def Cw(f:CF)(of_ now:Int):Array Value:=#[.pointer (some ⟨f.lp,0,none⟩),.pointer (some ⟨f.vp,0,none⟩),.pointer (some ⟨f.rp,0,none⟩),.int .i64 of_,.int .i64 now]
theorem oe{out:List iY}(h:(aX of_ now c s).1.2=0):dG of_ now (c::l) out s=dG of_ now l (out++(aX of_ now c s).1.1) (aX of_ now c s).2:=by rw[dG,if_pos h]
theorem pU{out:List iY}(h:¬(aX of_ now c s).1.2=0):dG of_ now (c::l) out s=((out++(aX of_ now c s).1.1,(aX of_ now c s).1.2),(aX of_ now c s).2):=by rw[dG,if_neg h]
theorem Mu(s:bM)(i now:Int):(i9 s i now).1.1.length≤3:=by
 unfold i9 B0;split;·simp
 ·split;·simp only[ayJ,ayG];split<;>split<;>simp
  ·simp
theorem Ge(s:bM)(i now:Int):(eZ s i now).1.1.length≤1:=by
 unfold eZ;split;·simp
 ·split<;>simp
theorem Io(s:bM)(c t n:Int):(gZ s c t n).1.1.length≤1:=by
 unfold gZ;split;·simp
 ·split<;>simp
def UB:Nat→Nat
 |0=>3
 |j+1=>4*UB j
theorem agY(j:Nat):3≤UB j:=by
 induction j with
 |zero=>exact ayp _
 |succ j ih=>unfold UB;omega
theorem Ai{of_ now:Int}{B:Nat}:∀(l:List bn) (out:List iY) (s:bM),(∀x∈l,∀s,(aX of_ now x s).1.1.length≤B)→(dG of_ now l out s).1.1.length≤out.length+l.length*B
 |[],out,s,h=>by rw[dG];simp
 |c::l,out,s,h=>by
  have h1:=h c (by simp) s;by_cases q:(aX of_ now c s).1.2=0;·rw[oe q];have:=Ai l (out++(aX of_ now c s).1.1) (aX of_ now c s).2 fun x hx=>h x (by simp[hx]);simp only[ayG,ayJ,ay0]at*;omega
  ·rw[pU q];simp only[ayG,ayJ,ay0];omega
theorem Ip(c:bn):∀(j:Nat) (d:Int),an c d=true→3-d≤j→∀s,(aX of_ now c s).1.1.length≤UB j:=by
 refine bn.ind (P:=fun c=>∀(j:Nat) (d:Int),an c d=true→3-d≤j→∀s,(aX of_ now c s).1.1.length≤UB j) (fun c IH=>?_) c;intro j d hc hj s;obtain⟨k,t,n,l⟩:=c;have h3:=agY j;rw[aX];split;·simp;omega
 ·split;·have:=Io s (dt of_).cap t n;omega
  ·split
   ·rename_i h1 h2 h5;subst h5;have hf:=jG hc;rw[an]at hc;simp only[show ¬((5:Int)=1)by decide,show ¬((5:Int)=2)by decide,show ¬((5:Int)=3∨(5:Int)=4)by decide,if_false,if_true,ayF,decide_eq_true_eq]at hc;have hd:=hc.1.1.1.1;obtain⟨j',rfl⟩:∃j',j=j'+1:=⟨j-1,by omega⟩;have:=Ai (of_:=of_) (now:=now) (B:=UB j') l [] s fun x hx s=>by obtain⟨i,hi⟩:=ayX.1 hx;exact IH x hx j' (d+1) (hf.2 i x hi) om s
    have h4:l.length*UB j'≤4*UB j':=ayD _ hf.1;show _≤4*UB j';simp only[ayY,ayR]at this;omega
   ·split
    ·split;·simp
     ·have:=Ge s n now;omega
    ·split;·simp
     ·have:=Mu s n now;omega
theorem xi{of_ now:Int}{c:bn}{d:Int}(h:an c d=true)(hd:0≤d)(s:bM):(aX of_ now c s).1.1.length≤192:=Ip c 3 d h om s
def DoC(c:bn):Prop:=∀(w:World) (col:Nat→Nat) (f:CF) (m:CV) (s:bM) (cs:Array Value) (of_ now d:Int) (dp:Nat) (td:TypeId),Ch w col f m s→bw w (fun b=>col b=0) cs c→an c d=true→0≤d→0≤of_∧of_<2→bH w dp (Cw f of_ now) td→col dp=7→DN 146 #[.pointer (some ⟨dp,0,none⟩),.agg cs] w col f m s (aX of_ now c s).1.1 (aX of_ now c s).1.2 (aX of_ now c s).2
theorem Gf(h:Ch w col f m s){sl:Value}(Od:bH w dp (Cw f of_ now) td)(Oe:col dp=7)(tr:jY)(k t n:Int):DN 184 #[pA dp 0,.agg #[i6 tr.oM,i6 tr.cU,i6 tr.kc,i6 tr.decision,i6 tr.cm,i6 tr.mQ,i6 1,i6 tr.dz,i6 tr.dz,i6 1,i6 0,i6 1,i6 tr.support,i6 tr.support,i6 1,i6 0,i6 tr.cap,i6 tr.uh],.agg #[i6 k,i6 t,i6 n,sl]] w col f m s ((gZ s tr.cap t n).1.1) ((gZ s tr.cap t n).1.2) ((gZ s tr.cap t n).2):=by
 have ho:Out w col m s w col f m s:=bV.start h;have hp:Hp w [(dp,#[pA f.lp 0,pA f.vp 0,pA f.rp 0,i6 of_,i6 now],td)]:=Hp.one Od;have uB:=Oe;refine fe Tryz.func184 Tryz.ntmps184 ?_;refine go ?_;have kk:Ks col [(dp,7)]:=⟨uB,trivial⟩;refine EE fun g1 w2 dh n3 hp dq ho kk cF=>?_;refine EE fun g5 w6 lf n7 hp fx ho kk zL=>?_;by_cases c9:tr.cap<n;·refine go ?_;refine p2 ?_;refine fE ho .nil ?_ ?_ ?_<;>simp[gZ,c9]<;>and_intros<;>rfl
 refine go ?_;refine gu 8 ?_;refine gq ?_;refine nl fun o2 oO hp=>?_;have ho:=ho.step oO;refine jo (zz ho.ch 0 t n) fun pW Kc m14 atg hp ho kk=>?_;by_cases pg:iu s.fs s.K 0 t n=0
 ·refine go ?_;refine ak (.agg #[i6 3,i6 t,i6 n]) kr ?_;refine dT (n:=1) (cells:=#[i6 3,i6 t,i6 n]) (e:=70) kr (fun g17 s7 Cp=>ab ?_);obtain⟨zO,D2⟩:∃z,z=iQ Kc g17:=⟨_,rfl⟩;have Yb:A8 w pW Kc s7 zO:=by rw[D2];exact A8.kS Cp ho.ch.bG
  have xj:ix w s7 zO (.slice (some ⟨g17,0,none⟩) 1 1) [iY.mk 3 t n]:=by rw[D2];exact ix.one Cp ho.turns.size
  obtain⟨hp,kk⟩:=aT Yb hp kk;have ho:=ho.j6 Yb (fun b _ q=>.inl q);refine go ?_;refine p2 ?_;refine fE ho xj ?_ ?_ ?_<;>simp[gZ,c9,pg]<;>and_intros<;>rfl
 refine go ?_;refine p2 ?_;refine fE ho .nil ?_ ?_ ?_<;>simp[gZ,c9,pg]<;>and_intros<;>rfl
theorem gn.out{w2:World}{et:Nat→Nat}{m2:CV}{s2:bM}{c:Nat}(h:gn w (fun b=>col b=0) g off c arr ty kids)(ho:Out w col m s w2 et f m2 s2):gn w2 (fun b=>et b=0) g off c arr ty kids:=⟨h.fA.turns ho.tn (Ad g h.z),(ho.fp _ h.fA.lt).trans h.z,h.fit,h.cap,h.sm,fun i x hx=>(h.at_ i x hx).out ho⟩
theorem Mv(h:Ch w col f m s)(Od:bH w dp (Cw f of_ now) td)(Oe:col dp=7):DN 185 #[pA dp 0,.slice b 0 0] w col f m s ((dG of_ now [] [] s).1.1) ((dG of_ now [] [] s).1.2) ((dG of_ now [] [] s).2):=by
 have ho:Out w col m s w col f m s:=bV.start h;have hp:Hp w [(dp,#[pA f.lp 0,pA f.vp 0,pA f.rp 0,i6 of_,i6 now],td)]:=Hp.one Od;have uB:=Oe;refine fe Tryz.func185 Tryz.ntmps185 ?_;refine go ?_;refine iR 1 ?_;refine go ?_;refine p2 ?_;have e:dG of_ now [] [] s=(([],0),s):=by rw[dG]
 rw[e];exact⟨col,m,_,rfl,ho,ix.nil⟩
theorem QZ(h:Ch w col f m s)(Od:bH w dp (Cw f of_ now) td)(Oe:col dp=7)(hk:gn w (fun b=>col b=0) g off cc_ arr ty kids)(IH:∀x∈kids,DoC x)(Ic:0≤of_∧of_<2)(wj:0≤d)(UC:kids.length≤4∧∀(i:Nat) x,kids[i]?=some x→an x (d+1)=true):DN 185 #[pA dp 0,.slice (some ⟨g,off,none⟩) kids.length cc_] w col f m s ((dG of_ now kids [] s).1.1) ((dG of_ now kids [] s).1.2) ((dG of_ now kids [] s).2):=by
 have ho:Out w col m s w col f m s:=bV.start h;have hp:Hp w [(dp,#[pA f.lp 0,pA f.vp 0,pA f.rp 0,i6 of_,i6 now],td)]:=Hp.one Od;have uB:=Oe;have mz:=hk.fit;have abO:=UC.1;refine fe Tryz.func185 Tryz.ntmps185 ?_;refine go ?_;refine cT (fun m' a' w'=>∃(i:Nat) (cA:Nat→Nat) (mA:CV) (bb:Option Addr) (nn:Nat) (cc:Nat) (es:List iY) (sX:bM) (u4 u5 u8 u9 qO kt iD u16 iL ig jd je iE iF iG kK k3 nA nC o3 pk qI:Value),a'=(fR #[pA dp 0,.slice (some ⟨g,off,none⟩) kids.length cc_,undef,undef,u4,u5,.slice bb nn cc,undef,u8,u9,qO,.slice (some ⟨g,off,none⟩) kids.length cc_,i6 (kids.length:Int),i6 (i:Int),kt,iD,u16,iL,ig,jd,je,iE,iF,iG,kK,k3,nA,nC,o3,pk,qI,undef])∧m'=kids.length-i∧Hp w' [(dp,#[pA f.lp 0,pA f.vp 0,pA f.rp 0,i6 of_,i6 now],td)]∧i≤kids.length∧dG of_ now kids [] s=dG of_ now (kids.drop i) es sX∧Out w col m s w' cA f mA sX∧ix w w' cA (.slice bb nn cc) es∧es.length≤i*192∧cA dp=7) _ ⟨0,col,m,none,0,0,[],s,.slice none 0 0,i6 0,undef,undef,undef,undef,undef,undef,undef,undef,undef,undef,undef,undef,undef,undef,undef,undef,undef,undef,undef,undef,rfl,rfl,hp,om,rfl,ho,.nil,(by simp),uB⟩ ?_;rintro m2 _ w1 ⟨i,cA,mA,bb,nn,cc,es,sX,u4,u5,u8,u9,qO,kt,iD,u16,iL,ig,jd,je,iE,iF,iG,kK,k3,nA,nC,o3,pk,qI,rfl,rfl,hp,hi,hF,ho,iv,hl,uB⟩;refine go ?_;by_cases c3:(i:Int)<(kids.length:Int)
 ·obtain⟨x,hx⟩:∃x,kids[i]?=some x:=⟨_,ayq om⟩;have sn:=(hk.at_ i x hx).size;have Gc:=(hk.at_ i x hx).one;refine go ?_;refine ak (pA g (off+i*4)) (cX (l:=kids.length) (j:=(i:Int)) (off:=off) (sz:=4) U34 kr rfl rfl om om (by simp)) ?_;refine ak (.agg (arr.extract (off+i*4) (off+i*4+4))) (qt (i:=off+i*4) (n:=4) (hk.out ho).fA rfl om U36 kr rfl) ?_;have kk:Ks cA [(dp,7)]:=⟨uB,trivial⟩;refine mU fun g4 w5 HY n6 hp gR ho kk JV=>?_;have iv:=iv.new n6;rw[←JV]at iv;refine aU (i:=0) (v:=.agg (arr.extract (off+i*4) (off+i*4+4))) (hp.at 0) rfl rfl (by show _=some ((arr.extract (off+i*4) (off+i*4+4))).size;rw[sn];kernel_rfl) (by show 0+((arr.extract (off+i*4) (off+i*4+4))).size≤_;rw[sn];exact ayr rfl) Gc (fun w9 p8=>ab ?_);have p8:=cz p8 (by show((arr.extract (off+i*4) (off+i*4+4))).size=_;rw[sn];rfl);have hp:=(hp.put 0 p8).nf;have iv:=iv.put p8 kk.1;have ho:=ho.put p8 kk.1 (.inl gR);refine go ?_;refine ak (.agg (arr.extract (off+i*4) (off+i*4+4))) (aQ (i:=0) (n:=4) (hp.at 0) (eR sn) (by rw[sn];exact ayp _) U36 kr rfl) ?_;have uB:=kk.2.1;refine ce (IH x (ayw hx) _ _ f _ sX _ of_ now (d+1) dp td ho.ch ((hk.at_ i x hx).out ho) (UC.2 i x hx) om Ic (hp.at 1) uB) ?_;rintro _ pb ⟨xO,Td,v10,rfl,HS,UD⟩;refine⟨_,rfl,ab ?_⟩;have UD:=UD.since ho.turns.size;obtain⟨Xy,lS,ng,rfl⟩:=UD.sl;have iv:=iv.oU HS;have kk:Ks HY [(g4,7),(dp,7)]:=⟨kk.1,uB,trivial⟩;obtain⟨hp,kk⟩:=mT HS hp kk;have ho:=ho.trans HS;refine go ?_;refine nY iv UD ho.ch.bG ho.turns.size (by have:=xi (of_:=of_) (now:=now) (UC.2 i x hx) om sX;omega) rfl rfl (fun v19 re B5 Yb rY=>?_) U26;refine ab ?_;obtain⟨hp,kk⟩:=aT Yb hp kk;have ho:=ho.j6 Yb (fun b _ q=>.inl q);obtain⟨OO,n25,jT,rfl⟩:=rY.sl;refine go ?_;by_cases kH:(aX of_ now x sX).1.2=0
  ·refine go ?_;refine ak (i6 ((i+1:Nat):Int)) (aC (m:=(i:Int)) (n:=1) (s:=((i+1:Nat):Int)) rfl rfl (by unfold wrap64;omega)) ?_;have hF2:dG of_ now kids [] s=dG of_ now (kids.drop (i+1)) (es++(aX of_ now x sX).1.1) (aX of_ now x sX).2:=by rw[hF,drop_at hx,oe kH]
   have v8:=xi (of_:=of_) (now:=now) (UC.2 i x hx) om sX;have uB:=kk.2.1;exact⟨_,om,i+1,B5,Td,OO,n25,jT,(es++(aX of_ now x sX).1.1),(aX of_ now x sX).2,_,_,_,_,_,_,_,_,_,_,_,_,_,_,_,_,_,_,_,_,_,_,rfl,rfl,hp.tail,om,hF2,ho,rY,(by rw[ayG];omega),uB⟩
  refine go ?_;refine p2 ?_;have e:dG of_ now kids [] s=(((es++(aX of_ now x sX).1.1),(aX of_ now x sX).1.2),(aX of_ now x sX).2):=by rw[hF,drop_at hx,pU kH]
  rw[e];exact⟨B5,Td,_,rfl,ho,rY⟩
 refine go ?_;refine p2 ?_;have e:dG of_ now kids [] s=((es,0),sX):=by rw[hF,azb om,dG]
 rw[e];exact⟨cA,mA,_,rfl,ho,iv⟩
theorem Mw(h:Ch w col f m s)(Od:bH w dp (Cw f of_ now) td)(Oe:col dp=7)(Ic:0≤of_∧of_<2)(k t n:Int)(wj:0≤d)(hd:an (.mk k t n []) d=true):DN 146 #[pA dp 0,.agg #[i6 k,i6 t,i6 n,.slice b 0 0]] w col f m s ((aX of_ now (.mk k t n []) s).1.1) ((aX of_ now (.mk k t n []) s).1.2) ((aX of_ now (.mk k t n []) s).2):=by
 have ho:Out w col m s w col f m s:=bV.start h;have hp:Hp w [(dp,#[pA f.lp 0,pA f.vp 0,pA f.rp 0,i6 of_,i6 now],td)]:=Hp.one Od;have uB:=Oe;refine fe Tryz.func146 Tryz.ntmps146 ?_;refine go ?_;have kk:Ks col [(dp,7)]:=⟨uB,trivial⟩;refine EE fun g1 w2 dh n3 hp dq ho kk cF=>?_;refine tT 15 (some 13) (some 13) fun bl=>?_;refine af 0 ?_;refine af 1 ?_;refine af 2 ?_;refine af 3 ?_;refine af 4 ?_;refine af 5 ?_;refine af 6 ?_;refine af 7 ?_;refine gI (.tuple #[.agg #[i6 ((dt of_).oM),i6 ((dt of_).cU),i6 ((dt of_).kc),i6 ((dt of_).decision),i6 ((dt of_).cm),i6 ((dt of_).mQ),i6 1,i6 ((dt of_).dz),i6 ((dt of_).dz),i6 1,i6 0,i6 1,i6 ((dt of_).support),i6 ((dt of_).support),i6 1,i6 0,i6 ((dt of_).cap),i6 ((dt of_).uh)],.bool true]) 8 rfl (yc (fun w' h'=>rG (ho.step h').ch.ref Ic.1 (zD Ic))) ?_;refine af 9 ?_;refine af 10 ?_;refine ap 11 ?_;refine nF 12 (fun w5 nQ hp bl=>?_);have ho:=ho.step nQ;refine mU fun g7 w8 me n9 hp mg ho kk Qf=>?_;have bl:=U bl n9.below;refine aS 13 (fun ot fY hp bl=>?_) (hD:=fun _ fY=>⟨br (U bl fY),az ((hp.sub ((.cons _ (.cons_cons _ (.cons_cons _ .slnil))))).below fY)⟩);have ho:=ho.step fY;refine pF kk.1 (.inl mg) fun ui BL hp ho=>?_;refine aD 14 (fun pb jx hp=>?_);have ho:=ho.step jx;refine go ?_;refine aE (fun s6 gC hp=>?_);have ho:=ho.step gC;refine go ?_;by_cases im:k=1
 ·refine go ?_;refine gu 7 ?_;refine gq ?_;refine qs (.agg #[i6 5,i6 of_,i6 n]) (fun w' h'=>by kernel_rfl) ?_;refine nl fun re lH hp=>?_;have ho:=ho.step lH;refine dT (n:=1) (cells:=#[i6 5,i6 of_,i6 n]) (e:=70) kr (fun g22 wu XU=>ab ?_);obtain⟨qK,uu⟩:∃z,z=iQ me g22:=⟨_,rfl⟩;have Mx:A8 w re me wu qK:=by rw[uu];exact A8.kS XU ho.ch.bG
  have abU:ix w wu qK (.slice (some ⟨g22,0,none⟩) 1 1) [iY.mk 5 of_ n]:=by rw[uu];exact ix.one XU ho.turns.size
  obtain⟨hp,kk⟩:=aT Mx hp kk;have ho:=ho.j6 Mx (fun b _ q=>.inl q);refine go ?_;refine p2 ?_;have e1:(aX of_ now (.mk k t n []) s).1.1=[iY.mk 5 of_ n]:=by rw[aX];simp[im]
  have e2:(aX of_ now (.mk k t n []) s).1.2=0:=by rw[aX];simp[im]
  have e3:(aX of_ now (.mk k t n []) s).2=s:=by rw[aX];simp[im]
  rw[e1,e2,e3];exact⟨qK,m,_,rfl,ho,abU⟩
 refine go ?_;by_cases j8:k=2
 ·refine go ?_;refine ce (Gf (sl:=.slice b 0 0) ho.ch (hp.at 2) kk.2.2.1 (dt of_) k t n) ?_;rintro _ GK ⟨Q0,m36,v29,rfl,Q1,Ee⟩;refine⟨_,rfl,ab ?_⟩;have Ee:=Ee.since ho.turns.size;obtain⟨TI,X7,oV,rfl⟩:=Ee.sl;obtain⟨hp,kk⟩:=mT Q1 hp kk;have ho:=ho.trans Q1;refine go ?_;refine p2 ?_;have e1:(aX of_ now (.mk k t n []) s).1.1=(gZ s (dt of_).cap t n).1.1:=by rw[aX];simp[im,j8]
  have e2:(aX of_ now (.mk k t n []) s).1.2=(gZ s (dt of_).cap t n).1.2:=by rw[aX];simp[im,j8]
  have e3:(aX of_ now (.mk k t n []) s).2=(gZ s (dt of_).cap t n).2:=by rw[aX];simp[im,j8]
  rw[e1,e2,e3];exact⟨Q0,m36,_,rfl,ho,Ee⟩
 refine go ?_;by_cases mV:k=5
 ·refine go ?_;refine ce (Mv ho.ch (hp.at 2) kk.2.2.1) ?_;rintro _ N6 ⟨rP,m46,v39,rfl,Q2,Ef⟩;refine⟨_,rfl,ab ?_⟩;have Ef:=Ef.since ho.turns.size;obtain⟨b40,n41,N5,rfl⟩:=Ef.sl;obtain⟨hp,kk⟩:=mT Q2 hp kk;have ho:=ho.trans Q2;refine go ?_;refine p2 ?_;have e1:(aX of_ now (.mk k t n []) s).1.1=(dG of_ now [] [] s).1.1:=by rw[aX];simp[im,j8,mV]
  have e2:(aX of_ now (.mk k t n []) s).1.2=(dG of_ now [] [] s).1.2:=by rw[aX];simp[im,j8,mV]
  have e3:(aX of_ now (.mk k t n []) s).2=(dG of_ now [] [] s).2:=by rw[aX];simp[im,j8,mV]
  rw[e1,e2,e3];exact⟨rP,m46,_,rfl,ho,Ef⟩
 refine go ?_;by_cases xW:k=3
 ·refine go ?_;by_cases tE:(dt of_).uh<1
  ·refine go ?_;refine p2 ?_;have e1:(aX of_ now (.mk k t n []) s).1.1=[]:=by rw[aX];simp[im,j8,mV,xW,tE]
   have e2:(aX of_ now (.mk k t n []) s).1.2=8:=by rw[aX];simp[im,j8,mV,xW,tE]
   have e3:(aX of_ now (.mk k t n []) s).2=s:=by rw[aX];simp[im,j8,mV,xW,tE]
   rw[e1,e2,e3];exact⟨me,m,_,rfl,ho,ix.nil⟩
  refine go ?_;refine tT 19 (some 14) none fun bl=>?_;refine af 0 ?_;refine af 1 ?_;refine af 2 ?_;refine af 3 ?_;refine af 4 ?_;refine af 5 ?_;refine af 6 ?_;refine af 7 ?_;refine af 8 ?_;refine af 9 ?_;refine af 10 ?_;refine af 11 ?_;refine af 12 ?_;refine af 13 ?_;refine nF 14 (fun LJ mE hp bl=>?_);have ho:=ho.step mE;refine ce (Cc ho.ch n now) ?_;rintro _ Ua ⟨Q3,m59,v52,rfl,Q4,mM⟩;refine⟨_,rfl,ab ?_⟩;have mM:=mM.since ho.turns.size;obtain⟨b53,n54,Bv,rfl⟩:=mM.sl;obtain⟨hp,kk⟩:=mT Q4 hp kk;have ho:=ho.trans Q4;refine go ?_;refine ap 15 ?_;refine aD 16 (fun NZ tD hp=>?_);have mM:=mM.below tD;have ho:=ho.step tD;refine go ?_;refine aD 17 (fun LX pR hp=>?_);have mM:=mM.below pR;have ho:=ho.step pR;refine go ?_;refine aD 18 (fun Tf wR hp=>?_);have mM:=mM.below wR;have ho:=ho.step wR;refine go ?_;refine aE (fun w69 Q5 hp=>?_);have mM:=mM.below Q5;have ho:=ho.step Q5;refine go ?_;refine p2 ?_;have e1:(aX of_ now (.mk k t n []) s).1.1=(eZ s n now).1.1:=by rw[aX];simp[im,j8,mV,xW,tE]
  have e2:(aX of_ now (.mk k t n []) s).1.2=(eZ s n now).1.2:=by rw[aX];simp[im,j8,mV,xW,tE]
  have e3:(aX of_ now (.mk k t n []) s).2=(eZ s n now).2:=by rw[aX];simp[im,j8,mV,xW,tE]
  rw[e1,e2,e3];exact⟨Q3,m59,_,rfl,ho,mM⟩
 refine go ?_;by_cases Bb:(dt of_).uh<2
 ·refine go ?_;refine p2 ?_;have e1:(aX of_ now (.mk k t n []) s).1.1=[]:=by rw[aX];simp[im,j8,mV,xW,Bb]
  have e2:(aX of_ now (.mk k t n []) s).1.2=8:=by rw[aX];simp[im,j8,mV,xW,Bb]
  have e3:(aX of_ now (.mk k t n []) s).2=s:=by rw[aX];simp[im,j8,mV,xW,Bb]
  rw[e1,e2,e3];exact⟨me,m,_,rfl,ho,ix.nil⟩
 refine go ?_;refine tT 23 (some 18) none fun bl=>?_;refine af 0 ?_;refine af 1 ?_;refine af 2 ?_;refine af 3 ?_;refine af 4 ?_;refine af 5 ?_;refine af 6 ?_;refine af 7 ?_;refine af 8 ?_;refine af 9 ?_;refine af 10 ?_;refine af 11 ?_;refine af 12 ?_;refine af 13 ?_;refine af 14 ?_;refine af 15 ?_;refine af 16 ?_;refine af 17 ?_;refine nF 18 (fun w72 Qe hp bl=>?_);have ho:=ho.step Qe;refine ce (J0 ho.ch n now) ?_;rintro _ w79 ⟨Q6,m81,v74,rfl,Q7,mN⟩;refine⟨_,rfl,ab ?_⟩;have mN:=mN.since ho.turns.size;obtain⟨b75,n76,c77,rfl⟩:=mN.sl;obtain⟨hp,kk⟩:=mT Q7 hp kk;have ho:=ho.trans Q7;refine go ?_;refine ap 19 ?_;refine aD 20 (fun Ug r7 hp=>?_);have mN:=mN.below r7;have ho:=ho.step r7;refine go ?_;refine aD 21 (fun w87 tu hp=>?_);have mN:=mN.below tu;have ho:=ho.step tu;refine go ?_;refine aD 22 (fun w89 rU hp=>?_);have mN:=mN.below rU;have ho:=ho.step rU;refine go ?_;refine aE (fun w91 By hp=>?_);have mN:=mN.below By;have ho:=ho.step By;refine go ?_;refine p2 ?_;have e1:(aX of_ now (.mk k t n []) s).1.1=(i9 s n now).1.1:=by rw[aX];simp[im,j8,mV,xW,Bb]
 have e2:(aX of_ now (.mk k t n []) s).1.2=(i9 s n now).1.2:=by rw[aX];simp[im,j8,mV,xW,Bb]
 have e3:(aX of_ now (.mk k t n []) s).2=(i9 s n now).2:=by rw[aX];simp[im,j8,mV,xW,Bb]
 rw[e1,e2,e3];exact⟨Q6,m81,_,rfl,ho,mN⟩
theorem My(h:Ch w col f m s)(Od:bH w dp (Cw f of_ now) td)(Oe:col dp=7)(hk:gn w (fun b=>col b=0) g off cc_ arr ty kids)(IH:∀x∈kids,DoC x)(Ic:0≤of_∧of_<2)(k t n:Int)(wj:0≤d)(hd:an (.mk k t n kids) d=true):DN 146 #[pA dp 0,.agg #[i6 k,i6 t,i6 n,.slice (some ⟨g,off,none⟩) kids.length cc_]] w col f m s ((aX of_ now (.mk k t n kids) s).1.1) ((aX of_ now (.mk k t n kids) s).1.2) ((aX of_ now (.mk k t n kids) s).2):=by
 have ho:Out w col m s w col f m s:=bV.start h;have hp:Hp w [(dp,#[pA f.lp 0,pA f.vp 0,pA f.rp 0,i6 of_,i6 now],td)]:=Hp.one Od;have uB:=Oe;refine fe Tryz.func146 Tryz.ntmps146 ?_;refine go ?_;have kk:Ks col [(dp,7)]:=⟨uB,trivial⟩;refine EE fun g1 w2 dh n3 hp dq ho kk cF=>?_;refine tT 15 (some 13) (some 13) fun bl=>?_;refine af 0 ?_;refine af 1 ?_;refine af 2 ?_;refine af 3 ?_;refine af 4 ?_;refine af 5 ?_;refine af 6 ?_;refine af 7 ?_;refine gI (.tuple #[.agg #[i6 ((dt of_).oM),i6 ((dt of_).cU),i6 ((dt of_).kc),i6 ((dt of_).decision),i6 ((dt of_).cm),i6 ((dt of_).mQ),i6 1,i6 ((dt of_).dz),i6 ((dt of_).dz),i6 1,i6 0,i6 1,i6 ((dt of_).support),i6 ((dt of_).support),i6 1,i6 0,i6 ((dt of_).cap),i6 ((dt of_).uh)],.bool true]) 8 rfl (yc (fun w' h'=>rG (ho.step h').ch.ref Ic.1 (zD Ic))) ?_;refine af 9 ?_;refine af 10 ?_;refine ap 11 ?_;refine nF 12 (fun w5 nQ hp bl=>?_);have ho:=ho.step nQ;refine mU fun g7 w8 me n9 hp mg ho kk Qf=>?_;have bl:=U bl n9.below;refine aS 13 (fun ot fY hp bl=>?_) (hD:=fun _ fY=>⟨br (U bl fY),az ((hp.sub ((.cons _ (.cons_cons _ (.cons_cons _ .slnil))))).below fY)⟩);have ho:=ho.step fY;refine pF kk.1 (.inl mg) fun ui BL hp ho=>?_;refine aD 14 (fun pb jx hp=>?_);have ho:=ho.step jx;refine go ?_;refine aE (fun s6 gC hp=>?_);have ho:=ho.step gC;refine go ?_;by_cases im:k=1
 ·refine go ?_;refine gu 7 ?_;refine gq ?_;refine qs (.agg #[i6 5,i6 of_,i6 n]) (fun w' h'=>by kernel_rfl) ?_;refine nl fun re lH hp=>?_;have ho:=ho.step lH;refine dT (n:=1) (cells:=#[i6 5,i6 of_,i6 n]) (e:=70) kr (fun g22 wu XU=>ab ?_);obtain⟨qK,uu⟩:∃z,z=iQ me g22:=⟨_,rfl⟩;have Mx:A8 w re me wu qK:=by rw[uu];exact A8.kS XU ho.ch.bG
  have abU:ix w wu qK (.slice (some ⟨g22,0,none⟩) 1 1) [iY.mk 5 of_ n]:=by rw[uu];exact ix.one XU ho.turns.size
  obtain⟨hp,kk⟩:=aT Mx hp kk;have ho:=ho.j6 Mx (fun b _ q=>.inl q);refine go ?_;refine p2 ?_;have e1:(aX of_ now (.mk k t n kids) s).1.1=[iY.mk 5 of_ n]:=by rw[aX];simp[im]
  have e2:(aX of_ now (.mk k t n kids) s).1.2=0:=by rw[aX];simp[im]
  have e3:(aX of_ now (.mk k t n kids) s).2=s:=by rw[aX];simp[im]
  rw[e1,e2,e3];exact⟨qK,m,_,rfl,ho,abU⟩
 refine go ?_;by_cases j8:k=2
 ·refine go ?_;refine ce (Gf (sl:=.slice (some ⟨g,off,none⟩) kids.length cc_) ho.ch (hp.at 2) kk.2.2.1 (dt of_) k t n) ?_;rintro _ GK ⟨Q0,m36,v29,rfl,Q1,Ee⟩;refine⟨_,rfl,ab ?_⟩;have Ee:=Ee.since ho.turns.size;obtain⟨TI,X7,oV,rfl⟩:=Ee.sl;obtain⟨hp,kk⟩:=mT Q1 hp kk;have ho:=ho.trans Q1;refine go ?_;refine p2 ?_;have e1:(aX of_ now (.mk k t n kids) s).1.1=(gZ s (dt of_).cap t n).1.1:=by rw[aX];simp[im,j8]
  have e2:(aX of_ now (.mk k t n kids) s).1.2=(gZ s (dt of_).cap t n).1.2:=by rw[aX];simp[im,j8]
  have e3:(aX of_ now (.mk k t n kids) s).2=(gZ s (dt of_).cap t n).2:=by rw[aX];simp[im,j8]
  rw[e1,e2,e3];exact⟨Q0,m36,_,rfl,ho,Ee⟩
 refine go ?_;by_cases mV:k=5
 ·refine go ?_;refine ce (QZ ho.ch (hp.at 2) kk.2.2.1 (hk.out ho) (fun x hx=>IH x hx) Ic wj (jG hd)) ?_;rintro _ N6 ⟨rP,m46,v39,rfl,Q2,Ef⟩;refine⟨_,rfl,ab ?_⟩;have Ef:=Ef.since ho.turns.size;obtain⟨b40,n41,N5,rfl⟩:=Ef.sl;obtain⟨hp,kk⟩:=mT Q2 hp kk;have ho:=ho.trans Q2;refine go ?_;refine p2 ?_;have e1:(aX of_ now (.mk k t n kids) s).1.1=(dG of_ now kids [] s).1.1:=by rw[aX];simp[im,j8,mV]
  have e2:(aX of_ now (.mk k t n kids) s).1.2=(dG of_ now kids [] s).1.2:=by rw[aX];simp[im,j8,mV]
  have e3:(aX of_ now (.mk k t n kids) s).2=(dG of_ now kids [] s).2:=by rw[aX];simp[im,j8,mV]
  rw[e1,e2,e3];exact⟨rP,m46,_,rfl,ho,Ef⟩
 refine go ?_;by_cases xW:k=3
 ·refine go ?_;by_cases tE:(dt of_).uh<1
  ·refine go ?_;refine p2 ?_;have e1:(aX of_ now (.mk k t n kids) s).1.1=[]:=by rw[aX];simp[im,j8,mV,xW,tE]
   have e2:(aX of_ now (.mk k t n kids) s).1.2=8:=by rw[aX];simp[im,j8,mV,xW,tE]
   have e3:(aX of_ now (.mk k t n kids) s).2=s:=by rw[aX];simp[im,j8,mV,xW,tE]
   rw[e1,e2,e3];exact⟨me,m,_,rfl,ho,ix.nil⟩
  refine go ?_;refine tT 19 (some 14) none fun bl=>?_;refine af 0 ?_;refine af 1 ?_;refine af 2 ?_;refine af 3 ?_;refine af 4 ?_;refine af 5 ?_;refine af 6 ?_;refine af 7 ?_;refine af 8 ?_;refine af 9 ?_;refine af 10 ?_;refine af 11 ?_;refine af 12 ?_;refine af 13 ?_;refine nF 14 (fun LJ mE hp bl=>?_);have ho:=ho.step mE;refine ce (Cc ho.ch n now) ?_;rintro _ Ua ⟨Q3,m59,v52,rfl,Q4,mM⟩;refine⟨_,rfl,ab ?_⟩;have mM:=mM.since ho.turns.size;obtain⟨b53,n54,Bv,rfl⟩:=mM.sl;obtain⟨hp,kk⟩:=mT Q4 hp kk;have ho:=ho.trans Q4;refine go ?_;refine ap 15 ?_;refine aD 16 (fun NZ tD hp=>?_);have mM:=mM.below tD;have ho:=ho.step tD;refine go ?_;refine aD 17 (fun LX pR hp=>?_);have mM:=mM.below pR;have ho:=ho.step pR;refine go ?_;refine aD 18 (fun Tf wR hp=>?_);have mM:=mM.below wR;have ho:=ho.step wR;refine go ?_;refine aE (fun w69 Q5 hp=>?_);have mM:=mM.below Q5;have ho:=ho.step Q5;refine go ?_;refine p2 ?_;have e1:(aX of_ now (.mk k t n kids) s).1.1=(eZ s n now).1.1:=by rw[aX];simp[im,j8,mV,xW,tE]
  have e2:(aX of_ now (.mk k t n kids) s).1.2=(eZ s n now).1.2:=by rw[aX];simp[im,j8,mV,xW,tE]
  have e3:(aX of_ now (.mk k t n kids) s).2=(eZ s n now).2:=by rw[aX];simp[im,j8,mV,xW,tE]
  rw[e1,e2,e3];exact⟨Q3,m59,_,rfl,ho,mM⟩
 refine go ?_;by_cases Bb:(dt of_).uh<2
 ·refine go ?_;refine p2 ?_;have e1:(aX of_ now (.mk k t n kids) s).1.1=[]:=by rw[aX];simp[im,j8,mV,xW,Bb]
  have e2:(aX of_ now (.mk k t n kids) s).1.2=8:=by rw[aX];simp[im,j8,mV,xW,Bb]
  have e3:(aX of_ now (.mk k t n kids) s).2=s:=by rw[aX];simp[im,j8,mV,xW,Bb]
  rw[e1,e2,e3];exact⟨me,m,_,rfl,ho,ix.nil⟩
 refine go ?_;refine tT 23 (some 18) none fun bl=>?_;refine af 0 ?_;refine af 1 ?_;refine af 2 ?_;refine af 3 ?_;refine af 4 ?_;refine af 5 ?_;refine af 6 ?_;refine af 7 ?_;refine af 8 ?_;refine af 9 ?_;refine af 10 ?_;refine af 11 ?_;refine af 12 ?_;refine af 13 ?_;refine af 14 ?_;refine af 15 ?_;refine af 16 ?_;refine af 17 ?_;refine nF 18 (fun w72 Qe hp bl=>?_);have ho:=ho.step Qe;refine ce (J0 ho.ch n now) ?_;rintro _ w79 ⟨Q6,m81,v74,rfl,Q7,mN⟩;refine⟨_,rfl,ab ?_⟩;have mN:=mN.since ho.turns.size;obtain⟨b75,n76,c77,rfl⟩:=mN.sl;obtain⟨hp,kk⟩:=mT Q7 hp kk;have ho:=ho.trans Q7;refine go ?_;refine ap 19 ?_;refine aD 20 (fun Ug r7 hp=>?_);have mN:=mN.below r7;have ho:=ho.step r7;refine go ?_;refine aD 21 (fun w87 tu hp=>?_);have mN:=mN.below tu;have ho:=ho.step tu;refine go ?_;refine aD 22 (fun w89 rU hp=>?_);have mN:=mN.below rU;have ho:=ho.step rU;refine go ?_;refine aE (fun w91 By hp=>?_);have mN:=mN.below By;have ho:=ho.step By;refine go ?_;refine p2 ?_;have e1:(aX of_ now (.mk k t n kids) s).1.1=(i9 s n now).1.1:=by rw[aX];simp[im,j8,mV,xW,Bb]
 have e2:(aX of_ now (.mk k t n kids) s).1.2=(i9 s n now).1.2:=by rw[aX];simp[im,j8,mV,xW,Bb]
 have e3:(aX of_ now (.mk k t n kids) s).2=(i9 s n now).2:=by rw[aX];simp[im,j8,mV,xW,Bb]
 rw[e1,e2,e3];exact⟨Q6,m81,_,rfl,ho,mN⟩
theorem UE(c:bn):DoC c:=by
 refine bn.ind (P:=DoC) (fun c IH=>?_) c;intro w col f m s cs of_ now d dp td h hc hd wj Ic Od Oe;rcases hc.parts with⟨k,t,n,b,rfl,rfl⟩|⟨k,t,n,kids,g,off,cc,arr,ty,rfl,rfl,hk⟩;·exact Mw h Od Oe Ic k t n wj hd
 ·exact My h Od Oe hk IH Ic k t n wj hd
theorem ag0(h:Ch w col f m s){cs:Array Value}(hc:bw w (fun b=>col b=0) cs c)(of_ now:Int):DN 87 #[pA f.lp 0,pA f.vp 0,pA f.rp 0,.agg cs,i6 of_,i6 now] w col f m s ((oz s c of_ now).1.1) ((oz s c of_ now).1.2) ((oz s c of_ now).2):=by
 have ho:Out w col m s w col f m s:=bV.start h;have hp:=Hp.nil w;refine fe Tryz.func87 Tryz.ntmps87 ?_;refine go ?_;refine lR (v:=.agg cs) rfl (fun g1 w2 n3=>ab ?_);have n3:jr _ _ _ cs _:=n3;have dq:=ayo ho.turns.size n3.fresh;obtain⟨dh,cF⟩:∃z,z=mark col g1:=⟨_,rfl⟩;have ho:=ho.new n3;rw[←cF]at ho;have cR:dh g1=7:=by rw[cF];exact dX
 have hp:=hp.new n3;refine go ?_;by_cases c5:(NV of_).isSome=true
 ·obtain⟨t_,hq⟩:=ayA.1 c5;have Uh:=FG hq;refine iC (rG ho.ch.ref Uh.1 Uh.2.2) fun w6 lT hp ho=>?_;have kk:Ks dh [(g1,7)]:=⟨cR,trivial⟩;refine mU fun g8 w9 FT N4 hp rW ho kk zS=>?_;refine pF kk.1 (.inl rW) fun oD s8 hp ho=>?_;refine ak (.agg cs) (aQ (i:=0) (n:=4) (hp.at 1) (eR hc.size) (by rw[hc.size];exact ayp _) U36 kr rfl) ?_;by_cases oE:(an c 0)=true;·refine iC ((mu oE (gS (hc.turns ho.tn Ad)))) fun pb jx hp ho=>?_;refine ak (.agg #[pA f.lp 0,pA f.vp 0,pA f.rp 0,i6 of_,i6 now]) kr ?_;refine EE fun g17 s7 zO Cp hp Cq ho kk D2=>?_;refine ak (.agg cs) (aQ (i:=0) (n:=4) (hp.at 2) (eR hc.size) (by rw[hc.size];exact ayp _) U36 kr rfl) ?_;refine ce (UE c _ _ f _ _ cs of_ now 0 g17 232 ho.ch (hc.out ho) oE (aAk 0) ⟨Uh.1,Uh.2.1⟩ (hp.at 0) kk.1) ?_;rintro _ tN ⟨Yk,m28,v21,rfl,UA,UF⟩;refine⟨_,rfl,ab ?_⟩;have UF:=UF.since ho.turns.size;obtain⟨XB,n23,KT,rfl⟩:=UF.sl;obtain⟨hp,kk⟩:=mT UA hp kk;have ho:=ho.trans UA;refine go ?_;refine p2 ?_;refine fE ho UF ?_ ?_ ?_<;>simp[oz,c5,oE,hq]<;>and_intros<;>rfl
  replace oE:=eq_false_of_ne_true oE;refine iC ((mu oE (gS (hc.turns ho.tn Ad)))) fun NS yv hp ho=>?_;refine p2 ?_;refine fE ho .nil ?_ ?_ ?_<;>simp[oz,c5,oE,hq]<;>and_intros<;>rfl
 have hq:NV of_=none:=by simpa using c5
 refine iC (BW ho.ch.ref (FH hq)) fun FN ow hp ho=>?_;have kk:Ks dh [(g1,7)]:=⟨cR,trivial⟩;refine mU fun g34 EG agc n36 hp Mz ho kk an4=>?_;refine pF kk.1 (.inl Mz) fun N1 p38 hp ho=>?_;refine p2 ?_;refine fE ho .nil ?_ ?_ ?_<;>simp[oz,c5,hq]<;>and_intros<;>rfl
end
end Go.Proofs.YtdkpbpjcbkibiaaGreatDoor.B
