/- Cp -/
import Derived.Test.YtdkpbpjcbkibiaaGreatDoorV1
import Derived.Test.YtdkpbpjcbkibiaaGreatDoorV0
import Derived.Test.YtdkpbpjcbkibiaaGreatDoorV24
set_option linter.all false
set_option maxRecDepth 100000
set_option maxHeartbeats 4000000
namespace Go.Proofs.YtdkpbpjcbkibiaaGreatDoor.B
open Go.RowKit
section
open Go.RowKit
variable{l kids:List bn}{d:Int}{i off g cc:Nat}{x:bn}{t ty:TypeId}{w w2:World}{Z Z':Nat→Prop}{arr cs:Array Value}{b:Option Addr}
theorem Mp(h:lL l d=true)(hx:l[i]?=some x):an x d=true:=by rw[qA,ayS]at h;exact h x (ayw hx)
theorem jG{k t n:Int}(h:an (.mk k t n l) d=true):l.length≤4∧∀(i:Nat) x,l[i]?=some x→an x (d+1)=true:=by
 have nil:l.length=0→l.length≤4∧∀(i:Nat) x,l[i]?=some x→an x (d+1)=true:=fun q=>by have:l=[]:=azo.1 q;subst this;exact⟨ayP _,fun i x hx=>by cases hx⟩
 rw[an]at h;split at h;·simp only[ayF,decide_eq_true_eq]at h;exact nil h.1.1
 ·split at h;·simp only[ayF,decide_eq_true_eq]at h;exact nil h.1.1
  ·split at h;·simp only[ayF,decide_eq_true_eq]at h;exact nil h.1.1
   ·split at h;·simp only[ayF,decide_eq_true_eq]at h;have:=dC.1 h.1.2;exact⟨by omega,fun i x hx=>Mp h.2 hx⟩
    ·cases h
theorem Kb:(Tryz.prog.info? 36).map (fun i=>(i.zero,i.size,i.bytes))=some (some (.agg #[.int .i64 0,.int .i64 0,.int .i64 0,.slice none 0 0]),4,48):=by kernel_rfl
theorem abN{α:Type}(hat:∀(i:Nat) x,kids[i]?=some x→bw w Z (arr.extract (off+i*4) (off+i*4+4)) x)(mz:off+kids.length*4≤arr.size):∀u∈(arr.extract off (off+kids.length*4)).toList,u.oneCell'=true:=by
 intro u hu;obtain⟨j,hj⟩:=ayX.1 hu;rw[ayt,ayz]at hj;split at hj
 ·rename_i gD;have hl:j<kids.length*4:=by omega
  have hx:kids[j/4]?=some kids[j/4]:=ayq om;have h1:=(hat _ _ hx).one u (by refine ayw (i:=j%4) ?_;rw[ayt,ayz,if_pos om];rw[←hj];congr 1;omega);exact h1
 ·cases hj
structure vM(w:World)(Z Z':Nat→Prop)(arr:Array Value)(kids:List bn)(i:Nat):Prop where
 fit:kids.length*4≤arr.size
 new:∀(j:Nat) x,j<i→kids[j]?=some x→bw w Z' (arr.extract (j*4) (j*4+4)) x
 old:∀(j:Nat) x,i≤j→kids[j]?=some x→bw w Z (arr.extract (j*4) (j*4+4)) x
theorem vM.below(h:vM w Z Z' arr kids i)(hb:Bw w w2):vM w2 Z Z' arr kids i:=⟨h.fit,fun j x q r=>(h.new j x q r).under hb,fun j x q r=>(h.old j x q r).under hb⟩
theorem vM.step(h:vM w Z Z' arr kids i)(hx:kids[i]?=some x)(hc:bw w Z' cs x)(ht:au (fun b=>b=g) w w2)(h1:∀b,Z b→b≠g)(h2:∀b,Z' b→b≠g):vM w2 Z Z' (bt arr (i*4) cs.toList) kids (i+1):=by
 have hs:=hc.size;have hl:cs.toList.length=4:=by simpa using hs
 have hi:i<kids.length:=(ays.1 hx).1;have hf:=h.fit;have hle:i*4+cs.toList.length≤arr.size:=by omega
 have ext:∀j,j≠i→j<kids.length→(bt arr (i*4) cs.toList).extract (j*4) (j*4+4)=arr.extract (j*4) (j*4+4):=fun j hj gD=>by
  apply ayW;intro k;rw[ayz,ayz,bp hle];split;·rw[aV om hle]
  ·rfl
 have same:(bt arr (i*4) cs.toList).extract (i*4) (i*4+4)=cs:=by
  apply ayW;intro k;rw[ayz,bp hle];split;·rw[cy rfl om om,ayt]
  ·rw[ayN om]
 refine⟨by rw[bp hle];exact hf,fun j y q r=>?_,fun j y q r=>?_⟩
 ·by_cases e:j=i;·subst e;rw[same];rw[hx]at r;cases r;exact hc.turns ht fun b hz=>h2 b hz
  ·rw[ext j e (ays.1 r).1];exact(h.new j y om r).turns ht fun b hz=>h2 b hz
 ·rw[ext j om (ays.1 r).1];exact(h.old j y om r).turns ht fun b hz=>h1 b hz
theorem vM.put(h:vM w Z Z' arr kids i)(p:o1 w w2 g cs t)(h1:∀b,Z b→b≠g)(h2:∀b,Z' b→b≠g):vM w2 Z Z' arr kids i:=⟨h.fit,fun j x q r=>(h.new j x q r).turns p.turns fun b hz=>h2 b hz,fun j x q r=>(h.old j x q r).turns p.turns fun b hz=>h1 b hz⟩
def CoC(x:bn):Prop:=∀(w:World) (Z:Nat→Prop) (cs:Array Value) (d:Int),bw w Z cs x→an x d=true→CP 72 #[.agg cs] w fun e w'=>∃cs',e=.returned (.agg cs')∧bw w' (fun b=>w.heap.size≤b) cs' x∧Bw w w'
theorem QR(hk:gn w Z g off cc arr ty kids)(abO:kids.length≤4):CP 119 #[.slice (some ⟨g,off,none⟩) kids.length cc] w fun e w'=>∃g2 c2 cW,e=.returned (.slice (some ⟨g2,0,none⟩) kids.length c2)∧w.heap.size≤g2∧bH w' g2 cW 36∧vM w' Z (fun b=>g2<b) cW kids 0∧kids.length≤c2∧Bw w w':=by
 have hp:=Hp.nil w;have hkb:=hk.fA;have hB:=Below.refl w.heap.size w;have mz:=hk.fit;have JC:=hk.sm;refine fe Tryz.func119 Tryz.ntmps119 ?_;refine go ?_;refine ak (.bool false) (jW U34 rfl rfl rfl) ?_;refine dT (n:=0) (cells:=#[]) (e:=36) kr (fun g1 w2 n3=>ab ?_);have hp:=hp.new n3;have hkb:=hkb.below n3.below;have ai:=ayo hB.size n3.fresh;have hB:=U hB n3.below;refine go ?_;refine ek (m:=kids.length) (news:=(arr.extract off (off+kids.length*4)).toList) (ny.of (n:=0) (c:=0) (hp.at 0) rfl (ayp 0)) rfl rfl U34 Kb rfl (dK om) (Bo hkb off _) (abN (α:=Unit) hk.at_ mz) om dd (fun g2 c2 cW w2 A=>ab ?_) (fun e=>by cases e);have hp:=(hp.app 0 A).nf;have mj:=A.fr (ayo hB.size (ayp _)) (fun _ e=>by cases e;exact ai);have hB:=A.below hB hB.size (fun _ e=>by cases e;exact ai);refine go ?_;refine p1 ?_;have q1:=A.size;have q2:=A.fit;refine⟨g2,c2,cW,by simp,mj,A.fA,⟨by omega,fun _ _ q _=>absurd q (ay7 _),fun j x _ hx=>?_⟩,by omega,hB⟩;have hj:=(ays.1 hx).1
 have e:cW.extract (j*4) (j*4+4)=arr.extract (off+j*4) (off+j*4+4):=by
  apply ayW;intro z;rw[ayz,ayz];by_cases hz:z<4;·rw[if_pos om,if_pos om];have q:=A.new (j*4+z) (by rw[dK om];omega);rw[ext_get om om]at q;rw[show j*4+z=0*4+(j*4+z)by omega,q];congr 1;omega
  ·rw[if_neg om,if_neg om]
 rw[e];exact(hk.at_ j x hx).carry fun b a t hz q=>⟨q.below hB,hz⟩
section
variable{r:Option Nat}{ops:Array Oper}{Q:Exit→Act→World→Prop}{a:Act}{w:World}{rest:List Oper}{o:Oper}
theorem abP{x y:Operand}{z:Option Addr}{n c c2:Nat}(hu:Tryz.prog.underlying t=some (.slice 36))(hs:a.eval x=.slice b n c)(hx:a.eval y=.slice z 0 c2)(hn:n≤c)(h:WL r ops Q rest (a.put o.dst (.slice b n c)) w)(ho:o.op=.call {callee:=.builtin .append,args:=#[x,y],argTypes:=#[t,t]}:=by rfl)(hw:Region.wanted o (yielded ops a.tmps)=true:=by rfl):WL r ops Q (o::rest) a w:=by
 obtain⟨i,hi⟩:∃i,Tryz.prog.info? 36=some i:=by
  have:=Kb;cases hq:Tryz.prog.info? 36 with
  |none=>rw[hq]at this;cases this
  |some i=>exact⟨i,rfl⟩
 have hr:=np (w:=w) (t:=t) (e:=36) (ty:=o.type) (b:=b) (y:=z) (n:=n) (c:=c) (c2:=c2) hu hi hn;refine qb (v:=.slice b n c) (w2:=w) ?_ h (fun c hc=>by rw[ho]at hc;cases hc) hw;unfold execOp;simp[ho,resolve,invoke,builtin,hs,hx,hr]
end
theorem Ed:CP 119 #[.slice b 0 0] w fun e w'=>∃b',(b=none→b'=none)∧e=.returned (.slice b' 0 0)∧Bw w w':=by
 have hp:=Hp.nil w;have hB:=Below.refl w.heap.size w;refine fe Tryz.func119 Tryz.ntmps119 ?_;refine go ?_;cases b with
 |none=>refine ak (.bool true) (jW U34 rfl rfl rfl) ?_;refine p1 ?_;exact⟨none,fun _=>rfl,rfl,hB⟩
 |some ad=>refine ak (.bool false) (jW U34 rfl rfl rfl) ?_;refine dT (n:=0) (cells:=#[]) (e:=36) kr (fun g1 w2 n3=>ab ?_);have hp:=hp.new n3;have ai:=ayo hB.size n3.fresh;have hB:=U hB n3.below;refine go ?_;refine abP U34 rfl rfl (ayp 0) ?_;refine go ?_;refine p1 ?_;exact⟨_,fun e=>(by cases e),rfl,hB⟩
theorem Af(k t n:Int):CP 72 #[.agg #[i6 k,i6 t,i6 n,.slice b 0 0]] w fun e w'=>∃b',(b=none→b'=none)∧e=.returned (.agg #[.int .i64 k,.int .i64 t,.int .i64 n,.slice b' 0 0])∧Bw w w':=by have hp:=Hp.nil w;have hB:=Below.refl w.heap.size w;refine fe Tryz.func72 Tryz.ntmps72 ?_;refine go ?_;refine ic fun g1 w2 n3 hp ai hB=>?_;refine jJ fun g4 w5 n6 hp aL hB=>?_;refine ce (Ed) ?_;rintro _ w7 ⟨b',hbn,rfl,iq⟩;refine⟨_,rfl,ab ?_⟩;have hp:=hp.below iq;have hB:=U hB iq;refine go ?_;refine gG ai fun w9 p8 hp hB=>?_;refine iR 1 ?_;refine go ?_;refine gG aL fun ot KU hp hB=>?_;refine kh (el (s:=2) (ty:=36) (cs:=#[i6 k,i6 t,i6 n,.slice b' 0 0]) (hp.at 0) U36 kr) ?_;exact⟨_,hbn,rfl,hB⟩
theorem Ik(hk:gn w Z g off cc arr ty kids)(IH:∀x∈kids,CoC x)(hzb:∀b,Z b→b<w.heap.size)(k t n d:Int)(hd:an (.mk k t n kids) d=true):CP 72 #[.agg #[i6 k,i6 t,i6 n,.slice (some ⟨g,off,none⟩) kids.length cc]] w fun e w'=>∃cs',e=.returned (.agg cs')∧bw w' (fun b=>w.heap.size≤b) cs' (.mk k t n kids)∧Bw w w':=by
 have hp:=Hp.nil w;have hB:=Below.refl w.heap.size w;have abO:=(jG hd).1;refine fe Tryz.func72 Tryz.ntmps72 ?_;refine go ?_;refine ic fun g1 w2 n3 hp ai hB=>?_;refine jJ fun g4 w5 n6 hp aL hB=>?_;refine ce (QR (hk.below hB) abO) ?_;rintro _ w7 ⟨g2,c2,cW,rfl,qZ,er,hR0,jZ,iq⟩;refine⟨_,rfl,ab ?_⟩;have gB:=hB.size;have anT:=fun x hx=>(hp.2 x hx).lt;have agQ:g4<g2:=ayu (hp.at 0).lt qZ;have agR:g1<g2:=ayu (hp.at 1).lt qZ;have hp:=hp.below iq;have hB:=U hB iq;have hp:=hp.cons er (fun hm=>by obtain⟨x,hx,ex⟩:=ayM.1 hm;have h8:=anT x hx;have ED:x.1=g2:=ex;omega);have mj:w.heap.size≤g2:=ayo gB qZ;have hR:=hR0;refine go ?_;refine gG ai fun w9 p8 hp hB=>?_;have hR:=vM.put hR p8 (fun b hz e=>by have:=hzb b hz;have:=ai;subst e;omega) (fun b q e=>by have:=agR;subst e;omega);refine cT (fun m' a' w'=>∃(i:Nat) (xh:Array Value) (u3 u4 lj kt iD u16 iL ig jd je iE iF iG:Value),a'=(fR #[.agg #[i6 k,i6 t,i6 n,.slice (some ⟨g,off,none⟩) kids.length cc],pA g1 0,pA g4 0,u3,u4,pA g1 3,.slice (some ⟨g,off,none⟩) kids.length cc,.slice (some ⟨g2,0,none⟩) kids.length c2,pA g1 3,pA g1 3,.slice (some ⟨g2,0,none⟩) kids.length c2,i6 (kids.length:Int),i6 (i:Int),lj,kt,iD,u16,iL,ig,jd,je,iE,iF,iG,undef])∧m'=kids.length-i∧Hp w' [(g2,xh,36),(g4,#[i6 0,i6 0,i6 0,.slice none 0 0],36),(g1,#[i6 k,i6 t,i6 n,.slice (some ⟨g2,0,none⟩) kids.length c2],36)]∧Bw w w'∧i≤kids.length∧vM w' Z (fun b=>g2<b) xh kids i) _ ⟨0,cW,undef,undef,undef,undef,undef,undef,undef,undef,undef,undef,undef,undef,undef,rfl,rfl,hp,hB,om,hR⟩ ?_;rintro DP _ o2 ⟨i,xh,u3,u4,lj,kt,iD,u16,iL,ig,jd,je,iE,iF,iG,rfl,rfl,hp,hB,hi,hR⟩;have hA:=Below.refl o2.heap.size o2;have atb:=(hp.at 0).lt;refine go ?_;by_cases iB:(i:Int)<(kids.length:Int)
 ·obtain⟨x,hx⟩:∃x,kids[i]?=some x:=⟨_,ayq om⟩;have sn:=(hR.old i x (ayp _) hx).size;have Gc:=(hR.old i x (ayp _) hx).one;refine go ?_;refine ak (pA g2 (i*4)) (cX (l:=kids.length) (j:=(i:Int)) (off:=0) (sz:=4) U34 kr rfl rfl om om (by simp)) ?_;refine ak (.agg (xh.extract (i*4) (i*4+4))) (aQ (i:=i*4) (n:=4) (hp.at 0) rfl (by have:=hR.fit;omega) U36 kr rfl) ?_;refine jJ fun g13 ui T5 hp Mq hB=>?_;have Mr:=ayo hA.size T5.fresh;have hA:=U hA T5.below;refine aU (i:=0) (v:=.agg (xh.extract (i*4) (i*4+4))) (hp.at 0) rfl rfl (by show _=some ((xh.extract (i*4) (i*4+4))).size;rw[sn];kernel_rfl) (by show 0+((xh.extract (i*4) (i*4+4))).size≤_;rw[sn];exact ayr rfl) Gc (fun s6 NR=>ab ?_);have NR:=cz NR (by show((xh.extract (i*4) (i*4+4))).size=_;rw[sn];rfl);have hp:=(hp.put 0 NR).nf;have hB:=aN hB NR Mq;have hA:=aN hA NR Mr;refine go ?_;refine pH 7 (some 6) (some 6) [(g13,(xh.extract (i*4) (i*4+4)),36),(g4,#[i6 0,i6 0,i6 0,.slice none 0 0],36),(g1,#[i6 k,i6 t,i6 n,.slice (some ⟨g2,0,none⟩) kids.length c2],36)] fun bl=>?_;refine af 0 ?_;refine af 1 ?_;refine af 2 ?_;refine gI (.agg (xh.extract (i*4) (i*4+4))) 3 rfl (yq fun w' h'=>aQ (i:=0) (n:=4) ((hp.at 0).below h') (eR sn) (by rw[sn];exact ayp _) U36 kr rfl) ?_;refine nF 4 (fun s7 lz hp bl=>?_) (hD:=fun _ lz=>⟨br (U bl lz),az ((hp.sub ((.cons_cons _ (.cons _ (.cons_cons _ (.cons_cons _ .slnil)))))).below lz)⟩);have hB:=U hB lz;have hA:=U hA lz;have hgc:=(hp.at 1).lt;refine ce (IH x (ayw hx) _ Z (xh.extract (i*4) (i*4+4)) (d+1) ((hR.old i x (ayp _) hx).under hA) ((jG hd).2 i x hx)) ?_;rintro _ re ⟨Hr,rfl,jZ,uz⟩;refine⟨_,rfl,ab ?_⟩;have hp:=hp.below uz;have bl:=U bl uz;have hB:=U hB uz;have hA:=U hA uz;have agS:=jZ.size;refine go ?_;refine aS 5 (fun uG fw hp bl=>?_) (hD:=fun _ fw=>⟨br (U bl fw),az ((hp.sub ((.cons_cons _ (.cons _ (.cons_cons _ (.cons_cons _ .slnil)))))).below fw)⟩);have jZ:=bw.under jZ fw;have hB:=U hB fw;have hA:=U hA fw;refine ak (pA g2 (i*4)) (cX (l:=kids.length) (j:=(i:Int)) (off:=0) (sz:=4) U34 kr rfl rfl om om (by simp)) ?_;refine aS 6 (fun wu rC hp bl=>?_) (hD:=fun _ rC=>⟨br (U bl rC),az ((hp.sub ((.cons_cons _ (.cons _ (.cons_cons _ (.cons_cons _ .slnil)))))).below rC)⟩);have jZ:=bw.under jZ rC;have hB:=U hB rC;have hA:=U hA rC;refine aU (i:=i*4) (v:=.agg Hr) (hp.at 1) rfl rfl (by show _=some Hr.size;rw[agS];kernel_rfl) (by show i*4+Hr.size≤_;rw[agS];have:=hR.fit;omega) jZ.one (fun tN EF=>ab ?_);have hR:=(hR.below hA).step hx (jZ.carry (Z':=fun b=>g2<b) fun b a t hz q=>⟨q,ayu hgc hz⟩) EF.turns (fun b hz e=>by have:=hzb b hz;subst e;omega) (fun b q e=>by subst e;omega);obtain⟨gX,e3⟩:∃z,z=bt xh (i*4) Hr.toList:=⟨_,rfl⟩;have EF:o1 wu tN g2 gX 36:=by rw[e3];exact EF
  rw[←e3]at hR;have hp:=(hp.put 1 EF).nf;have hB:=aN hB EF mj;refine go ?_;refine aE (fun BU rT hp=>?_);have hR:=vM.below hR rT;have hB:=U hB rT;refine go ?_;refine ak (i6 ((i+1:Nat):Int)) (aC (m:=(i:Int)) (n:=1) (s:=((i+1:Nat):Int)) rfl rfl (by unfold wrap64;omega)) ?_;exact⟨_,om,i+1,gX,_,_,_,_,_,_,_,_,_,_,_,_,_,rfl,rfl,hp.tail,hB,om,hR⟩
 have hR:=hR.below hA;refine go ?_;refine gG aL fun NS p29 hp hB=>?_;have hR:=vM.put hR p29 (fun b hz e=>by have:=hzb b hz;have:=aL;subst e;omega) (fun b q e=>by have:=agQ;subst e;omega);refine kh (el (s:=2) (ty:=36) (cs:=#[i6 k,i6 t,i6 n,.slice (some ⟨g2,0,none⟩) kids.length c2]) (hp.at 1) U36 kr) ?_;have mz:=hR.fit;refine⟨_,rfl,.node k t n kids g2 0 c2 xh 36 (hp.at 0).r mj om jZ om fun j x hx=>?_,hB⟩;rw[ayR];exact(hR.new j x (by have:=(ays.1 hx).1;omega) hx).carry fun b a t hz q=>⟨q,by have:g2<b:=hz;omega⟩
theorem Gd(c:bn):CoC c:=by
 refine bn.ind (P:=CoC) (fun c IH=>?_) c;intro w Z cs d hc hd;have jZ:bw w (fun b=>Z b∧b<w.heap.size) cs c:=hc.carry fun b a t hz q=>⟨q,hz,q.lt⟩;rcases jZ.parts with⟨k,t,n,b,rfl,rfl⟩|⟨k,t,n,kids,g,off,cc,arr,ty,rfl,rfl,hk⟩;·exact(Af k t n).mono fun _ _ ⟨b',_,he,hb⟩=>⟨_,he,.leaf k t n b',hb⟩
 ·exact Ik hk IH (fun b q=>q.2) k t n d hd
end
end Go.Proofs.YtdkpbpjcbkibiaaGreatDoor.B
