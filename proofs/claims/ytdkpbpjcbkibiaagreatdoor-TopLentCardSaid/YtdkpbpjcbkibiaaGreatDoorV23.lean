/- Cd -/
import Derived.Test.YtdkpbpjcbkibiaaGreatDoorV0
import Derived.Test.YtdkpbpjcbkibiaaGreatDoorV22
set_option linter.all false
set_option maxRecDepth 100000
set_option maxHeartbeats 4000000
namespace Go.Proofs.YtdkpbpjcbkibiaaGreatDoor.B
open Go.RowKit
section
open Go.RowKit
variable{l l' kids:List bn}{x c:bn}{d deep:Int}{i g off b3 cc:Nat}{cs arr:Array Value}{w:World}{Z:Nat→Prop}{ty:TypeId}
theorem bn.Mi{k t n:Int}(h:x∈l):SizeOf.sizeOf x<SizeOf.sizeOf (bn.mk k t n l):=by have:=List.sizeOf_lt_of_mem h;simp only[bn.mk.sizeOf_spec];omega
theorem bn.ind{P:bn→Prop}(h:∀c,(∀x∈c.kids,P x)→P c):∀c,P c:=by
 have:∀(n:Nat) (c:bn),SizeOf.sizeOf c<n→P c:=by
  intro n;induction n with
  |zero=>intro c hc;omega
  |succ n ih=>intro c hc;refine h c fun x hx=>ih x ?_;obtain⟨k,t,m,l⟩:=c;have:=bn.Mi (k:=k) (t:=t) (n:=m) (show x∈l from hx);omega
 exact fun c=>this _ c (aAd _)
mutual
def an:bn→Int→Bool
 |.mk k t n l,deep=>
  if k=1 then decide (l.length=0)&&decide (t=0)&&dn n 0 1073741824
  else if k=2 then decide (l.length=0)&&dn t 0 9&&dn n 0 1073741824
  else if k=3∨k=4 then decide (l.length=0)&&decide (t=0)&&dn n 0 11
  else if k=5 then decide (deep<3)&&decide (t=0)&&decide (n=0)&&dn (l.length:Int) 1 4&&lL l (deep+1)
  else false
def lL:List bn→Int→Bool
 |[],_=>true
 |x::l,d=>an x d&&lL l d
end
theorem qA(d:Int):∀l,lL l d=l.all fun x=>an x d
 |[]=>by rw[lL];rfl
 |x::l=>by rw[lL,qA d l];rfl
theorem Mj(h:l[i]?=some x)(hx:an x d=false):lL l d=false:=by rw[qA,List.all_eq_false];exact⟨x,ayw h,by rw[hx];decide⟩
theorem If(h:∀(i:Nat) x,i<l.length→l[i]?=some x→an x d=true):lL l d=true:=by rw[qA,ayS];intro x hx;obtain⟨i,hi⟩:=ayX.1 hx;exact h i x (ays.1 hi).1 hi
theorem Mk:fq 63 #[.int .i64 0,.int .i64 1,.int .i64 4] (.bool false):=by have:=bY 0 1 4;rwa[show dn 0 1 4=false from by decide]at this
mutual
def dx:bn→bn→Bool
 |.mk k t n l,.mk k' t' n' l'=>decide (k=k')&&decide (t=t')&&decide (n=n')&&ja l l'
def ja:List bn→List bn→Bool
 |[],[]=>true
 |x::l,y::l'=>dx x y&&ja l l'
 |_,_=>false
end
theorem nJ:∀(l l':List bn),ja l l'=true↔l.length=l'.length∧∀(i:Nat) x y,l[i]?=some x→l'[i]?=some y→dx x y=true
 |[],[]=>by simp[ja]
 |[],y::l'=>by simp[ja]
 |x::l,[]=>by simp[ja]
 |x::l,y::l'=>by
  rw[ja,ayF,nJ l l'];constructor
  ·rintro⟨h1,h2,h3⟩;refine⟨by simp[h2],fun i=>?_⟩;cases i with
   |zero=>intro a b ha hb;simp at ha hb;subst ha hb;exact h1
   |succ i=>intro a b ha hb;simp at ha hb;exact h3 i a b ha hb
  ·rintro⟨h1,h2⟩;exact⟨h2 0 x y rfl rfl,by simpa using h1,fun i a b ha hb=>h2 (i+1) a b (by simpa using ha) (by simpa using hb)⟩
theorem QE{y:bn}(h:l[i]?=some x)(h':l'[i]?=some y)(hx:dx x y=false):ja l l'=false:=by
 rcases q:ja l l' with _|_;·rfl
 ·have:=((nJ l l').1 q).2 i x y h h';rw[hx]at this;cases this
theorem xb(h:¬(l.length:Int)=(l'.length:Int)):ja l l'=false:=by
 rcases q:ja l l' with _|_;·rfl
 ·exact absurd (by have:=((nJ l l').1 q).1;omega) h
theorem eR(h:cs.size=4):cs.extract 0 (0+4)=cs:=by rw[show 0+4=cs.size from h.symm];exact az4
def IsC(x:bn):Prop:=∀(w:World) (Z:Nat→Prop) (cs:Array Value) (deep:Int),bw w Z cs x→0≤deep→deep≤10→CB 116 #[.agg cs,.int .i64 deep] w (.bool (an x deep))
def SaC(x:bn):Prop:=∀(y:bn) (w:World) (Z Z':Nat→Prop) (cs cs':Array Value),bw w Z cs x→bw w Z' cs' y→CB 113 #[.agg cs,.agg cs'] w (.bool (dx x y))
structure gn(w:World)(Z:Nat→Prop)(g off c:Nat)(arr:Array Value)(ty:TypeId)(kids:List bn):Prop where
 fA:j0 w g arr ty
 z:Z g
 fit:off+kids.length*4≤arr.size
 cap:kids.length≤c
 sm:kids.length<9223372036854775808
 at_:∀(i:Nat) x,kids[i]?=some x→bw w Z (arr.extract (off+i*4) (off+i*4+4)) x
theorem gn.below{w2:World}{c:Nat}(h:gn w Z g off c arr ty kids)(hb:Bw w w2):gn w2 Z g off c arr ty kids:=⟨h.fA.below hb,h.z,h.fit,h.cap,h.sm,fun i x hx=>(h.at_ i x hx).under hb⟩
theorem bw.parts(h:bw w Z cs c):(∃k t n b,cs=#[.int .i64 k,.int .i64 t,.int .i64 n,.slice b 0 0]∧c=.mk k t n [])∨∃k t n kids g off cc arr ty,cs=#[.int .i64 k,.int .i64 t,.int .i64 n,.slice (some ⟨g,off,none⟩) kids.length cc]∧c=.mk k t n kids∧gn w Z g off cc arr ty kids:=by
 cases h with
 |leaf k t n b=>exact .inl ⟨k,t,n,b,rfl,rfl⟩
 |node k t n kids g off cc arr ty h1 h2 h3 h4 h5 h6=>exact .inr ⟨k,t,n,kids,g,off,cc,arr,ty,rfl,rfl,h1,h2,h3,h4,h5,h6⟩
theorem QF(hx:IsC x)(hc:bw w Z cs x)(hb:bH w b3 #[.int .i64 deep] 3)(h0:0≤deep)(h1:deep≤3):CB 169 #[.agg cs,.pointer (some ⟨b3,0,none⟩)] w (.bool (!an x (deep+1))):=by
 have hp:Hp w [(b3,#[.int .i64 deep],3)]:=Hp.one hb;have hB:=Below.refl w.heap.size w;have hU:=hc.size;refine fe Tryz.func169 Tryz.ntmps169 ?_;refine go ?_;refine bv cs fun g1 w2 n3 hp=>?_;have ai:=ayo hB.size n3.fresh;have hB:=U hB n3.below;refine ak (.agg cs) (aQ (i:=0) (n:=4) (hp.at 0) (eR hU) (by rw[hU];exact ayp _) U36 kr rfl) ?_;refine ak (i6 (deep+1)) (aC (m:=deep) (n:=1) (s:=deep+1) rfl rfl (by unfold wrap64;omega)) ?_;by_cases c4:(an x (deep+1))=true;·refine cC ((mu c4 (hx _ Z cs (deep+1) (hc.under hB) om om))) fun w5 nQ hp hB=>?_;refine p1 ?_;exact⟨by rw[c4];rfl,hB⟩
 replace c4:=eq_false_of_ne_true c4;refine cC ((mu c4 (hx _ Z cs (deep+1) (hc.under hB) om om))) fun w7 gU hp hB=>?_;refine p1 ?_;exact⟨by rw[c4];rfl,hB⟩
theorem D5(IH:∀x∈kids,IsC x)(hk:gn w Z g off cc arr ty kids)(js:bH w b3 #[.int .i64 deep] 3)(h0:0≤deep)(h1:deep≤3):CP 213 #[.slice (some ⟨g,off,none⟩) kids.length cc,.func (.func 169) #[] #[pA b3 0]] w fun e w'=>∃r:Int,e=.returned (.int .i64 r)∧(0≤r↔lL kids (deep+1)=false)∧Bw w w':=by
 have hp:=Hp.nil w;have hB:=Below.refl w.heap.size w;have mz:=hk.fit;have JC:=hk.sm;refine fe Tryz.func213 Tryz.ntmps213 ?_;refine go ?_;refine cT (fun m' a' w'=>∃(i:Nat) (u4 u5 u9 qO lW r9 lj kt iD u16 iL ig:Value),a'=(fR #[.slice (some ⟨g,off,none⟩) kids.length cc,.func (.func 169) #[] #[pA b3 0],undef,undef,u4,u5,.slice (some ⟨g,off,none⟩) kids.length cc,i6 (kids.length:Int),i6 (i:Int),u9,qO,lW,r9,lj,kt,iD,u16,iL,ig])∧m'=kids.length-i∧Hp w' []∧Bw w w'∧i≤kids.length∧(∀(j:Nat) x,j<i→kids[j]?=some x→an x (deep+1)=true)) _ ⟨0,i6 0,undef,undef,undef,undef,undef,undef,undef,undef,undef,undef,undef,rfl,rfl,hp,hB,om,(fun _ _ q=>absurd q (ay7 _))⟩ ?_;rintro m2 _ w1 ⟨i,u4,u5,u9,qO,lW,r9,lj,kt,iD,u16,iL,ig,rfl,rfl,hp,hB,hi,ha⟩;refine go ?_;by_cases c3:(i:Int)<(kids.length:Int)
 ·obtain⟨x,hx⟩:∃x,kids[i]?=some x:=⟨_,ayq om⟩;refine go ?_;refine ak (pA g (off+i*4)) (cX (l:=kids.length) (j:=(i:Int)) (off:=off) (sz:=4) U34 kr rfl rfl om om om) ?_;refine ak (.agg (arr.extract (off+i*4) (off+i*4+4))) (qt (i:=off+i*4) (n:=4) (hk.below hB).fA rfl om U36 kr rfl) ?_;by_cases c4:(!an x (deep+1))=true;·refine il Tryz.func169 #[.agg (arr.extract (off+i*4) (off+i*4+4))] #[.agg (arr.extract (off+i*4) (off+i*4+4)),pA b3 0] ((mu c4 (QF (IH x (ayw hx)) ((hk.at_ i x hx).under hB) (js.below hB) h0 h1))) ?_;rintro _ w5 ⟨rfl,nQ⟩;refine⟨_,rfl,ab ?_⟩;have hp:=hp.below nQ;have hB:=U hB nQ;refine go ?_;refine p1 ?_;exact⟨_,rfl,⟨fun _=>Mj hx (by simpa using c4),fun _=>by omega⟩,hB⟩
  replace c4:=eq_false_of_ne_true c4;refine il Tryz.func169 #[.agg (arr.extract (off+i*4) (off+i*4+4))] #[.agg (arr.extract (off+i*4) (off+i*4+4)),pA b3 0] ((mu c4 (QF (IH x (ayw hx)) ((hk.at_ i x hx).under hB) (js.below hB) h0 h1))) ?_;rintro _ w7 ⟨rfl,gU⟩;refine⟨_,rfl,ab ?_⟩;have hp:=hp.below gU;have hB:=U hB gU;refine go ?_;refine ak (i6 ((i+1:Nat):Int)) (aC (m:=(i:Int)) (n:=1) (s:=((i+1:Nat):Int)) rfl rfl (by unfold wrap64;omega)) ?_;exact⟨_,om,i+1,_,_,_,_,_,_,_,_,_,_,_,_,rfl,rfl,hp,hB,om,(fun j y q r=>by rcases ayQ j i with e|e;exact ha j y e r;(have e2:j=i:=by omega);subst e2;rw[hx]at r;cases r;simpa using c4)⟩
 refine go ?_;refine p1 ?_;exact⟨_,rfl,⟨fun q=>absurd q dd,fun q=>by rw[If (fun j x q r=>ha j x om r)]at q;cases q⟩,hB⟩
theorem qP(IH:∀x∈kids,IsC x)(hk:gn w Z g off cc arr ty kids)(js:bH w b3 #[.int .i64 deep] 3)(h0:0≤deep)(h1:deep≤3):CB 170 #[.slice (some ⟨g,off,none⟩) kids.length cc,.func (.func 169) #[] #[pA b3 0]] w (.bool (!lL kids (deep+1))):=by
 have hp:=Hp.nil w;have hB:=Below.refl w.heap.size w;refine fe Tryz.func170 Tryz.ntmps170 ?_;refine go ?_;refine ce (D5 IH hk js h0 h1) ?_;rintro _ w1 ⟨r,rfl,hr,hb⟩;refine⟨_,rfl,ab ?_⟩;have hp:=hp.below hb;have hB:=U hB hb;by_cases c2:(0:Int)≤r;·refine go ?_;refine p1 ?_;exact⟨by rw[hr.1 c2];rfl,hB⟩
 refine go ?_;refine p1 ?_;exact⟨by rw[show lL kids (deep+1)=true by rcases q:lL kids (deep+1)with _|_;exact absurd (hr.2 q) om;rfl];rfl,hB⟩
theorem F6(b:Option Addr)(k t n deep:Int)(h0:0≤deep)(h1:deep≤10):CB 116 #[.agg #[i6 k,i6 t,i6 n,.slice b 0 0],i6 deep] w (.bool (an (.mk k t n []) deep)):=by
 have hB:=Below.refl w.heap.size w;have cD:dn 0 1 4=false:=by decide
 have hp:=Hp.nil w;refine fe Tryz.func116 Tryz.ntmps116 ?_;refine go ?_;refine ic fun g1 w2 n3 hp ai hB=>?_;refine ic fun g4 w5 n6 hp aL hB=>?_;by_cases c7:k=5
 ·refine go ?_;by_cases c8:k=1
  ·refine go ?_;by_cases c9:t=0
   ·refine go ?_;by_cases dv:(dn n 0 1073741824)=true;·refine cC ((eW dv (bY n 0 1073741824)) _) fun ot fY hp hB=>?_;refine p1 ?_;exact⟨by rw[show an (.mk k t n []) deep=true by first|(exfalso;omega)|(rw[an];simp[c7,c8,c9,dv,cD])],hB⟩
    replace dv:=eq_false_of_ne_true dv;refine cC ((eW dv (bY n 0 1073741824)) _) fun oD eI hp hB=>?_;refine p1 ?_;exact⟨by rw[show an (.mk k t n []) deep=false by first|(exfalso;omega)|(rw[an];simp[c7,c8,c9,dv,cD])],hB⟩
   refine go ?_;refine p1 ?_;exact⟨by rw[show an (.mk k t n []) deep=false by first|(exfalso;omega)|(rw[an];simp[c7,c8,c9,cD])],hB⟩
  refine go ?_;by_cases gJ:k=2
  ·refine go ?_;by_cases pg:(dn t 0 9)=true
   ·refine cC ((eW pg (jX t)) _) fun s6 gC hp hB=>?_;by_cases im:(dn n 0 1073741824)=true;·refine cC ((eW im (bY n 0 1073741824)) _) fun re lH hp hB=>?_;refine p1 ?_;exact⟨by rw[show an (.mk k t n []) deep=true by first|(exfalso;omega)|(rw[an];simp[c7,c8,gJ,pg,im,cD])],hB⟩
    replace im:=eq_false_of_ne_true im;refine cC ((eW im (bY n 0 1073741824)) _) fun zN nr hp hB=>?_;refine p1 ?_;exact⟨by rw[show an (.mk k t n []) deep=false by first|(exfalso;omega)|(rw[an];simp[c7,c8,gJ,pg,im,cD])],hB⟩
   replace pg:=eq_false_of_ne_true pg;refine cC ((eW pg (jX t)) _) fun AZ jh hp hB=>?_;refine p1 ?_;exact⟨by rw[show an (.mk k t n []) deep=false by first|(exfalso;omega)|(rw[an];simp[c7,c8,gJ,pg,cD])],hB⟩
  refine go ?_;by_cases jT:k=3
  ·refine go ?_;by_cases kH:t=0
   ·refine go ?_;by_cases j8:(dn n 0 11)=true;·refine cC ((eW j8 (bY n 0 11)) _) fun zp rO hp hB=>?_;refine p1 ?_;exact⟨by rw[show an (.mk k t n []) deep=true by first|(exfalso;omega)|(rw[an];simp[c7,c8,gJ,jT,kH,j8,cD])],hB⟩
    replace j8:=eq_false_of_ne_true j8;refine cC ((eW j8 (bY n 0 11)) _) fun Bp wN hp hB=>?_;refine p1 ?_;exact⟨by rw[show an (.mk k t n []) deep=false by first|(exfalso;omega)|(rw[an];simp[c7,c8,gJ,jT,kH,j8,cD])],hB⟩
   refine go ?_;refine p1 ?_;exact⟨by rw[show an (.mk k t n []) deep=false by first|(exfalso;omega)|(rw[an];simp[c7,c8,gJ,jT,kH,cD])],hB⟩
  refine go ?_;by_cases ri:k=4
  ·refine go ?_;by_cases EI:t=0
   ·refine go ?_;by_cases tW:(dn n 0 11)=true;·refine cC ((eW tW (bY n 0 11)) _) fun PU DS hp hB=>?_;refine p1 ?_;exact⟨by rw[show an (.mk k t n []) deep=true by first|(exfalso;omega)|(rw[an];simp[c7,c8,gJ,jT,ri,EI,tW,cD])],hB⟩
    replace tW:=eq_false_of_ne_true tW;refine cC ((eW tW (bY n 0 11)) _) fun JU mf hp hB=>?_;refine p1 ?_;exact⟨by rw[show an (.mk k t n []) deep=false by first|(exfalso;omega)|(rw[an];simp[c7,c8,gJ,jT,ri,EI,tW,cD])],hB⟩
   refine go ?_;refine p1 ?_;exact⟨by rw[show an (.mk k t n []) deep=false by first|(exfalso;omega)|(rw[an];simp[c7,c8,gJ,jT,ri,EI,cD])],hB⟩
  refine go ?_;refine ak (.func (.func 169) #[] #[pA g4 0]) kr ?_;by_cases J3:deep<3
  ·refine go ?_;by_cases GQ:t=0
   ·refine go ?_;by_cases N5:n=0;·refine go ?_;refine cC (Mk _) fun NY rX hp hB=>?_;refine p1 ?_;exact⟨by rw[show an (.mk k t n []) deep=false by first|(exfalso;omega)|(rw[an];simp[c7,c8,gJ,jT,ri,J3,GQ,N5,cD])],hB⟩
    refine go ?_;refine p1 ?_;exact⟨by rw[show an (.mk k t n []) deep=false by first|(exfalso;omega)|(rw[an];simp[c7,c8,gJ,jT,ri,J3,GQ,N5,cD])],hB⟩
   refine go ?_;refine p1 ?_;exact⟨by rw[show an (.mk k t n []) deep=false by first|(exfalso;omega)|(rw[an];simp[c7,c8,gJ,jT,ri,J3,GQ,cD])],hB⟩
  refine go ?_;refine p1 ?_;exact⟨by rw[show an (.mk k t n []) deep=false by first|(exfalso;omega)|(rw[an];simp[c7,c8,gJ,jT,ri,J3,cD])],hB⟩
 refine go ?_;by_cases Ig:k=1
 ·refine go ?_;by_cases N7:t=0
  ·refine go ?_;by_cases c47:(dn n 0 1073741824)=true;·refine cC ((eW c47 (bY n 0 1073741824)) _) fun PK tw hp hB=>?_;refine p1 ?_;exact⟨by rw[show an (.mk k t n []) deep=true by first|(exfalso;omega)|(rw[an];simp[c7,Ig,N7,c47,cD])],hB⟩
   replace c47:=eq_false_of_ne_true c47;refine cC ((eW c47 (bY n 0 1073741824)) _) fun LJ mE hp hB=>?_;refine p1 ?_;exact⟨by rw[show an (.mk k t n []) deep=false by first|(exfalso;omega)|(rw[an];simp[c7,Ig,N7,c47,cD])],hB⟩
  refine go ?_;refine p1 ?_;exact⟨by rw[show an (.mk k t n []) deep=false by first|(exfalso;omega)|(rw[an];simp[c7,Ig,N7,cD])],hB⟩
 refine go ?_;by_cases xc:k=2
 ·refine go ?_;by_cases mG:(dn t 0 9)=true
  ·refine cC ((eW mG (jX t)) _) fun w54 DT hp hB=>?_;by_cases xU:(dn n 0 1073741824)=true;·refine cC ((eW xU (bY n 0 1073741824)) _) fun Ua anw hp hB=>?_;refine p1 ?_;exact⟨by rw[show an (.mk k t n []) deep=true by first|(exfalso;omega)|(rw[an];simp[c7,Ig,xc,mG,xU,cD])],hB⟩
   replace xU:=eq_false_of_ne_true xU;refine cC ((eW xU (bY n 0 1073741824)) _) fun XW vG hp hB=>?_;refine p1 ?_;exact⟨by rw[show an (.mk k t n []) deep=false by first|(exfalso;omega)|(rw[an];simp[c7,Ig,xc,mG,xU,cD])],hB⟩
  replace mG:=eq_false_of_ne_true mG;refine cC ((eW mG (jX t)) _) fun Te yo hp hB=>?_;refine p1 ?_;exact⟨by rw[show an (.mk k t n []) deep=false by first|(exfalso;omega)|(rw[an];simp[c7,Ig,xc,mG,cD])],hB⟩
 refine go ?_;by_cases Bh:k=3
 ·refine go ?_;by_cases Tk:t=0
  ·refine go ?_;by_cases Ml:(dn n 0 11)=true;·refine cC ((eW Ml (bY n 0 11)) _) fun w66 QG hp hB=>?_;refine p1 ?_;exact⟨by rw[show an (.mk k t n []) deep=true by first|(exfalso;omega)|(rw[an];simp[c7,Ig,xc,Bh,Tk,Ml,cD])],hB⟩
   replace Ml:=eq_false_of_ne_true Ml;refine cC ((eW Ml (bY n 0 11)) _) fun Ub wX hp hB=>?_;refine p1 ?_;exact⟨by rw[show an (.mk k t n []) deep=false by first|(exfalso;omega)|(rw[an];simp[c7,Ig,xc,Bh,Tk,Ml,cD])],hB⟩
  refine go ?_;refine p1 ?_;exact⟨by rw[show an (.mk k t n []) deep=false by first|(exfalso;omega)|(rw[an];simp[c7,Ig,xc,Bh,Tk,cD])],hB⟩
 refine go ?_;by_cases JW:k=4
 ·refine go ?_;by_cases Bb:t=0
  ·refine go ?_;by_cases J4:(dn n 0 11)=true;·refine cC ((eW J4 (bY n 0 11)) _) fun XX FJ hp hB=>?_;refine p1 ?_;exact⟨by rw[show an (.mk k t n []) deep=true by first|(exfalso;omega)|(rw[an];simp[c7,Ig,xc,Bh,JW,Bb,J4,cD])],hB⟩
   replace J4:=eq_false_of_ne_true J4;refine cC ((eW J4 (bY n 0 11)) _) fun w75 LZ hp hB=>?_;refine p1 ?_;exact⟨by rw[show an (.mk k t n []) deep=false by first|(exfalso;omega)|(rw[an];simp[c7,Ig,xc,Bh,JW,Bb,J4,cD])],hB⟩
  refine go ?_;refine p1 ?_;exact⟨by rw[show an (.mk k t n []) deep=false by first|(exfalso;omega)|(rw[an];simp[c7,Ig,xc,Bh,JW,Bb,cD])],hB⟩
 refine go ?_;refine p1 ?_;exact⟨by rw[show an (.mk k t n []) deep=false by first|(exfalso;omega)|(rw[an];simp[c7,Ig,xc,Bh,JW,cD])],hB⟩
theorem F7(hk:gn w Z g off cc arr ty kids)(IH:∀x∈kids,IsC x)(k t n deep:Int)(h0:0≤deep)(h1:deep≤10):CB 116 #[.agg #[i6 k,i6 t,i6 n,.slice (some ⟨g,off,none⟩) kids.length cc],i6 deep] w (.bool (an (.mk k t n kids) deep)):=by
 have hB:=Below.refl w.heap.size w;have cD:dn 0 1 4=false:=by decide
 have hp:=Hp.nil w;have JC:=hk.sm;refine fe Tryz.func116 Tryz.ntmps116 ?_;refine go ?_;refine ic fun g1 w2 n3 hp ai hB=>?_;refine ic fun g4 w5 n6 hp aL hB=>?_;by_cases c7:k=5
 ·refine go ?_;by_cases c8:k=1
  ·refine go ?_;by_cases c9:t=0
   ·refine go ?_;by_cases dv:(dn n 0 1073741824)=true;·refine cC ((eW dv (bY n 0 1073741824)) _) fun ot fY hp hB=>?_;refine p1 ?_;exact⟨by rw[show an (.mk k t n kids) deep=true by first|(exfalso;omega)|(rw[an];simp[c7,c8,c9,dv,cD])],hB⟩
    replace dv:=eq_false_of_ne_true dv;refine cC ((eW dv (bY n 0 1073741824)) _) fun oD eI hp hB=>?_;refine p1 ?_;exact⟨by rw[show an (.mk k t n kids) deep=false by first|(exfalso;omega)|(rw[an];simp[c7,c8,c9,dv,cD])],hB⟩
   refine go ?_;refine p1 ?_;exact⟨by rw[show an (.mk k t n kids) deep=false by first|(exfalso;omega)|(rw[an];simp[c7,c8,c9,cD])],hB⟩
  refine go ?_;by_cases gJ:k=2
  ·refine go ?_;by_cases pg:(dn t 0 9)=true
   ·refine cC ((eW pg (jX t)) _) fun s6 gC hp hB=>?_;by_cases im:(dn n 0 1073741824)=true;·refine cC ((eW im (bY n 0 1073741824)) _) fun re lH hp hB=>?_;refine p1 ?_;exact⟨by rw[show an (.mk k t n kids) deep=true by first|(exfalso;omega)|(rw[an];simp[c7,c8,gJ,pg,im,cD])],hB⟩
    replace im:=eq_false_of_ne_true im;refine cC ((eW im (bY n 0 1073741824)) _) fun zN nr hp hB=>?_;refine p1 ?_;exact⟨by rw[show an (.mk k t n kids) deep=false by first|(exfalso;omega)|(rw[an];simp[c7,c8,gJ,pg,im,cD])],hB⟩
   replace pg:=eq_false_of_ne_true pg;refine cC ((eW pg (jX t)) _) fun AZ jh hp hB=>?_;refine p1 ?_;exact⟨by rw[show an (.mk k t n kids) deep=false by first|(exfalso;omega)|(rw[an];simp[c7,c8,gJ,pg,cD])],hB⟩
  refine go ?_;by_cases jT:k=3
  ·refine go ?_;by_cases kH:t=0
   ·refine go ?_;by_cases j8:(dn n 0 11)=true;·refine cC ((eW j8 (bY n 0 11)) _) fun zp rO hp hB=>?_;refine p1 ?_;exact⟨by rw[show an (.mk k t n kids) deep=true by first|(exfalso;omega)|(rw[an];simp[c7,c8,gJ,jT,kH,j8,cD])],hB⟩
    replace j8:=eq_false_of_ne_true j8;refine cC ((eW j8 (bY n 0 11)) _) fun Bp wN hp hB=>?_;refine p1 ?_;exact⟨by rw[show an (.mk k t n kids) deep=false by first|(exfalso;omega)|(rw[an];simp[c7,c8,gJ,jT,kH,j8,cD])],hB⟩
   refine go ?_;refine p1 ?_;exact⟨by rw[show an (.mk k t n kids) deep=false by first|(exfalso;omega)|(rw[an];simp[c7,c8,gJ,jT,kH,cD])],hB⟩
  refine go ?_;by_cases ri:k=4
  ·refine go ?_;by_cases EI:t=0
   ·refine go ?_;by_cases tW:(dn n 0 11)=true;·refine cC ((eW tW (bY n 0 11)) _) fun PU DS hp hB=>?_;refine p1 ?_;exact⟨by rw[show an (.mk k t n kids) deep=true by first|(exfalso;omega)|(rw[an];simp[c7,c8,gJ,jT,ri,EI,tW,cD])],hB⟩
    replace tW:=eq_false_of_ne_true tW;refine cC ((eW tW (bY n 0 11)) _) fun JU mf hp hB=>?_;refine p1 ?_;exact⟨by rw[show an (.mk k t n kids) deep=false by first|(exfalso;omega)|(rw[an];simp[c7,c8,gJ,jT,ri,EI,tW,cD])],hB⟩
   refine go ?_;refine p1 ?_;exact⟨by rw[show an (.mk k t n kids) deep=false by first|(exfalso;omega)|(rw[an];simp[c7,c8,gJ,jT,ri,EI,cD])],hB⟩
  refine go ?_;refine ak (.func (.func 169) #[] #[pA g4 0]) kr ?_;by_cases J3:deep<3
  ·refine go ?_;by_cases GQ:t=0
   ·refine go ?_;by_cases N5:n=0
    ·refine go ?_;by_cases Uq:(dn (kids.length:Int) 1 4)=true
     ·refine cC ((eW Uq (bY (kids.length:Int) 1 4)) _) fun N6 mI hp hB=>?_;by_cases N7:(!lL kids (deep+1))=true;·have yT:=N7;simp only[Bool.not_eq_true',Bool.not_eq_false']at yT;refine cC ((mu N7 (qP (fun x hx=>IH x hx) (hk.below hB) (hp.at 0) h0 om))) fun LP rZ hp hB=>?_;refine p1 ?_;exact⟨by rw[show an (.mk k t n kids) deep=false by first|(exfalso;omega)|(rw[an];simp[c7,c8,gJ,jT,ri,J3,GQ,N5,Uq,N7,yT,cD])],hB⟩
      replace N7:=eq_false_of_ne_true N7;have yT:=N7;simp only[Bool.not_eq_true',Bool.not_eq_false']at yT;refine cC ((mu N7 (qP (fun x hx=>IH x hx) (hk.below hB) (hp.at 0) h0 om))) fun T3 pJ hp hB=>?_;refine p1 ?_;exact⟨by rw[show an (.mk k t n kids) deep=true by first|(exfalso;omega)|(rw[an];simp[c7,c8,gJ,jT,ri,J3,GQ,N5,Uq,N7,yT,cD])],hB⟩
     replace Uq:=eq_false_of_ne_true Uq;refine cC ((eW Uq (bY (kids.length:Int) 1 4)) _) fun w51 Bq hp hB=>?_;refine p1 ?_;exact⟨by rw[show an (.mk k t n kids) deep=false by first|(exfalso;omega)|(rw[an];simp[c7,c8,gJ,jT,ri,J3,GQ,N5,Uq,cD])],hB⟩
    refine go ?_;refine p1 ?_;exact⟨by rw[show an (.mk k t n kids) deep=false by first|(exfalso;omega)|(rw[an];simp[c7,c8,gJ,jT,ri,J3,GQ,N5,cD])],hB⟩
   refine go ?_;refine p1 ?_;exact⟨by rw[show an (.mk k t n kids) deep=false by first|(exfalso;omega)|(rw[an];simp[c7,c8,gJ,jT,ri,J3,GQ,cD])],hB⟩
  refine go ?_;refine p1 ?_;exact⟨by rw[show an (.mk k t n kids) deep=false by first|(exfalso;omega)|(rw[an];simp[c7,c8,gJ,jT,ri,J3,cD])],hB⟩
 refine go ?_;by_cases mG:(kids.length:Int)=0
 ·have nh:kids=[]:=azo.1 om;refine go ?_;by_cases uw:k=1
  ·refine go ?_;by_cases Bv:t=0
   ·refine go ?_;by_cases xU:(dn n 0 1073741824)=true;·refine cC ((eW xU (bY n 0 1073741824)) _) fun Ua anw hp hB=>?_;refine p1 ?_;exact⟨by rw[show an (.mk k t n kids) deep=true by first|(exfalso;omega)|(rw[an];simp[c7,mG,uw,Bv,xU,nh,cD])],hB⟩
    replace xU:=eq_false_of_ne_true xU;refine cC ((eW xU (bY n 0 1073741824)) _) fun XW vG hp hB=>?_;refine p1 ?_;exact⟨by rw[show an (.mk k t n kids) deep=false by first|(exfalso;omega)|(rw[an];simp[c7,mG,uw,Bv,xU,nh,cD])],hB⟩
   refine go ?_;refine p1 ?_;exact⟨by rw[show an (.mk k t n kids) deep=false by first|(exfalso;omega)|(rw[an];simp[c7,mG,uw,Bv,nh,cD])],hB⟩
  refine go ?_;by_cases N8:k=2
  ·refine go ?_;by_cases c62:(dn t 0 9)=true
   ·refine cC ((eW c62 (jX t)) _) fun NZ tD hp hB=>?_;by_cases Ml:(dn n 0 1073741824)=true;·refine cC ((eW Ml (bY n 0 1073741824)) _) fun w66 QG hp hB=>?_;refine p1 ?_;exact⟨by rw[show an (.mk k t n kids) deep=true by first|(exfalso;omega)|(rw[an];simp[c7,mG,uw,N8,c62,Ml,nh,cD])],hB⟩
    replace Ml:=eq_false_of_ne_true Ml;refine cC ((eW Ml (bY n 0 1073741824)) _) fun Ub wX hp hB=>?_;refine p1 ?_;exact⟨by rw[show an (.mk k t n kids) deep=false by first|(exfalso;omega)|(rw[an];simp[c7,mG,uw,N8,c62,Ml,nh,cD])],hB⟩
   replace c62:=eq_false_of_ne_true c62;refine cC ((eW c62 (jX t)) _) fun w70 tz hp hB=>?_;refine p1 ?_;exact⟨by rw[show an (.mk k t n kids) deep=false by first|(exfalso;omega)|(rw[an];simp[c7,mG,uw,N8,c62,nh,cD])],hB⟩
  refine go ?_;by_cases J4:k=3
  ·refine go ?_;by_cases Bx:t=0
   ·refine go ?_;by_cases N3:(dn n 0 11)=true;·refine cC ((eW N3 (bY n 0 11)) _) fun w75 LZ hp hB=>?_;refine p1 ?_;exact⟨by rw[show an (.mk k t n kids) deep=true by first|(exfalso;omega)|(rw[an];simp[c7,mG,uw,N8,J4,Bx,N3,nh,cD])],hB⟩
    replace N3:=eq_false_of_ne_true N3;refine cC ((eW N3 (bY n 0 11)) _) fun w77 anx hp hB=>?_;refine p1 ?_;exact⟨by rw[show an (.mk k t n kids) deep=false by first|(exfalso;omega)|(rw[an];simp[c7,mG,uw,N8,J4,Bx,N3,nh,cD])],hB⟩
   refine go ?_;refine p1 ?_;exact⟨by rw[show an (.mk k t n kids) deep=false by first|(exfalso;omega)|(rw[an];simp[c7,mG,uw,N8,J4,Bx,nh,cD])],hB⟩
  refine go ?_;by_cases c79:k=4
  ·refine go ?_;by_cases c80:t=0
   ·refine go ?_;by_cases GL:(dn n 0 11)=true;·refine cC ((eW GL (bY n 0 11)) _) fun w82 zG hp hB=>?_;refine p1 ?_;exact⟨by rw[show an (.mk k t n kids) deep=true by first|(exfalso;omega)|(rw[an];simp[c7,mG,uw,N8,J4,c79,c80,GL,nh,cD])],hB⟩
    replace GL:=eq_false_of_ne_true GL;refine cC ((eW GL (bY n 0 11)) _) fun w84 HT hp hB=>?_;refine p1 ?_;exact⟨by rw[show an (.mk k t n kids) deep=false by first|(exfalso;omega)|(rw[an];simp[c7,mG,uw,N8,J4,c79,c80,GL,nh,cD])],hB⟩
   refine go ?_;refine p1 ?_;exact⟨by rw[show an (.mk k t n kids) deep=false by first|(exfalso;omega)|(rw[an];simp[c7,mG,uw,N8,J4,c79,c80,nh,cD])],hB⟩
  refine go ?_;refine p1 ?_;exact⟨by rw[show an (.mk k t n kids) deep=false by first|(exfalso;omega)|(rw[an];simp[c7,mG,uw,N8,J4,c79,nh,cD])],hB⟩
 have nh:¬kids=[]:=fun e=>by rw[e]at mG;simp at mG
 refine go ?_;by_cases PM:k=1;·refine go ?_;refine p1 ?_;exact⟨by rw[show an (.mk k t n kids) deep=false by first|(exfalso;omega)|(rw[an];simp[c7,mG,PM,nh,cD])],hB⟩
 refine go ?_;by_cases c87:k=2;·refine go ?_;refine p1 ?_;exact⟨by rw[show an (.mk k t n kids) deep=false by first|(exfalso;omega)|(rw[an];simp[c7,mG,PM,c87,nh,cD])],hB⟩
 refine go ?_;by_cases N9:k=3;·refine go ?_;refine p1 ?_;exact⟨by rw[show an (.mk k t n kids) deep=false by first|(exfalso;omega)|(rw[an];simp[c7,mG,PM,c87,N9,nh,cD])],hB⟩
 refine go ?_;by_cases c89:k=4;·refine go ?_;refine p1 ?_;exact⟨by rw[show an (.mk k t n kids) deep=false by first|(exfalso;omega)|(rw[an];simp[c7,mG,PM,c87,N9,c89,nh,cD])],hB⟩
 refine go ?_;refine p1 ?_;exact⟨by rw[show an (.mk k t n kids) deep=false by first|(exfalso;omega)|(rw[an];simp[c7,mG,PM,c87,N9,c89,nh,cD])],hB⟩
theorem Mm(c:bn):IsC c:=by
 refine bn.ind (P:=IsC) (fun c IH=>?_) c;intro w Z cs deep hc h0 h1;rcases hc.parts with⟨k,t,n,b,rfl,rfl⟩|⟨k,t,n,kids,g,off,cc,arr,ty,rfl,rfl,hk⟩;·exact F6 b k t n deep h0 h1
 ·exact F7 hk IH k t n deep h0 h1
theorem gS(hc:bw w Z cs c):CB 68 #[.agg cs] w (.bool (an c 0)):=by have hp:=Hp.nil w;have hB:=Below.refl w.heap.size w;have hU:=hc.size;refine fe Tryz.func68 Tryz.ntmps68 ?_;refine go ?_;refine bv cs fun g1 w2 n3 hp=>?_;have ai:=ayo hB.size n3.fresh;have hB:=U hB n3.below;refine ak (.agg cs) (aQ (i:=0) (n:=4) (hp.at 0) (eR hU) (by rw[hU];exact ayp _) U36 kr rfl) ?_;refine cC (Mm c _ Z cs 0 (hc.under hB) dd dd) fun w4 qH hp hB=>?_;refine p1 ?_;exact⟨rfl,hB⟩
end
end Go.Proofs.YtdkpbpjcbkibiaaGreatDoor.B
