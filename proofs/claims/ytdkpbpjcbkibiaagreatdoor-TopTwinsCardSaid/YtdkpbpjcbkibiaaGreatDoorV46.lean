/- Ls Ls2 Twn -/
import Derived.Test.YtdkpbpjcbkibiaaGreatDoorV0
import Derived.Test.YtdkpbpjcbkibiaaGreatDoorV36
import Derived.Test.YtdkpbpjcbkibiaaGreatDoorV45
import Derived.Test.YtdkpbpjcbkibiaaGreatDoorV12
import Derived.Test.YtdkpbpjcbkibiaaGreatDoorV39
set_option linter.all false
set_option maxRecDepth 100000
set_option maxHeartbeats 4000000
namespace Go.Proofs.YtdkpbpjcbkibiaaGreatDoor.B
open Go.RowKit
section
open Go.RowKit
variable{cs A arr:Array Value}{k g off c:Nat}{w:World}{Z:Nat→Prop}{ty:TypeId}{b:Option Addr}
structure rb where
 e:se
 n:Int
def pV(a:rb)(cs:Array Value):Array Value:=(Aa a.e cs).push (.int .i64 a.n)
theorem C0{a:rb}(h:cs.size=4):(pV a cs).size=50:=by unfold pV;rw[azn,aM h]
theorem GF{v:Value}{i:Nat}(h:i+k≤A.size):(A.push v).extract i (i+k)=A.extract i (i+k):=by
 apply ayW;intro j;rw[ayz,ayz,azn];by_cases q:j<k;·rw[if_pos om,if_pos om,azm,if_neg om]
 ·rw[if_neg om,if_neg om]
theorem SS{a:rb}(h:cs.size=4):(pV a cs).extract 0 (0+49)=Aa a.e cs:=by unfold pV;rw[GF (by rw[aM h];exact ayp _)];exact eC h
theorem SU{a:rb}(h:cs.size=4):(pV a cs)[49]?=some (.int .i64 a.n):=by unfold pV;rw[azm,if_pos (by rw[aM h])]
theorem NG{a:rb}(h:cs.size=4):(pV a cs).extract 45 (45+4)=cs:=by unfold pV;rw[GF (by rw[aM h];exact ayp _)];exact jO h
theorem SV{B:Array Value}{o n j:Nat}(h:A.extract o (o+n)=B)(hs:B.size=n)(hj:j+k≤n):A.extract (o+j) (o+j+k)=B.extract j (j+k):=by
 subst h;have hs':o+n≤A.size∨n=0:=by simp at hs;omega
 apply ayW;intro q;simp only[ayz];by_cases e:q<k;·rw[if_pos om,if_pos (by rw[Array.size_extract];omega),if_pos om];congr 1;omega
 ·rw[if_neg om,if_neg om]
structure xD(w:World)(Z:Nat→Prop)(g off c:Nat)(arr:Array Value)(ty:TypeId)(l:List rb):Prop where
 fA:j0 w g arr ty
 fit:off+l.length*50≤arr.size
 cap:l.length≤c
 at_:∀(i:Nat) x,l[i]?=some x→∃cs,arr.extract (off+i*50) (off+i*50+50)=pV x cs∧bw w Z cs x.e.call
theorem xD.below{w2:World}{l:List rb}(h:xD w Z g off c arr ty l)(hb:Bw w w2):xD w2 Z g off c arr ty l:=⟨h.fA.below hb,h.fit,h.cap,fun i x hx=>let⟨cs,h1,h2⟩:=h.at_ i x hx;⟨cs,h1,h2.under hb⟩⟩
def SW(x:bn):Prop:=∀(w:World) (Z:Nat→Prop) (cs:Array Value),bw w Z cs x→CP 27 #[.agg cs] w fun e w'=>∃n:Int,e=.returned (.int .i64 n)∧Bw w w'
theorem SX(k t n:Int):CP 27 #[.agg #[i6 k,i6 t,i6 n,.slice b 0 0]] w fun e w'=>∃n:Int,e=.returned (.int .i64 n)∧Bw w w':=by have hp:=Hp.nil w;have hB:=Below.refl w.heap.size w;refine fe Tryz.func27 Tryz.ntmps27 ?_;refine go ?_;refine ic fun g1 w2 n3 hp ai hB=>?_;refine ak (i6 1) (aC (m:=1) (n:=0) (s:=1) rfl rfl kr) ?_;refine iR 1 ?_;refine go ?_;refine p1 ?_;exact⟨_,rfl,hB⟩
theorem SY{kids:List bn}{cc:Nat}(hk:gn w Z g off cc arr ty kids)(IH:∀x∈kids,SW x)(k t n:Int):CP 27 #[.agg #[i6 k,i6 t,i6 n,.slice (some ⟨g,off,none⟩) kids.length cc]] w fun e w'=>∃n:Int,e=.returned (.int .i64 n)∧Bw w w':=by
 have hp:=Hp.nil w;have hB:=Below.refl w.heap.size w;have mz:=hk.fit;have JC:=hk.sm;refine fe Tryz.func27 Tryz.ntmps27 ?_;refine go ?_;refine ic fun g1 w2 n3 hp ai hB=>?_;refine ak (i6 (wrap64 (1+(kids.length:Int)))) (aC rfl rfl rfl) ?_;refine cT (fun m' a' w'=>∃(i:Nat) (nn:Int) (u9 qO lW r9 lj kt iD u16 iL ig jd je iE iF iG kK k3 nA nC:Value),a'=(fR #[.agg #[i6 k,i6 t,i6 n,.slice (some ⟨g,off,none⟩) kids.length cc],pA g1 0,i6 0,i6 nn,i6 (i:Int),pA g1 3,.slice (some ⟨g,off,none⟩) kids.length cc,i6 (kids.length:Int),i6 (wrap64 (1+(kids.length:Int))),u9,qO,lW,r9,lj,kt,iD,u16,iL,ig,jd,je,iE,iF,iG,kK,k3,nA,nC,undef])∧m'=kids.length-i∧Hp w' [(g1,#[i6 k,i6 t,i6 n,.slice (some ⟨g,off,none⟩) kids.length cc],36)]∧Bw w w'∧i≤kids.length) _ ⟨0,wrap64 (1+(kids.length:Int)),undef,undef,undef,undef,undef,undef,undef,undef,undef,undef,undef,undef,undef,undef,undef,undef,undef,undef,undef,rfl,rfl,hp,hB,(ayP _)⟩ ?_;rintro m5 _ w4 ⟨i,nn,u9,qO,lW,r9,lj,kt,iD,u16,iL,ig,jd,je,iE,iF,iG,kK,k3,nA,nC,rfl,rfl,hp,hB,hi⟩;refine go ?_;by_cases c6:(i:Int)<(kids.length:Int)
 ·obtain⟨x,hx⟩:∃x,kids[i]?=some x:=⟨_,ayq om⟩;have F8:=hk.at_ i x hx;refine go ?_;by_cases c7:nn<300;·refine go ?_;refine ak (pA g (off+i*4)) (cX (l:=kids.length) (j:=(i:Int)) (off:=off) (sz:=4) U34 kr rfl rfl om om om) ?_;refine ak (.agg (arr.extract (off+i*4) (off+i*4+4))) (qt (i:=off+i*4) (n:=4) (hk.below hB).fA rfl om U36 kr rfl) ?_;refine ce (IH x (ayw hx) _ Z _ (F8.under hB)) ?_;rintro _ w9 ⟨r8,rfl,fD⟩;refine⟨_,rfl,ab ?_⟩;have hp:=hp.below fD;have hB:=U hB fD;refine ak (i6 (wrap64 (nn+r8))) (aC rfl rfl rfl) ?_;refine ak (i6 ((i+1:Nat):Int)) (aC (m:=(i:Int)) (n:=1) (s:=((i+1:Nat):Int)) rfl rfl (by unfold wrap64;omega)) ?_;exact⟨_,om,i+1,wrap64 (nn+r8),_,_,_,_,_,_,_,_,_,_,_,_,_,_,_,_,_,_,_,rfl,rfl,hp,hB,om⟩
  refine go ?_;refine p1 ?_;exact⟨_,rfl,hB⟩
 refine go ?_;refine p1 ?_;exact⟨_,rfl,hB⟩
theorem adi(c:bn):SW c:=by
 refine bn.ind (P:=SW) (fun c IH=>?_) c;intro w Z cs hc;rcases hc.parts with⟨k,t,n,b,rfl,rfl⟩|⟨k,t,n,kids,g,off,cc,arr,ty,rfl,rfl,hk⟩;·exact SX k t n
 ·exact SY hk IH k t n
theorem Xc:CP 8 #[.slice b 0 0] w fun e w'=>∃b:Bool,e=.returned (.bool b)∧Bw w w':=by have hp:=Hp.nil w;have hB:=Below.refl w.heap.size w;refine fe Tryz.func8 Tryz.ntmps8 ?_;refine go ?_;refine iR 1 ?_;refine go ?_;refine p1 ?_;exact⟨_,rfl,hB⟩
theorem adj{l:List rb}(hl:xD w Z g off c arr ty l):CP 8 #[.slice (some ⟨g,off,none⟩) l.length c] w fun e w'=>∃b:Bool,e=.returned (.bool b)∧Bw w w':=by
 have hp:=Hp.nil w;have hB:=Below.refl w.heap.size w;have mz:=hl.fit;refine fe Tryz.func8 Tryz.ntmps8 ?_;refine go ?_;refine cT (fun m' a' w'=>∃(i:Nat) (nn:Int) (u2 u5 u6 u7 u8 u9 qO lW r9 lj kt iD u16 iL ig jd je iE iF iG kK k3:Value),a'=(fR #[.slice (some ⟨g,off,none⟩) l.length c,undef,u2,i6 nn,i6 (i:Int),u5,u6,u7,u8,u9,qO,lW,r9,lj,kt,iD,u16,iL,ig,jd,je,iE,iF,iG,kK,k3])∧m'=l.length-i∧Hp w' []∧Bw w w'∧i≤l.length) _ ⟨0,0,.bool false,undef,undef,undef,undef,undef,undef,undef,undef,undef,undef,undef,undef,undef,undef,undef,undef,undef,undef,undef,undef,undef,rfl,rfl,hp,hB,(ayP _)⟩ ?_;rintro m2 _ w1 ⟨i,nn,u2,u5,u6,u7,u8,u9,qO,lW,r9,lj,kt,iD,u16,iL,ig,jd,je,iE,iF,iG,kK,k3,rfl,rfl,hp,hB,hi⟩;refine go ?_;by_cases c3:(i:Int)<(l.length:Int)
 ·obtain⟨x,hx⟩:∃x,l[i]?=some x:=⟨_,ayq om⟩;obtain⟨cs,hxe,F8⟩:=hl.at_ i x hx;have hU:=F8.size;refine go ?_;by_cases c4:(i:Int)<100
  ·refine go ?_;refine ak (pA g (off+i*50)) (cX (l:=l.length) (j:=(i:Int)) (off:=off) (sz:=50) U22 kr rfl rfl om om om) ?_;refine ak (.agg cs) (qt (i:=off+i*50+45) (n:=4) (hl.below hB).fA ((SV (j:=45) (k:=4) hxe (C0 hU) dd).trans (NG hU)) om U36 kr rfl) ?_;refine ce (adi x.e.call _ Z _ (F8.under hB)) ?_;rintro _ w6 ⟨r5,rfl,fD⟩;refine⟨_,rfl,ab ?_⟩;have hp:=hp.below fD;have hB:=U hB fD;refine ak (i6 (wrap64 (nn+r5))) (aC rfl rfl rfl) ?_;by_cases c7:(2000:Int)<wrap64 (nn+r5);·refine go ?_;refine p1 ?_;exact⟨_,rfl,hB⟩
   refine go ?_;refine ak (i6 ((i+1:Nat):Int)) (aC (m:=(i:Int)) (n:=1) (s:=((i+1:Nat):Int)) rfl rfl (by unfold wrap64;omega)) ?_;exact⟨_,om,i+1,wrap64 (nn+r5),_,_,_,_,_,_,_,_,_,_,_,_,_,_,_,_,_,_,_,_,_,_,rfl,rfl,hp,hB,om⟩
  refine go ?_;refine p1 ?_;exact⟨_,rfl,hB⟩
 refine go ?_;refine p1 ?_;exact⟨_,rfl,hB⟩
end
section
open Go.RowKit
variable{s:bM}{H:bn→bU}
def uF(s:bM):Nat→List iY×bM
 |0=>([],s)
 |i+1=>((uF s i).1++(jj (uF s i).2).1,(jj (uF s i).2).2)
theorem Ez{s:bM}(k:EK s):∀i,EK (uF s i).2
 |0=>k
 |i+1=>MM (Ez k i)
def xE(n:Int):Nat:=if n≤8 then n.toNat else 8
def aik(k:FuncId)(args:Array Value)(w:World)(col:Nat→Nat)(f:CF)(m:CV)(s:bM)(es:List iY)(err:Int)(s':bM):Prop:=CP k args w fun e w'=>∃col' m' v,e=.returned (.tuple #[v,.int .i64 err])∧Out w col m s w' col' f m' s'∧ix w w' col' v es∧es.length≤32000
def mX(H:bn→bU)(s:bM)(a:rb):(List iY×Int)×bM:=
 if a.n≤0 then(([],(jF H s a.e).1),(jF H s a.e).2)else(((uF s (xE a.n)).1,0),(uF s (xE a.n)).2)
theorem SZ(k:EK s)(a:rb):EK (mX H s a).2:=by
 unfold mX;split;·exact MO k a.e
 ·exact Ez k _
theorem S0{w:World}{col:Nat→Nat}{f:CF}{m:CV}(h:Ch w col f m s)(hH:Uz H)(ha:Bi w)(h1:col 1=0){a:rb}{cs:Array Value}(hc:bw w (fun b=>col b=0) cs a.e.call)(hk:EK s):aik 10 #[pA f.cp 0,.agg (pV a cs)] w col f m s ((mX H s a).1.1) ((mX H s a).1.2) ((mX H s a).2):=by
 have ho:Out w col m s w col f m s:=bV.start h;have hp:=Hp.nil w;have hU:=hc.size;refine fe Tryz.func10 Tryz.ntmps10 ?_;refine go ?_;refine lR (v:=.agg (pV a cs)) rfl (fun g1 w2 n3=>ab ?_);have n3:jr _ _ _ (pV a cs) _:=n3;have dq:=ayo ho.turns.size n3.fresh;obtain⟨dh,cF⟩:∃z,z=mark col g1:=⟨_,rfl⟩;have ho:=ho.new n3;rw[←cF]at ho;have cR:dh g1=7:=by rw[cF];exact dX
 have hp:=hp.new n3;refine go ?_;refine ak (i6 a.n) (ay (hp.at 0) (SU hU) U3 rfl) ?_;by_cases c5:a.n≤0;·refine go ?_;refine ak (.agg (cj a.e.kind a.e.dy a.e.iV a.e.n a.e.ref a.e.aa a.e.level a.e.sum a.e.bZ cs)) (aQ (i:=0) (n:=49) (hp.at 0) (SS hU) (by rw[C0 hU];decide) U38 kr rfl) ?_;have kk:Ks dh [(g1,7)]:=⟨cR,trivial⟩;refine jo (UN ho.ch hH (ha.turns ho.tn (by show ¬own (col 1);rw[h1];exact kU)) ((ho.fp 1 ha.lt).trans h1) (hc.out ho)) fun w6 HY m8 ho9 hp ho kk=>?_;refine p2 ?_;have e:mX H s a=(([],(jF H s a.e).1),(jF H s a.e).2):=if_pos c5;rw[e];exact⟨HY,m8,_,rfl,ho,ix.nil,ayP _⟩
 refine go ?_;refine cT (fun m' a' w'=>∃(i:Nat) (cA:Nat→Nat) (mA:CV) (bb:Option Addr) (nn:Nat) (cc:Nat) (iD u16 iL ig jd je iE iF iG kK k3 nA nC o3:Value),a'=(fR #[pA f.cp 0,.agg (pV a cs),undef,pA g1 0,.slice none 0 0,i6 0,.slice bb nn cc,i6 (i:Int),pA g1 49,i6 a.n,.bool false,undef,undef,undef,undef,iD,u16,iL,ig,jd,je,iE,iF,iG,kK,k3,nA,nC,o3,undef])∧m'=8-i∧Hp w' [(g1,(pV a cs),40)]∧i≤8∧(i:Int)≤a.n∧Out w col m s w' cA f mA (uF s i).2∧ix w w' cA (.slice bb nn cc) (uF s i).1∧(uF s i).1.length≤i*4000∧cA g1=7) _ ⟨0,dh,m,none,0,0,undef,undef,undef,undef,undef,undef,undef,undef,undef,undef,undef,undef,undef,undef,rfl,rfl,hp,(ayP _),om,ho,.nil,(ayP _),cR⟩ ?_;rintro DP _ o2 ⟨i,cA,mA,bb,nn,cc,iD,u16,iL,ig,jd,je,iE,iF,iG,kK,k3,nA,nC,o3,rfl,rfl,hp,hi,jU,ho,iv,hl,cR⟩;refine go ?_;refine ak (i6 a.n) (ay (hp.at 0) (SU hU) U3 rfl) ?_;by_cases iB:(i:Int)<a.n
 ·refine go ?_;by_cases ng:(i:Int)<8
  ·refine go ?_;have XK:=Ez hk i;have Zj:=IC ho.ch.inv.ll;refine ce (UT ho.ch XK.nc XK.now) ?_;rintro _ uH ⟨zO,m21,v14,rfl,P2,Xd⟩;refine⟨_,rfl,ab ?_⟩;have Xd:=Xd.since ho.turns.size;obtain⟨Xz,n16,Xw,rfl⟩:=Xd.sl;have iv:=iv.oU P2;have kk:Ks cA [(g1,7)]:=⟨cR,trivial⟩;obtain⟨hp,kk⟩:=mT P2 hp kk;have ho:=ho.trans P2;refine nY iv Xd ho.ch.bG ho.turns.size om rfl rfl (fun v23 AZ qK A26 ail=>?_) U26;refine ab ?_;obtain⟨hp,kk⟩:=aT A26 hp kk;have ho:=ho.j6 A26 (fun b _ q=>.inl q);obtain⟨TH,n29,yQ,rfl⟩:=ail.sl;refine go ?_;refine ak (i6 ((i+1:Nat):Int)) (aC (m:=(i:Int)) (n:=1) (s:=((i+1:Nat):Int)) rfl rfl (by unfold wrap64;omega)) ?_;have v8:(uF s (i+1)).1.length≤(i+1)*4000:=by show((uF s i).1++_).length≤_;rw[ayG];omega
   have cR:=kk.1;exact⟨_,om,i+1,qK,m21,TH,n29,yQ,_,_,_,_,_,_,_,_,_,_,_,_,_,_,rfl,rfl,hp,om,om,ho,ail,v8,cR⟩
  refine go ?_;refine p2 ?_;have ei:xE a.n=i:=by unfold xE;split<;>omega
  have e:mX H s a=(((uF s i).1,0),(uF s i).2):=by unfold mX;rw[if_neg c5,ei]
  rw[e];exact⟨cA,mA,_,rfl,ho,iv,by have:=hl;simp only;omega⟩
 refine go ?_;refine p2 ?_;have ei:xE a.n=i:=by unfold xE;split<;>omega
 have e:mX H s a=(((uF s i).1,0),(uF s i).2):=by unfold mX;rw[if_neg c5,ei]
 rw[e];exact⟨cA,mA,_,rfl,ho,iv,by have:=hl;simp only;omega⟩
end
section
open Go.RowKit
section
variable{w0 w w2:World}{col col' c1 c2 c1' c2':Nat→Nat}{f f1 f2:CF}{m m1 m2 m1' m2':CV}{s s1 s2 t:bM}{S:Nat→Prop}
theorem Ch.other(h:Ch w col f m s)(ht:au S w w2)(hS:∀b,S b→col' b=7)(hc:∀b,b<w.heap.size→col' b=col b)(aim:rB col' w2):Ch w2 col' f m s:=⟨(h.ij.ew hc).turns ht fun b q=>by rw[hS b q];decide,(h.gN.ew hc).turns ht fun b q=>by rw[hS b q];unfold A4;decide,(h.ref.ew hc).turns ht fun b q=>by rw[hS b q];decide,(h.pre.ew hc).turns ht fun b q=>by rw[hS b q];decide,(h.BX.ew hc).turns ht fun b q=>by rw[hS b q];decide,
 let⟨t,hb⟩:=h.iX;⟨t,hb.turns ht fun q=>by have:=hS _ q;rw[hc _ hb.lt,h.cc]at this;cases this⟩,by obtain⟨t,hb⟩:=h.iX;rw[hc _ hb.lt];exact h.cc,aim,h.inv⟩
structure Twin(w0 w:World)(c1:Nat→Nat)(f1:CF)(m1:CV)(s1:bM)(c2:Nat→Nat)(f2:CF)(m2:CV)(s2:bM):Prop where
 h1:Ch w c1 f1 m1 s1
 h2:Ch w c2 f2 m2 s2
 s12:∀b,own (c1 b)→c2 b=7
 s21:∀b,own (c2 b)→c1 b=7
 z1:∀b,b<w0.heap.size→c1 b=0
 z2:∀b,b<w0.heap.size→c2 b=0
 below:Bw w0 w
theorem S1:¬own 7:=fun q=>q.2.1 rfl
theorem Twin.step(h:Twin w0 w c1 f1 m1 s1 c2 f2 m2 s2)(hb:Bw w w2):Twin w0 w2 c1 f1 m1 s1 c2 f2 m2 s2:=⟨h.h1.below hb,h.h2.below hb,h.s12,h.s21,h.z1,h.z2,U h.below hb⟩
theorem Twin.swap(h:Twin w0 w c1 f1 m1 s1 c2 f2 m2 s2):Twin w0 w c2 f2 m2 s2 c1 f1 m1 s1:=⟨h.h2,h.h1,h.s21,h.s12,h.z2,h.z1,h.below⟩
open Classical in
theorem Twin.one(h:Twin w0 w c1 f1 m1 s1 c2 f2 m2 s2)(k:Out w c1 m1 s1 w2 c1' f1 m1' t):∃c2',Twin w0 w2 c1' f1 m1' t c2' f2 m2 s2∧∀b,b<w.heap.size→c2' b=c2 b:=by
 refine⟨fun b=>if b<w.heap.size then c2 b else if own (c1' b)then 7 else 0,⟨k.ch,?_,fun b q=>?_,fun b q=>?_,fun b q=>?_,fun b q=>?_,?_⟩,fun b q=>if_pos q⟩
 ·refine h.h2.other k.tn (fun b q=>?_) (fun b q=>if_pos q) (fun b q=>?_);·have hl:b<w.heap.size:=h.h1.lt (fun e=>by have q2:own (c1 b):=q;rw[e]at q2;exact kU q2);show(if b<w.heap.size then c2 b else _)=7;rw[if_pos hl];exact h.s12 b q
  ·show(if b<w.heap.size then c2 b else _)=0;have hs:=k.turns.size;rw[if_neg om,if_neg (fun q2=>by rw[k.ch.bG b q]at q2;exact kU q2)]
 ·show(if b<w.heap.size then c2 b else _)=7;split;·rename_i hl;rw[k.fp b hl]at q;exact h.s12 b q
  ·first|rfl|exact if_pos q
 ·have q:own (if b<w.heap.size then c2 b else if own (c1' b)then 7 else 0):=q;split at q;·rename_i hl;rw[k.fp b hl];exact h.s21 b q
  ·split at q;·exact absurd q S1
   ·exact absurd q kU
 ·have hs:=h.below.size;rw[k.fp b om];exact h.z1 b q
 ·have hs:=h.below.size;show(if b<w.heap.size then c2 b else _)=0;rw[if_pos om];exact h.z2 b q
 ·exact⟨k.turns.os.trans h.below.os,k.turns.tape.trans h.below.tape,k.turns.output.trans h.below.output,ayo h.below.size k.turns.size,fun b hb=>(k.tn.block b (ayu hb h.below.size) (fun q=>by have q2:own (c1 b):=q;rw[h.z1 b hb]at q2;exact kU q2)).trans (h.below.block b hb)⟩
open Classical in
theorem Twin.begin(h1:Ch w c1 f1 m1 s1)(hz:∀b,b<w0.heap.size→c1 b=0)(hB:Bw w0 w)(hb:Bw w w2)(h2:Ch w2 c2 f2 m2 s2)(jZ:∀b,b<w.heap.size→c2 b=if own (c1 b)then 7 else 0):∃c1',Twin w0 w2 c1' f1 m1 s1 c2 f2 m2 s2:=by
 have hs:=hB.size;refine⟨fun b=>if b<w.heap.size then c1 b else if own (c2 b)then 7 else 0,?_,h2,fun b q=>?_,fun b q=>?_,fun b q=>?_,fun b q=>?_,U hB hb⟩;·refine h1.other (au.aW (S:=fun _=>False) hb) (fun _ q=>q.elim) (fun b q=>if_pos q) (fun b q=>?_);have:=hb.size;show(if b<w.heap.size then c1 b else _)=0;rw[if_neg om,if_neg (fun q2=>by rw[h2.bG b q]at q2;exact kU q2)]
 ·have q:own (if b<w.heap.size then c1 b else if own (c2 b)then 7 else 0):=q;split at q;·rename_i hl;rw[jZ b hl];exact if_pos q
  ·split at q;·exact absurd q S1
   ·exact absurd q kU
 ·show(if b<w.heap.size then c1 b else _)=7;split
  ·rename_i hl;rw[jZ b hl]at q;split at q;·exact absurd q S1
   ·exact absurd q kU
  ·first|rfl|exact if_pos q
 ·show(if b<w.heap.size then c1 b else _)=0;rw[if_pos om];exact hz b q
 ·rw[jZ b om,hz b q];exact if_neg kU
end
end
end Go.Proofs.YtdkpbpjcbkibiaaGreatDoor.B
