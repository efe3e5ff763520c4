/- Ls Ls2 Opx Spm Sp -/
import Derived.Test.YtdkpbpjcbkibiaaGreatDoorV0
import Derived.Test.YtdkpbpjcbkibiaaGreatDoorV36
import Derived.Test.YtdkpbpjcbkibiaaGreatDoorV45
import Derived.Test.YtdkpbpjcbkibiaaGreatDoorV12
import Derived.Test.YtdkpbpjcbkibiaaGreatDoorV39
import Derived.Test.YtdkpbpjcbkibiaaGreatDoorV29
set_option linter.all false
set_option maxRecDepth 100000
set_option maxHeartbeats 4000000
namespace Go.Proofs.YtdkpbpjcbkibiaaGreatDoor.B
open Go.RowKit
section
open Go.RowKit
variable{cs A arr:Array Value}{k g off c:Nat}{w:World}{Z:Nat→Prop}{ty:TypeId}{b:Option Addr}
structure rb where
 e:se
 n:Int
def pV(a:rb)(cs:Array Value):Array Value:=(Aa a.e cs).push (.int .i64 a.n)
theorem C0{a:rb}(h:cs.size=4):(pV a cs).size=50:=by unfold pV;rw[azn,aM h]
theorem GF{v:Value}{i:Nat}(h:i+k≤A.size):(A.push v).extract i (i+k)=A.extract i (i+k):=by
 apply ayW;intro j;rw[ayz,ayz,azn];by_cases q:j<k;·rw[if_pos om,if_pos om,azm,if_neg om]
 ·rw[if_neg om,if_neg om]
theorem SS{a:rb}(h:cs.size=4):(pV a cs).extract 0 (0+49)=Aa a.e cs:=by unfold pV;rw[GF (by rw[aM h];exact ayp _)];exact eC h
theorem SU{a:rb}(h:cs.size=4):(pV a cs)[49]?=some (.int .i64 a.n):=by unfold pV;rw[azm,if_pos (by rw[aM h])]
theorem NG{a:rb}(h:cs.size=4):(pV a cs).extract 45 (45+4)=cs:=by unfold pV;rw[GF (by rw[aM h];exact ayp _)];exact jO h
theorem SV{B:Array Value}{o n j:Nat}(h:A.extract o (o+n)=B)(hs:B.size=n)(hj:j+k≤n):A.extract (o+j) (o+j+k)=B.extract j (j+k):=by
 subst h;have hs':o+n≤A.size∨n=0:=by simp at hs;omega
 apply ayW;intro q;simp only[ayz];by_cases e:q<k;·rw[if_pos om,if_pos (by rw[Array.size_extract];omega),if_pos om];congr 1;omega
 ·rw[if_neg om,if_neg om]
structure xD(w:World)(Z:Nat→Prop)(g off c:Nat)(arr:Array Value)(ty:TypeId)(l:List rb):Prop where
 fA:j0 w g arr ty
 fit:off+l.length*50≤arr.size
 cap:l.length≤c
 at_:∀(i:Nat) x,l[i]?=some x→∃cs,arr.extract (off+i*50) (off+i*50+50)=pV x cs∧bw w Z cs x.e.call
theorem xD.below{w2:World}{l:List rb}(h:xD w Z g off c arr ty l)(hb:Bw w w2):xD w2 Z g off c arr ty l:=⟨h.fA.below hb,h.fit,h.cap,fun i x hx=>let⟨cs,h1,h2⟩:=h.at_ i x hx;⟨cs,h1,h2.under hb⟩⟩
def SW(x:bn):Prop:=∀(w:World) (Z:Nat→Prop) (cs:Array Value),bw w Z cs x→CP 27 #[.agg cs] w fun e w'=>∃n:Int,e=.returned (.int .i64 n)∧Bw w w'
theorem SX(k t n:Int):CP 27 #[.agg #[i6 k,i6 t,i6 n,.slice b 0 0]] w fun e w'=>∃n:Int,e=.returned (.int .i64 n)∧Bw w w':=by have hp:=Hp.nil w;have hB:=Below.refl w.heap.size w;refine fe Tryz.func27 Tryz.ntmps27 ?_;refine go ?_;refine ic fun g1 w2 n3 hp ai hB=>?_;refine ak (i6 1) (aC (m:=1) (n:=0) (s:=1) rfl rfl kr) ?_;refine iR 1 ?_;refine go ?_;refine p1 ?_;exact⟨_,rfl,hB⟩
theorem SY{kids:List bn}{cc:Nat}(hk:gn w Z g off cc arr ty kids)(IH:∀x∈kids,SW x)(k t n:Int):CP 27 #[.agg #[i6 k,i6 t,i6 n,.slice (some ⟨g,off,none⟩) kids.length cc]] w fun e w'=>∃n:Int,e=.returned (.int .i64 n)∧Bw w w':=by
 have hp:=Hp.nil w;have hB:=Below.refl w.heap.size w;have mz:=hk.fit;have JC:=hk.sm;refine fe Tryz.func27 Tryz.ntmps27 ?_;refine go ?_;refine ic fun g1 w2 n3 hp ai hB=>?_;refine ak (i6 (wrap64 (1+(kids.length:Int)))) (aC rfl rfl rfl) ?_;refine cT (fun m' a' w'=>∃(i:Nat) (nn:Int) (u9 qO lW r9 lj kt iD u16 iL ig jd je iE iF iG kK k3 nA nC:Value),a'=(fR #[.agg #[i6 k,i6 t,i6 n,.slice (some ⟨g,off,none⟩) kids.length cc],pA g1 0,i6 0,i6 nn,i6 (i:Int),pA g1 3,.slice (some ⟨g,off,none⟩) kids.length cc,i6 (kids.length:Int),i6 (wrap64 (1+(kids.length:Int))),u9,qO,lW,r9,lj,kt,iD,u16,iL,ig,jd,je,iE,iF,iG,kK,k3,nA,nC,undef])∧m'=kids.length-i∧Hp w' [(g1,#[i6 k,i6 t,i6 n,.slice (some ⟨g,off,none⟩) kids.length cc],36)]∧Bw w w'∧i≤kids.length) _ ⟨0,wrap64 (1+(kids.length:Int)),undef,undef,undef,undef,undef,undef,undef,undef,undef,undef,undef,undef,undef,undef,undef,undef,undef,undef,undef,rfl,rfl,hp,hB,(ayP _)⟩ ?_;rintro m5 _ w4 ⟨i,nn,u9,qO,lW,r9,lj,kt,iD,u16,iL,ig,jd,je,iE,iF,iG,kK,k3,nA,nC,rfl,rfl,hp,hB,hi⟩;refine go ?_;by_cases c6:(i:Int)<(kids.length:Int)
 ·obtain⟨x,hx⟩:∃x,kids[i]?=some x:=⟨_,ayq om⟩;have F8:=hk.at_ i x hx;refine go ?_;by_cases c7:nn<300;·refine go ?_;refine ak (pA g (off+i*4)) (cX (l:=kids.length) (j:=(i:Int)) (off:=off) (sz:=4) U34 kr rfl rfl om om om) ?_;refine ak (.agg (arr.extract (off+i*4) (off+i*4+4))) (qt (i:=off+i*4) (n:=4) (hk.below hB).fA rfl om U36 kr rfl) ?_;refine ce (IH x (ayw hx) _ Z _ (F8.under hB)) ?_;rintro _ w9 ⟨r8,rfl,fD⟩;refine⟨_,rfl,ab ?_⟩;have hp:=hp.below fD;have hB:=U hB fD;refine ak (i6 (wrap64 (nn+r8))) (aC rfl rfl rfl) ?_;refine ak (i6 ((i+1:Nat):Int)) (aC (m:=(i:Int)) (n:=1) (s:=((i+1:Nat):Int)) rfl rfl (by unfold wrap64;omega)) ?_;exact⟨_,om,i+1,wrap64 (nn+r8),_,_,_,_,_,_,_,_,_,_,_,_,_,_,_,_,_,_,_,rfl,rfl,hp,hB,om⟩
  refine go ?_;refine p1 ?_;exact⟨_,rfl,hB⟩
 refine go ?_;refine p1 ?_;exact⟨_,rfl,hB⟩
theorem adi(c:bn):SW c:=by
 refine bn.ind (P:=SW) (fun c IH=>?_) c;intro w Z cs hc;rcases hc.parts with⟨k,t,n,b,rfl,rfl⟩|⟨k,t,n,kids,g,off,cc,arr,ty,rfl,rfl,hk⟩;·exact SX k t n
 ·exact SY hk IH k t n
theorem Xc:CP 8 #[.slice b 0 0] w fun e w'=>∃b:Bool,e=.returned (.bool b)∧Bw w w':=by have hp:=Hp.nil w;have hB:=Below.refl w.heap.size w;refine fe Tryz.func8 Tryz.ntmps8 ?_;refine go ?_;refine iR 1 ?_;refine go ?_;refine p1 ?_;exact⟨_,rfl,hB⟩
theorem adj{l:List rb}(hl:xD w Z g off c arr ty l):CP 8 #[.slice (some ⟨g,off,none⟩) l.length c] w fun e w'=>∃b:Bool,e=.returned (.bool b)∧Bw w w':=by
 have hp:=Hp.nil w;have hB:=Below.refl w.heap.size w;have mz:=hl.fit;refine fe Tryz.func8 Tryz.ntmps8 ?_;refine go ?_;refine cT (fun m' a' w'=>∃(i:Nat) (nn:Int) (u2 u5 u6 u7 u8 u9 qO lW r9 lj kt iD u16 iL ig jd je iE iF iG kK k3:Value),a'=(fR #[.slice (some ⟨g,off,none⟩) l.length c,undef,u2,i6 nn,i6 (i:Int),u5,u6,u7,u8,u9,qO,lW,r9,lj,kt,iD,u16,iL,ig,jd,je,iE,iF,iG,kK,k3])∧m'=l.length-i∧Hp w' []∧Bw w w'∧i≤l.length) _ ⟨0,0,.bool false,undef,undef,undef,undef,undef,undef,undef,undef,undef,undef,undef,undef,undef,undef,undef,undef,undef,undef,undef,undef,undef,rfl,rfl,hp,hB,(ayP _)⟩ ?_;rintro m2 _ w1 ⟨i,nn,u2,u5,u6,u7,u8,u9,qO,lW,r9,lj,kt,iD,u16,iL,ig,jd,je,iE,iF,iG,kK,k3,rfl,rfl,hp,hB,hi⟩;refine go ?_;by_cases c3:(i:Int)<(l.length:Int)
 ·obtain⟨x,hx⟩:∃x,l[i]?=some x:=⟨_,ayq om⟩;obtain⟨cs,hxe,F8⟩:=hl.at_ i x hx;have hU:=F8.size;refine go ?_;by_cases c4:(i:Int)<100
  ·refine go ?_;refine ak (pA g (off+i*50)) (cX (l:=l.length) (j:=(i:Int)) (off:=off) (sz:=50) U22 kr rfl rfl om om om) ?_;refine ak (.agg cs) (qt (i:=off+i*50+45) (n:=4) (hl.below hB).fA ((SV (j:=45) (k:=4) hxe (C0 hU) dd).trans (NG hU)) om U36 kr rfl) ?_;refine ce (adi x.e.call _ Z _ (F8.under hB)) ?_;rintro _ w6 ⟨r5,rfl,fD⟩;refine⟨_,rfl,ab ?_⟩;have hp:=hp.below fD;have hB:=U hB fD;refine ak (i6 (wrap64 (nn+r5))) (aC rfl rfl rfl) ?_;by_cases c7:(2000:Int)<wrap64 (nn+r5);·refine go ?_;refine p1 ?_;exact⟨_,rfl,hB⟩
   refine go ?_;refine ak (i6 ((i+1:Nat):Int)) (aC (m:=(i:Int)) (n:=1) (s:=((i+1:Nat):Int)) rfl rfl (by unfold wrap64;omega)) ?_;exact⟨_,om,i+1,wrap64 (nn+r5),_,_,_,_,_,_,_,_,_,_,_,_,_,_,_,_,_,_,_,_,_,_,rfl,rfl,hp,hB,om⟩
  refine go ?_;refine p1 ?_;exact⟨_,rfl,hB⟩
 refine go ?_;refine p1 ?_;exact⟨_,rfl,hB⟩
end
section
open Go.RowKit
variable{s:bM}{H:bn→bU}
def uF(s:bM):Nat→List iY×bM
 |0=>([],s)
 |i+1=>((uF s i).1++(jj (uF s i).2).1,(jj (uF s i).2).2)
theorem Ez{s:bM}(k:EK s):∀i,EK (uF s i).2
 |0=>k
 |i+1=>MM (Ez k i)
def xE(n:Int):Nat:=if n≤8 then n.toNat else 8
def aik(k:FuncId)(args:Array Value)(w:World)(col:Nat→Nat)(f:CF)(m:CV)(s:bM)(es:List iY)(err:Int)(s':bM):Prop:=CP k args w fun e w'=>∃col' m' v,e=.returned (.tuple #[v,.int .i64 err])∧Out w col m s w' col' f m' s'∧ix w w' col' v es∧es.length≤32000
def mX(H:bn→bU)(s:bM)(a:rb):(List iY×Int)×bM:=
 if a.n≤0 then(([],(jF H s a.e).1),(jF H s a.e).2)else(((uF s (xE a.n)).1,0),(uF s (xE a.n)).2)
theorem SZ(k:EK s)(a:rb):EK (mX H s a).2:=by
 unfold mX;split;·exact MO k a.e
 ·exact Ez k _
theorem S0{w:World}{col:Nat→Nat}{f:CF}{m:CV}(h:Ch w col f m s)(hH:Uz H)(ha:Bi w)(h1:col 1=0){a:rb}{cs:Array Value}(hc:bw w (fun b=>col b=0) cs a.e.call)(hk:EK s):aik 10 #[pA f.cp 0,.agg (pV a cs)] w col f m s ((mX H s a).1.1) ((mX H s a).1.2) ((mX H s a).2):=by
 have ho:Out w col m s w col f m s:=bV.start h;have hp:=Hp.nil w;have hU:=hc.size;refine fe Tryz.func10 Tryz.ntmps10 ?_;refine go ?_;refine lR (v:=.agg (pV a cs)) rfl (fun g1 w2 n3=>ab ?_);have n3:jr _ _ _ (pV a cs) _:=n3;have dq:=ayo ho.turns.size n3.fresh;obtain⟨dh,cF⟩:∃z,z=mark col g1:=⟨_,rfl⟩;have ho:=ho.new n3;rw[←cF]at ho;have cR:dh g1=7:=by rw[cF];exact dX
 have hp:=hp.new n3;refine go ?_;refine ak (i6 a.n) (ay (hp.at 0) (SU hU) U3 rfl) ?_;by_cases c5:a.n≤0;·refine go ?_;refine ak (.agg (cj a.e.kind a.e.dy a.e.iV a.e.n a.e.ref a.e.aa a.e.level a.e.sum a.e.bZ cs)) (aQ (i:=0) (n:=49) (hp.at 0) (SS hU) (by rw[C0 hU];decide) U38 kr rfl) ?_;have kk:Ks dh [(g1,7)]:=⟨cR,trivial⟩;refine jo (UN ho.ch hH (ha.turns ho.tn (by show ¬own (col 1);rw[h1];exact kU)) ((ho.fp 1 ha.lt).trans h1) (hc.out ho)) fun w6 HY m8 ho9 hp ho kk=>?_;refine p2 ?_;have e:mX H s a=(([],(jF H s a.e).1),(jF H s a.e).2):=if_pos c5;rw[e];exact⟨HY,m8,_,rfl,ho,ix.nil,ayP _⟩
 refine go ?_;refine cT (fun m' a' w'=>∃(i:Nat) (cA:Nat→Nat) (mA:CV) (bb:Option Addr) (nn:Nat) (cc:Nat) (iD u16 iL ig jd je iE iF iG kK k3 nA nC o3:Value),a'=(fR #[pA f.cp 0,.agg (pV a cs),undef,pA g1 0,.slice none 0 0,i6 0,.slice bb nn cc,i6 (i:Int),pA g1 49,i6 a.n,.bool false,undef,undef,undef,undef,iD,u16,iL,ig,jd,je,iE,iF,iG,kK,k3,nA,nC,o3,undef])∧m'=8-i∧Hp w' [(g1,(pV a cs),40)]∧i≤8∧(i:Int)≤a.n∧Out w col m s w' cA f mA (uF s i).2∧ix w w' cA (.slice bb nn cc) (uF s i).1∧(uF s i).1.length≤i*4000∧cA g1=7) _ ⟨0,dh,m,none,0,0,undef,undef,undef,undef,undef,undef,undef,undef,undef,undef,undef,undef,undef,undef,rfl,rfl,hp,(ayP _),om,ho,.nil,(ayP _),cR⟩ ?_;rintro DP _ o2 ⟨i,cA,mA,bb,nn,cc,iD,u16,iL,ig,jd,je,iE,iF,iG,kK,k3,nA,nC,o3,rfl,rfl,hp,hi,jU,ho,iv,hl,cR⟩;refine go ?_;refine ak (i6 a.n) (ay (hp.at 0) (SU hU) U3 rfl) ?_;by_cases iB:(i:Int)<a.n
 ·refine go ?_;by_cases ng:(i:Int)<8
  ·refine go ?_;have XK:=Ez hk i;have Zj:=IC ho.ch.inv.ll;refine ce (UT ho.ch XK.nc XK.now) ?_;rintro _ uH ⟨zO,m21,v14,rfl,P2,Xd⟩;refine⟨_,rfl,ab ?_⟩;have Xd:=Xd.since ho.turns.size;obtain⟨Xz,n16,Xw,rfl⟩:=Xd.sl;have iv:=iv.oU P2;have kk:Ks cA [(g1,7)]:=⟨cR,trivial⟩;obtain⟨hp,kk⟩:=mT P2 hp kk;have ho:=ho.trans P2;refine nY iv Xd ho.ch.bG ho.turns.size om rfl rfl (fun v23 AZ qK A26 ail=>?_) U26;refine ab ?_;obtain⟨hp,kk⟩:=aT A26 hp kk;have ho:=ho.j6 A26 (fun b _ q=>.inl q);obtain⟨TH,n29,yQ,rfl⟩:=ail.sl;refine go ?_;refine ak (i6 ((i+1:Nat):Int)) (aC (m:=(i:Int)) (n:=1) (s:=((i+1:Nat):Int)) rfl rfl (by unfold wrap64;omega)) ?_;have v8:(uF s (i+1)).1.length≤(i+1)*4000:=by show((uF s i).1++_).length≤_;rw[ayG];omega
   have cR:=kk.1;exact⟨_,om,i+1,qK,m21,TH,n29,yQ,_,_,_,_,_,_,_,_,_,_,_,_,_,_,rfl,rfl,hp,om,om,ho,ail,v8,cR⟩
  refine go ?_;refine p2 ?_;have ei:xE a.n=i:=by unfold xE;split<;>omega
  have e:mX H s a=(((uF s i).1,0),(uF s i).2):=by unfold mX;rw[if_neg c5,ei]
  rw[e];exact⟨cA,mA,_,rfl,ho,iv,by have:=hl;simp only;omega⟩
 refine go ?_;refine p2 ?_;have ei:xE a.n=i:=by unfold xE;split<;>omega
 have e:mX H s a=(((uF s i).1,0),(uF s i).2):=by unfold mX;rw[if_neg c5,ei]
 rw[e];exact⟨cA,mA,_,rfl,ho,iv,by have:=hl;simp only;omega⟩
end
section
open Go.RowKit Go.ChangeShapes
variable{i:Nat}
variable{H:Type}{enc:TypeId×Value→H}{w:World}{held:Bool}{fuel:Nat}{cs:List Value}{x:DataW H×List MemPlace}
noncomputable abbrev TR(enc:TypeId×Value→H)(w:World)(held:Bool)(fuel:Nat)(t:TypeId)(cs:List Value):=DataW.trod enc Tryz.prog w 0 (fun _=>true) held fuel t cs
theorem drop_take{α:Type}{l:List α}{n:Nat}{A:List α}(h:(l.drop i).take n=A):l.drop i=A++l.drop (i+n):=by rw[←h,←List.drop_drop,aAa]
theorem AY{t:TypeId}(hu:Tryz.prog.underlying t=some (.struct (Tryz.prog.fieldsOf t)))(h:TR enc w held fuel t cs=some x)(i t' off:Nat)(hi:((Tryz.prog.fieldsOf t)[i]?).map (fun f=>(f.type,f.offset))=some (t',off)):cs.length=Tryz.prog.cellsOf t∧∃n y,TR enc w held n t' ((cs.drop off).take (Tryz.prog.cellsOf t'))=some y:=by
 obtain⟨xs,n,rfl,hx,hlen,yf,hf⟩:=DataW.trod_struct hu h;obtain⟨f,hf1,yK⟩:=az5.1 hi;have:=hf i f hf1;simp only[azX]at yK;rw[yK.1,yK.2]at this;have gD:i<xs.length:=by rw[yf];exact(ayv.1 hf1).1
 exact⟨hlen,n,xs[i],this.trans (ayq gD)⟩
theorem iA{k:IntKind}{t:Nat}(hc:Tryz.prog.cellsOf t=1)(hu:Tryz.prog.underlying t=some (.int k))(h:TR enc w held fuel t ((cs.drop i).take (Tryz.prog.cellsOf t))=some x):∃n,cs.drop i=.int k n::cs.drop (i+1)∧(Lit.int k n).wf=true:=by rw[hc]at h;obtain⟨n,e,_,hw⟩:=DataW.trod_int hu h;exact⟨n,drop_take e,hw⟩
theorem NK(h:TR enc w held fuel 31 cs=some x):∃hs:bU,cs=eT hs:=by
 obtain⟨xs,m,rfl,hx,hlen,yf,hf⟩:=DataW.trod_array (n:=32) (e:=5) kr h;have Br:Tryz.prog.cellsOf 31=32:=by kernel_rfl
 rw[Br]at hlen
 have at_:∀i,i<32→∃b:UInt8,cs[i]?=some (.int .u8 b.toNat):=fun i hi=>by
  have h:=hf i hi;rw[show Tryz.prog.cellsOf 5=1 by kernel_rfl,aAs,ayq om]at h;obtain⟨n,e,_,hw⟩:=DataW.trod_int (k:=.u8) U5 h;have hb:0≤n∧n<256:=by simp[Lit.wf,IntKind.min,IntKind.max,IntKind.signed,IntKind.bits]at hw;omega
  refine⟨UInt8.ofNat n.toNat,?_⟩;have e2:cs[i]?=((cs.drop i).take 1)[0]?:=by simp[aAo,azi]
  rw[e2,e];simp only[List.getElem?_cons_zero,UInt8.toNat_ofNat'];rw[show((n.toNat%2^8:Nat):Int)=n by omega]
 let bs:=(List.range 32).map fun i=>if hi:i<32 then(at_ i hi).choose else 0
 refine⟨⟨bs,by simp[bs]⟩,?_⟩;apply azC;intro i;unfold eT;simp only[bs,ayL];by_cases hi:i<32;·rw[aAm hi,(at_ i hi).choose_spec];simp[dif_pos hi]
 ·rw[azW om,azW (by simp;omega)];rfl
theorem NL(h:TR enc w held fuel 33 cs=some x):∃v:cZ,cs=ks v:=by
 have hu:Tryz.prog.underlying 33=some (.struct (Tryz.prog.fieldsOf 33)):=by kernel_rfl
 have F:=AY hu h;obtain⟨hl,_,_,h0⟩:=F 0 3 0 kr;obtain⟨_,_,_,h1⟩:=F 1 4 1 kr;obtain⟨_,_,_,h2⟩:=F 2 3 2 kr;obtain⟨_,_,_,h3⟩:=F 3 3 3 kr;obtain⟨_,_,_,h4⟩:=F 4 3 4 kr;obtain⟨_,_,_,h5⟩:=F 5 3 5 kr;obtain⟨a0,e0,_⟩:=iA kY U3 h0;rw[show Tryz.prog.cellsOf 4=1 by kernel_rfl]at h1;obtain⟨a1,e1,_⟩:=DataW.trod_bool U4 h1;have e1:=drop_take e1;obtain⟨a2,e2,_⟩:=iA kY U3 h2;obtain⟨a3,e3,_⟩:=iA kY U3 h3;obtain⟨a4,e4,_⟩:=iA kY U3 h4;obtain⟨a5,e5,_⟩:=iA kY U3 h5;refine⟨⟨a0,a1,a2,a3,a4,a5⟩,?_⟩;have e6:cs.drop 6=[]:=azb (by rw[hl];exact ay4 kr);rw[show cs=cs.drop 0 from rfl,e0,e1,e2,e3,e4,e5,e6];rfl
theorem S6(h:TR enc w held fuel 38 cs=some x):∃(e:se) (c4:Array Value),cs=xd e.kind e.dy e.iV e.n e.ref e.aa e.level e.sum e.bZ c4∧bw w (fun b=>b<w.heap.size) c4 e.call:=by
 have hu:Tryz.prog.underlying 38=some (.struct (Tryz.prog.fieldsOf 38)):=by kernel_rfl
 have F:=AY hu h;obtain⟨hl,_,_,h0⟩:=F 0 3 0 kr;obtain⟨_,_,_,h1⟩:=F 1 3 1 kr;obtain⟨_,_,_,h2⟩:=F 2 3 2 kr;obtain⟨_,_,_,h3⟩:=F 3 3 3 kr;obtain⟨_,_,_,h4⟩:=F 4 3 4 kr;obtain⟨_,_,_,h5⟩:=F 5 3 5 kr;obtain⟨_,_,_,h6⟩:=F 6 3 6 kr;obtain⟨_,_,_,h7⟩:=F 7 31 7 kr;obtain⟨_,_,_,h8⟩:=F 8 33 39 kr;obtain⟨_,_,_,h9⟩:=F 9 36 45 kr;obtain⟨a0,e0,_⟩:=iA kY U3 h0;obtain⟨a1,e1,_⟩:=iA kY U3 h1;obtain⟨a2,e2,_⟩:=iA kY U3 h2;obtain⟨a3,e3,_⟩:=iA kY U3 h3;obtain⟨a4,e4,_⟩:=iA kY U3 h4;obtain⟨a5,e5,_⟩:=iA kY U3 h5;obtain⟨a6,e6,_⟩:=iA kY U3 h6;rw[show Tryz.prog.cellsOf 31=32 by kernel_rfl]at h7;rw[show Tryz.prog.cellsOf 33=6 by kernel_rfl]at h8;rw[EB]at h9;obtain⟨hs,e7⟩:=NK h7;have e7:=drop_take e7;obtain⟨v,e8⟩:=NL h8;have e8:=drop_take e8;obtain⟨c,hc⟩:=NJ _ _ _ h9;have e9:=drop_take (l:=cs) (i:=45) (n:=4) rfl;have e10:cs.drop 49=[]:=azb (by rw[hl];exact ay4 kr);refine⟨⟨a0,a1,a2,a3,a4,a5,a6,hs,v,c⟩,_,?_,hc⟩;show cs=xd a0 a1 a2 a3 a4 a5 a6 hs v _;unfold xd;rw[←azD ((cs.drop 45).take 4).toArray.toList,←e10];show cs=_;conv=>lhs;rw[show cs=cs.drop 0 from rfl,e0,e1,e2,e3,e4,e5,e6,e7,e8,e9]
 simp;exact ay4 (hl.trans kr)
theorem S7(h:TR enc w held fuel 40 cs=some x):∃(a:rb) (c4:Array Value),cs.toArray=pV a c4∧bw w (fun b=>b<w.heap.size) c4 a.e.call:=by
 have hu:Tryz.prog.underlying 40=some (.struct (Tryz.prog.fieldsOf 40)):=by kernel_rfl
 have F:=AY hu h;obtain⟨hl,_,_,h0⟩:=F 0 38 0 kr;obtain⟨_,_,_,h1⟩:=F 1 3 49 kr;rw[show Tryz.prog.cellsOf 38=49 by kernel_rfl]at h0;obtain⟨e,c4,q,hc⟩:=S6 h0;have q:=drop_take q;obtain⟨n,e1,_⟩:=iA kY U3 h1;have e2:cs.drop 50=[]:=azb (by rw[hl];exact ay4 kr);refine⟨⟨e,n⟩,c4,?_,hc⟩;have:cs=xd e.kind e.dy e.iV e.n e.ref e.aa e.level e.sum e.bZ c4++[.int .i64 n]:=by rw[show cs=cs.drop 0 from rfl,q,e1,e2]
 rw[this];unfold pV;show _=(cj _ _ _ _ _ _ _ _ _ _).push _;unfold cj;simp
theorem aeq(h:TR enc w held fuel 22 cs=some x):(∃b,cs=[.slice b 0 0])∨∃g off c arr ty l,cs=[.slice (some ⟨g,off,none⟩) l.length c]∧xD w (fun b=>b<w.heap.size) g off c arr ty l:=by
 have J3:Tryz.prog.cellsOf 40=50:=by kernel_rfl
 rcases DataW.trod_slice U22 h with⟨e3,_⟩|⟨a,len,cap,elems,rest,n2,EC,e3,_,_,hlc,hcm,hel,AX,S4,_⟩;·exact .inl ⟨none,e3⟩
 ·by_cases hl:len=0
  ·subst hl;by_cases hc0:cap=0;·subst hc0;exact .inl ⟨_,e3⟩
   ·have S4:=S4 rfl;rw[J3]at S4;have h:=S4.2 0 om;rw[ayq om]at h;obtain⟨c0,hc,_⟩:=aza.1 h;have ea:a.add ((0+0)*50)=a:=rfl;rw[ea]at hc;obtain⟨g,off,ea,arr,ty,hb,jv,_⟩:=sy hc dd;subst ea;exact .inr ⟨g,off,cap,arr,ty,[],e3,hb,by show off+0≤_;omega,ayP _,fun i x hx=>by simp at hx⟩
  ·rw[J3]at AX;have h:=AX 0 om;rw[ayq om]at h;obtain⟨c0,hc,_⟩:=aza.1 h;have ea:a.add (0*50)=a:=rfl;rw[ea]at hc;obtain⟨g,off,ea,arr,ty,hb,jv,_⟩:=sy hc dd;subst ea
   have one:∀i,i<len→off+i*50+50≤arr.size∧∃(a:rb) (c4:Array Value),arr.extract (off+i*50) (off+i*50+50)=pV a c4∧bw w (fun b=>b<w.heap.size) c4 a.e.call:=by
    intro i hi;have h:=AX i hi;rw[ayq om]at h;obtain⟨ci,hc,ht⟩:=aza.1 h;obtain⟨g',ju,ea,bW,ty',hb',adr,rfl⟩:=sy hc dd;rw[Addr.add_lit]at ea;cases ea;have he:bW=arr:=by obtain⟨f1,q1⟩:=hb;obtain⟨f2,q2⟩:=hb';rw[q1]at q2;cases q2;rfl
    subst he;obtain⟨a,c4,q,hc⟩:=S7 ht;exact⟨adr,a,c4,by rw[←q,azH],hc⟩
   have all:∃l:List rb,l.length=len∧∀(i:Nat) x,l[i]?=some x→∃c4,arr.extract (off+i*50) (off+i*50+50)=pV x c4∧bw w (fun b=>b<w.heap.size) c4 x.e.call:=by
    refine⟨(List.range len).pmap (fun i hi=>(one i hi).2.choose) (fun i hi=>aCR.1 hi),by simp,fun i x hx=>?_⟩;obtain⟨hi,rfl⟩:=ays.1 hx;have hi:i<len:=by simpa using hi
    rw[List.getElem_pmap];have:=(one i hi).2.choose_spec;simpa using this
   obtain⟨l,rfl,v8⟩:=all;have S5:=(one (l.length-1) om).1;exact .inr ⟨g,off,cap,arr,ty,l,e3,hb,by omega,hlc,v8⟩
end
section
open Go.RowKit
variable{fs:List (Int×Int)}{i j:Nat}{x y:Int×Int}{n a d:Int}{b s s':bM}{H:bn→bU}{l:List rb}
def adw(fs:List (Int×Int)):Int:=fs.foldr (fun x s=>x.1+x.2+s) 0
structure Fair(fs:List (Int×Int)):Prop where
 len:fs.length=10
 free:∀i,0≤(acc fs i).1
 held:∀i,0≤(acc fs i).2
 sum:adw fs=10000
theorem ade:∀(fs:List (Int×Int)) (i:Nat) (x:Int×Int),i<fs.length→adw (fs.set i x)=adw fs-((acc fs i).1+(acc fs i).2)+(x.1+x.2)
 |[],i,x,h=>by simp at h
 |y::fs,0,x,h=>by simp[adw,acc];omega
 |y::fs,i+1,x,h=>by have:=ade fs i x (by simpa using h);simp only[adw,acc,ayT,List.foldr_cons,List.getD_cons_succ]at*;omega
theorem adA:∀(fs:List (Int×Int)),(∀i,0≤(acc fs i).1)→(∀i,0≤(acc fs i).2)→∀i,0≤adw fs∧(acc fs i).1+(acc fs i).2≤adw fs
 |[],h1,h2,i=>by simp[adw,acc]
 |y::fs,h1,h2,i=>by
  have ih:=adA fs (fun i=>h1 (i+1)) (fun i=>h2 (i+1));have a1:=h1 0;have a2:=h2 0;cases i with
  |zero=>have:=ih 0;simp only[adw,acc,List.foldr_cons,List.getD_cons_zero]at*;omega
  |succ i=>have:=ih i;simp only[adw,acc,List.foldr_cons,List.getD_cons_zero,List.getD_cons_succ]at*;omega
theorem Fair.oM(h:Fair fs)(i:Nat):(acc fs i).1+(acc fs i).2≤10000:=by have:=(adA fs h.free h.held i).2;rw[h.sum]at this;exact this
theorem abc(hi:i<fs.length)(j:Nat):acc (fs.set i x) j=if i=j then x else acc fs j:=by
 unfold acc;simp only[ay5,aze];split;·rename_i e;subst e;simp[hi]
 ·rfl
theorem Fair.set(h:Fair fs)(hi:i<10)(hj:j<10)(hx:0≤x.1∧0≤x.2)(hy:0≤y.1∧0≤y.2)(hs:(acc fs i).1+(acc fs i).2+((acc (fs.set i x) j).1+(acc (fs.set i x) j).2)=x.1+x.2+(y.1+y.2)):Fair ((fs.set i x).set j y):=by
 have hl:=h.len;refine⟨by simpa using hl,fun k=>?_,fun k=>?_,?_⟩
 ·rw[abc (by simpa using(by omega:j<fs.length)),abc om];split;·exact hy.1
  ·split;·exact hx.1
   ·exact h.free k
 ·rw[abc (by simpa using(by omega:j<fs.length)),abc om];split;·exact hy.2
  ·split;·exact hx.2
   ·exact h.held k
 ·rw[ade _ _ _ (by simpa using(by omega:j<fs.length)),ade _ _ _ om,h.sum];omega
theorem adB(h0:-9223372036854775808≤n)(h1:n≤9223372036854775807):wrap64 n=n:=by unfold wrap64;omega
theorem aem{K:List ((Int×Int)×Int)}(h:dw fs K a n=0):Fc a=true∧0≤n∧n≤(acc fs a.toNat).1:=by
 unfold dw at h;split at h
 ·rename_i h1;split at h
  ·rename_i h2;have:=dC.1 h2;split at h;·cases h
   ·exact⟨h1,this.1,by omega⟩
  ·cases h
 ·cases h
structure aa6(fs fs':List (Int×Int))(d:Int):Prop where
 fair:Fair fs→Fair fs'
 ae3:Fair fs→(acc fs' 0).1=(acc fs 0).1+d
theorem aa6.refl(fs:List (Int×Int)):aa6 fs fs 0:=⟨id,fun _=>by omega⟩
theorem aa6.trans{a b c:List (Int×Int)}{e:Int}(h:aa6 a b d)(k:aa6 b c e):aa6 a c (d+e):=⟨fun q=>k.fair (h.fair q),fun q=>by rw[k.ae3 (h.fair q),h.ae3 q];omega⟩
theorem ads(hi:i<10)(hj:j<10)(h:Fair fs→(0≤x.1∧0≤x.2)∧(0≤y.1∧0≤y.2)∧((acc fs i).1+(acc fs i).2+((acc (fs.set i x) j).1+(acc (fs.set i x) j).2)=x.1+x.2+(y.1+y.2))∧(if j=0 then y.1 else if i=0 then x.1 else(acc fs 0).1)=(acc fs 0).1+d):aa6 fs ((fs.set i x).set j y) d:=⟨fun q=>q.set hi hj (h q).1 (h q).2.1 (h q).2.2.1,fun q=>by
 have hl:=q.len;rw[abc (by simpa using(by omega:j<fs.length)),abc om,←(h q).2.2.2];split;·rfl
 ·split<;>rfl⟩
theorem adD(fs:List (Int×Int))(K:List ((Int×Int)×Int))(n:Int)(ha:a≠0):aa6 fs (ir fs K a n) 0:=by
 unfold ir;split
 ·rename_i h;obtain⟨h1,h2,h3⟩:=aem h;have gD:=jg h1;have C9:0≤a:=(of_decide_eq_true h1).1;have fC:¬a.toNat=0:=by omega
  refine ads gD gD fun q=>?_;have hm:=q.oM a.toNat;have hf:=q.free a.toNat;have hh:=q.held a.toNat;have hl:=q.len;have e:∀z,acc (fs.set a.toNat z) a.toNat=z:=fun z=>by rw[abc om,if_pos rfl]
  simp only[afy,e,fC,if_false];rw[adB om om,adB om om];refine⟨⟨by omega,hh⟩,⟨by omega,by omega⟩,by omega,by omega⟩
 ·exact aa6.refl fs
theorem aen(h:Fair fs)(a n:Int):0≤dV fs a n∧dV fs a n≤(acc fs a.toNat).2∧(Fc a=false→dV fs a n=0):=by
 have:=h.held a.toNat;unfold dV;split;·rename_i q;rw[q];refine⟨?_,?_,fun e=>(by cases e)⟩<;>unfold mx mn<;>(split<;>split)<;>omega
 ·exact⟨aAk 0,this,fun _=>rfl⟩
theorem adx(fs:List (Int×Int))(a n:Int){b:Nat}(hb:b<10):aa6 fs (if 0<dV fs a n then aaq (iN fs a n) b (dV fs a n)else iN fs a n) (if b=0 then dV fs a n else 0):=by
 by_cases h1:Fc a=true
 ·have gD:=jg h1;have etx:iN fs a n=alW fs a.toNat (dV fs a n):=if_pos h1;rw[etx];by_cases h0:0<dV fs a n
  ·rw[if_pos h0];refine ads gD hb fun q=>?_;obtain⟨t0,t1,_⟩:=aen q a n;have hm:=q.oM a.toNat;have hf:=q.free a.toNat;have hh:=q.held a.toNat;have ZB:=q.oM b;have hfb:=q.free b;have hhb:=q.held b;have hl:=q.len;have e:∀z,acc (fs.set a.toNat z) b=if a.toNat=b then z else acc fs b:=fun z=>abc om b
   simp only[alW,e];rw[adB (n:=(acc fs a.toNat).2-_) om om];by_cases abx:a.toNat=b
   ·simp only[abx,if_true]at*;rw[adB om om];refine⟨⟨hf,by omega⟩,⟨by omega,by omega⟩,by omega,?_⟩;by_cases b0:b=0;·simp[b0]
    ·simp[b0]
   ·simp only[abx,if_false];have yJ:(acc fs a.toNat).1+(acc fs a.toNat).2≤10000:=hm;rw[adB om om];refine⟨⟨hf,by omega⟩,⟨by omega,hhb⟩,by omega,?_⟩;by_cases b0:b=0;·simp[b0]
    ·simp only[b0,if_false];split;·rename_i z;rw[z];simp
     ·simp
  ·rw[if_neg h0];have key:∀q:Fair fs,dV fs a n=0:=fun q=>by have:=(aen q a n).1;omega
   have:∀q:Fair fs,alW fs a.toNat (dV fs a n)=fs:=fun q=>by
    rw[key q];unfold alW;have hm:=q.oM a.toNat;have hf:=q.free a.toNat;have hh:=q.held a.toNat;rw[adB om om,show(acc fs a.toNat).2-0=(acc fs a.toNat).2 by omega];apply azC;intro j;rw[aze];split;·rename_i e;subst e;rw[if_pos (by rw[q.len];exact gD)];unfold acc;rw[ay5,ayq (by rw[q.len];exact gD)];rfl
    ·rfl
   refine⟨fun q=>by rw[this q];exact q,fun q=>by rw[this q,key q];split<;>omega⟩
 ·have etx:iN fs a n=fs:=if_neg h1;have e0:dV fs a n=0:=if_neg h1;rw[etx,e0,if_neg om];refine⟨id,fun _=>by split<;>omega⟩
theorem aa0(fs:List (Int×Int))(n:Int)(ha:a≠0):aa6 fs (jB fs a n) 0:=by
 by_cases h1:Fc a=true;·have C9:0≤a:=(of_decide_eq_true h1).1;have:=adx fs a n (jg h1);rw[if_neg (show ¬a.toNat=0 by omega)]at this;exact this
 ·unfold jB;have etx:iN fs a n=fs:=if_neg h1;have e0:dV fs a n=0:=if_neg h1;rw[etx,e0,if_neg om];exact aa6.refl fs
theorem abB(fs:List (Int×Int))(a n:Int):aa6 fs (oP fs a n) (dV fs a n):=by have:=adx fs a n (show 0<10 by omega);rwa[if_pos rfl]at this
theorem abT(fs:List (Int×Int))(K:List ((Int×Int)×Int))(a b n:Int):∃d,aa6 fs (fg fs K a b n) d∧(a≠0→0≤d)∧(a=0→iu fs K a b n=0→d=if b=0 then 0 else-n)∧(a=0→iu fs K a b n≠0→d=0):=by
 unfold fg iu;by_cases hb:Fc b=true
 ·rw[if_pos hb,if_pos hb];by_cases h:dw fs K a n=0
  ·rw[if_pos h,h];obtain⟨h1,h2,h3⟩:=aem h;have gD:=jg h1;have C9:0≤a:=(of_decide_eq_true h1).1;have aiX:=jg hb;have ai9:0≤b:=(of_decide_eq_true hb).1;refine⟨if b=0 then(if a=0 then 0 else n)else if a=0 then-n else 0,ads gD aiX fun q=>?_,fun ha=>?_,fun ha _=>?_,fun ha h0=>?_⟩
   ·have hm:=q.oM a.toNat;have hf:=q.free a.toNat;have hh:=q.held a.toNat;have ZB:=q.oM b.toNat;have hfb:=q.free b.toNat;have hhb:=q.held b.toNat;have hl:=q.len;have e:∀z,acc (fs.set a.toNat z) b.toNat=if a.toNat=b.toNat then z else acc fs b.toNat:=fun z=>abc om _
    simp only[afy,e];rw[adB (n:=(acc fs a.toNat).1-_) om om];by_cases abx:a.toNat=b.toNat
    ·have:a=b:=by omega
     subst this;simp only[if_true];rw[adB om om];refine⟨⟨by omega,hh⟩,⟨by omega,hh⟩,by omega,?_⟩;by_cases a0:a=0;·subst a0;simp
     ·have:¬a.toNat=0:=by omega
      simp[a0,this]
    ·simp only[abx,if_false];have yJ:=adA fs q.free q.held;rw[adB om om];refine⟨⟨by omega,hh⟩,⟨by omega,hhb⟩,by omega,?_⟩;by_cases b0:b=0
     ·subst b0;have:¬a=0:=by omega
      simp[this]
     ·have:¬b.toNat=0:=by omega
      by_cases a0:a=0;·subst a0;simp[b0,this];omega
      ·have z:¬a.toNat=0:=by omega
       simp[b0,this,a0,z]
   ·rw[if_neg ha,if_neg ha];split<;>omega
   ·subst ha;split<;>simp
   ·simp at h0
  ·rw[if_neg h];refine⟨0,aa6.refl fs,fun _=>aAk 0,fun ha h0=>?_,fun _ _=>rfl⟩;split at h0
   ·split at h0;·rename_i e;rw[←e,ha];rfl
    ·cases h0
   ·exact absurd h0 h
 ·rw[if_neg hb,if_neg hb];exact⟨0,aa6.refl fs,fun _=>aAk 0,fun _ h0=>absurd h0 dd,fun _ _=>rfl⟩
def aaB:Int→List iY→Int
 |p,[]=>p
 |p,e::l=>aaB (if e.k=3 then if e.a=0 then p else wrap64 (p+e.b)else p) l
def aaP:Int→List iY→Int
 |p,[]=>p
 |p,e::l=>aaP (if e.k=3 then p else if e.k=6 then wrap64 (p+e.b)else p) l
def abw(s:bM):Int:=(iU s.fs 0).1.1
theorem abG(s:bM):abw s=(acc s.fs 0).1:=by unfold abw iU acc;rw[if_pos om];rfl
def adt(e:iY):Int:=if e.k=3 then if e.a=0 then 0 else-e.b else if e.k=6 then e.b else 0
def wB:List iY→Int
 |[]=>0
 |e::l=>adt e+wB l
theorem afD(a b:List iY):wB (a++b)=wB a+wB b:=by
 induction a with
 |nil=>simp[wB]
 |cons e a ih=>simp only[azh,wB,ih];omega
theorem adE(x:Int):∃k:Int,wrap64 x=x+k*18446744073709551616:=⟨-((x+9223372036854775808)/18446744073709551616),by unfold wrap64;omega⟩
theorem acm:∀(l:List iY) (p c:Int),∃k:Int,aaP c l-aaB p l=c-p+wB l+k*18446744073709551616
 |[],p,c=>⟨0,by simp[aaB,aaP,wB]⟩
 |e::l,p,c=>by
  simp only[aaB,aaP,wB,adt];by_cases h3:e.k=3
  ·rw[if_pos h3,if_pos h3,if_pos h3];by_cases h0:e.a=0;·rw[if_pos h0,if_pos h0];obtain⟨k,hk⟩:=acm l p c;exact⟨k,by omega⟩
   ·rw[if_neg h0,if_neg h0];obtain⟨k,hk⟩:=acm l (wrap64 (p+e.b)) c;obtain⟨j,hj⟩:=adE (p+e.b);exact⟨k-j,by omega⟩
  ·rw[if_neg h3,if_neg h3,if_neg h3];by_cases h6:e.k=6;·rw[if_pos h6,if_pos h6];obtain⟨k,hk⟩:=acm l p (wrap64 (c+e.b));obtain⟨j,hj⟩:=adE (c+e.b);exact⟨k+j,by omega⟩
   ·rw[if_neg h6,if_neg h6];obtain⟨k,hk⟩:=acm l p c;exact⟨k,by omega⟩
structure Pay(s:bM)(es:List iY)(s':bM):Prop where
 turn:aa6 s.fs s'.fs (wB es)
 big:∀e∈es,e.k=3→e.b≤1000
theorem Pay.trans{a c:bM}{x y:List iY}(h:Pay a x b)(k:Pay b y c):Pay a (x++y) c:=⟨by rw[afD];exact h.turn.trans k.turn,fun e he=>(azk.1 he).elim (h.big e) (k.big e)⟩
theorem Pay.same(h:s'.fs=s.fs):Pay s [] s':=⟨by rw[h];exact aa6.refl _,fun e he=>by cases he⟩
theorem Pay.one{e:iY}(h:s'.fs=s.fs)(h3:e.k≠3)(h6:e.k≠6):Pay s [e] s':=⟨by rw[h];simp only[wB,adt,if_neg h3,if_neg h6];exact aa6.refl _,fun x hx q=>by simp at hx;subst hx;exact absurd q h3⟩
theorem Pay.thn{a:bM}{es:List iY}(h:Pay s es a)(k:b.fs=a.fs):Pay s es b:=⟨by rw[k];exact h.turn,h.big⟩
theorem afE(of_:Int):(dt of_).cap≤1000:=by unfold dt NV;split<;>(try split)<;>simp[tr0,tr1]<;>decide
theorem aeC(s:bM){cap:Int}(hc:cap≤1000)(t n:Int):Pay s (gZ s cap t n).1.1 (gZ s cap t n).2:=by
 unfold gZ;obtain⟨d,ht,_,h0,h1⟩:=abT s.fs s.K 0 t n;split;·exact Pay.same rfl
 ·split
  ·rename_i hcn he;have hd:=h0 rfl he;refine⟨?_,fun e q _=>by simp at q;subst q;show n≤1000;omega⟩;show aa6 s.fs (fg s.fs s.K 0 t n) (wB [⟨3,t,n⟩]);have e:wB [⟨3,t,n⟩]=d:=by rw[hd];simp[wB,adt]
   rw[e];exact ht
  ·rename_i he;have hd:=h1 rfl he;refine⟨?_,fun e q=>by cases q⟩;show aa6 s.fs (fg s.fs s.K 0 t n) 0;subst hd;exact ht
theorem aep(s:bM)(i now:Int):Pay s (eZ s i now).1.1 (eZ s i now).2:=by
 unfold eZ;split;·exact Pay.same rfl
 ·split;·exact Pay.one rfl (by simp) (by simp)
  ·exact Pay.same rfl
theorem ae6(s:bM)(i now:Int):Pay s (i9 s i now).1.1 (i9 s i now).2:=by
 unfold i9;split;·exact Pay.same rfl
 ·rename_i x _;split
  ·refine⟨?_,fun e q q3=>?_⟩
   ·show aa6 s.fs (FI s x) (wB (⟨1,i,6⟩::B0 s x));have e1:wB (⟨1,i,6⟩::B0 s x)=wB (B0 s x):=by simp[wB,adt]
    rw[e1];unfold FI B0;rw[afD];have e6:∀a b,wB [(⟨6,a,b⟩:iY)]=b:=fun a b=>by simp[wB,adt]
    by_cases hp:x.put=true
    ·simp only[hp,if_true,e6];by_cases hb:x.aP=-1;·simp only[hb,if_true,wB,Int.add_zero];exact abB _ _ _
     ·simp only[hb,if_false,e6];exact(abB _ _ _).trans (abB _ _ _)
    ·simp only[hp,if_false,Bool.false_eq_true,wB,Int.zero_add];by_cases hb:x.aP=-1;·simp only[hb,if_true,wB];exact aa6.refl _
     ·simp only[hb,if_false];have:=abB s.fs x.aP (dt x.aa).cU;simpa[wB,adt]using this
   ·exfalso;simp only[B0]at q;rcases ayE.1 q with q|q;·subst q;cases q3
    ·rcases azk.1 q with q|q
     ·split at q;·simp at q;subst q;cases q3
      ·cases q
     ·split at q;·cases q
      ·simp at q;subst q;cases q3
  ·exact Pay.same rfl
def afF(c:bn):Prop:=∀(o now:Int) (s:bM),Pay s (aX o now c s).1.1 (aX o now c s).2
theorem adu(o now:Int):∀(l:List bn) (out:List iY) (s:bM),(∀c∈l,afF c)→∃es,(dG o now l out s).1.1=out++es∧Pay s es (dG o now l out s).2
 |[],out,s,_=>⟨[],by rw[dG];simp,by rw[dG];exact Pay.same rfl⟩
 |c::l,out,s,h=>by
  rw[dG];have hc:=h c (azs ..) o now s;split;·obtain⟨es,h1,h2⟩:=adu o now l (out++(aX o now c s).1.1) (aX o now c s).2 (fun c q=>h c (ay6 _ q));exact⟨(aX o now c s).1.1++es,by rw[h1,azK],hc.trans h2⟩
  ·exact⟨_,rfl,hc⟩
theorem ae7(c:bn):afF c:=by
 refine bn.ind (P:=afF) (fun c IH=>?_) c;intro o now s;cases c with
 |mk k t n l=>
  rw[aX];split;·exact Pay.one rfl (by simp) (by simp)
  ·split;·exact aeC s (afE o) t n
   ·split;·obtain⟨es,h1,h2⟩:=adu o now l [] s IH;rw[h1];exact h2
    ·split
     ·split;·exact Pay.same rfl
      ·exact aep s n now
     ·split;·exact Pay.same rfl
      ·exact ae6 s n now
theorem afH(s:bM)(c:bn)(o now:Int):Pay s (oz s c o now).1.1 (oz s c o now).2:=by
 unfold oz;split
 ·split;·exact ae7 c o now s
  ·exact Pay.same rfl
 ·exact Pay.same rfl
theorem ab7(s:bM)(h:bU):(fb s h).fs=s.fs:=by unfold fb;split<;>rfl
theorem aiP(s:bM)(h:bU):(Gb s h).fs=s.fs:=rfl
theorem afe(s:bM)(e:iY):(mL s e).fs=s.fs:=by
 unfold mL;split
 ·split;·rfl
  ·exact ab7 _ _
 ·rfl
theorem acu:∀(es:List iY) (s:bM),(bz s es).fs=s.fs
 |[],s=>rfl
 |e::es,s=>(acu es (mL s e)).trans (afe s e)
theorem aeU(s:bM)(t:cS):Pay s (eA s t).1 (eA s t).2:=by
 unfold eA;split;·exact Pay.one (ab7 _ _) (by simp) (by simp)
 ·exact((afH s _ t.aa s.now).trans (Pay.one (s':=(oz s _ t.aa s.now).2) (e:=⟨2,t.name,_⟩) rfl (by simp) (by simp))).thn (by rw[ab7,acu])
theorem ady{s:bM}:∀(l:List cS) (a:List iY×bM),Pay s a.1 a.2→Pay s (l.foldl oX a).1 (l.foldl oX a).2
 |[],a,h=>h
 |t::l,a,h=>ady l (oX a t) (h.trans (aeU a.2 t))
theorem afK(now:Int)(s:bM)(i:Int):(ux now s i).fs=s.fs:=by unfold ux;split<;>rfl
theorem adF(now:Int):∀(l:List Int) (s:bM),(l.foldl (ux now) s).fs=s.fs
 |[],s=>rfl
 |i::l,s=>(adF now l (ux now s i)).trans (afK now s i)
theorem afj(now:Int)(a:bM×List iY)(e:(Int×Int)×aY)(h:Pay s a.2 a.1):Pay s (mh now a e).2 (mh now a e).1:=by
 unfold mh;split
 ·simp only;split;·exact h.thn rfl
  ·exact(h.trans (Pay.one (s':=a.1) (e:=⟨1,e.1.2,_⟩) rfl (by simp) (by simp))).thn rfl
 ·exact h
theorem aer{s:bM}(now:Int):∀(l:List ((Int×Int)×aY)) (a:bM×List iY),Pay s a.2 a.1→Pay s (l.foldl (mh now) a).2 (l.foldl (mh now) a).1
 |[],a,h=>h
 |e::l,a,h=>aer now l (mh now a e) (afj now a e h)
theorem adG(s:bM)(now:Int):Pay s (fW s now).2 (fW s now).1:=by unfold fW aA;exact aer now _ _ (Pay.same ((adF now _ _).trans (adF now _ _)))
theorem aeX(s:bM):Pay s (jj s).1 (jj s).2:=by
 unfold jj;split;·exact Pay.same rfl
 ·simp only;have h1:=ady (s:=s) (lM (s.cq (s.now+1))) ([],qB (s.cq (s.now+1))) (Pay.same rfl);exact(h1.trans (adG _ _)).thn (acu _ _)
theorem aes(s:bM):∀i,Pay s (uF s i).1 (uF s i).2
 |0=>Pay.same rfl
 |i+1=>(aes s i).trans (aeX _)
def UpS(s s':bM):Prop:=∃d,0≤d∧aa6 s.fs s'.fs d
theorem UpS.same(h:s'.fs=s.fs):UpS s s':=⟨0,aAk 0,by rw[h];exact aa6.refl _⟩
theorem UpS.res(ha:a≠0)(h:s'.fs=ir s.fs s.K a n):UpS s s':=⟨0,aAk 0,by rw[h];exact adD _ _ _ ha⟩
theorem UpS.rel(ha:a≠0)(h:s'.fs=jB s.fs a n):UpS s s':=⟨0,aAk 0,by rw[h];exact aa0 _ _ ha⟩
theorem UpS.thn{a:bM}(h:UpS s a)(k:b.fs=a.fs):UpS s b:=let⟨d,h1,h2⟩:=h;⟨d,h1,by rw[k];exact h2⟩
theorem aeY{x:aY}(ha:a≠0)(h:s'.fs=eX s x a):UpS s s':=by
 refine⟨0,aAk 0,?_⟩;rw[h];unfold eX;split
 ·split;·have:=(aa0 s.fs 10 ha).trans (aa0 (jB s.fs a 10) (dt x.aa).cU ha);simpa using this
  ·exact aa0 _ _ ha
 ·split;·exact aa0 _ _ ha
  ·exact aa6.refl _
theorem afk(s:bM)(e:se):(oY s e).2.fs=s.fs:=by
 unfold oY;split
 ·unfold mS;repeat' split
  all_goals rfl
 ·split
  ·unfold kQ;repeat' split
   all_goals rfl
  ·split
   ·unfold fh;repeat' split
    all_goals rfl
   ·split
    ·unfold gO;repeat' split
     all_goals rfl
    ·unfold kR;repeat' split
     all_goals rfl
theorem adv(s:bM)(ha:a≠0)(t:Int)(h:bU)(n now:Int):UpS s (gm s a t h n now).2:=by
 unfold gm;repeat' split
 all_goals first|exact UpS.same rfl|exact UpS.res ha rfl
theorem adz(H:bn→bU)(s:bM)(e:se)(ha:e.dy≠0):UpS s (jF H s e).2:=by
 unfold jF;split
 ·split;·obtain⟨d,ht,h0,_⟩:=abT s.fs s.K e.dy e.iV e.n;exact⟨d,h0 ha,ht⟩
  ·split
   ·unfold de;repeat' split
    all_goals first|exact UpS.same rfl|exact UpS.res ha rfl
   ·split
    ·unfold nt;repeat' split
     all_goals first|exact UpS.same rfl|exact UpS.rel ha rfl
    ·split
     ·unfold qC;show UpS s (if _ then _ else _);split;·exact(adv s ha _ _ _ _).thn rfl
      ·exact adv s ha _ _ _ _
     ·split
      ·unfold j7;repeat' split
       all_goals first|exact UpS.same rfl|exact UpS.res ha rfl
      ·split
       ·unfold eu;repeat' split
        all_goals first|exact UpS.same rfl|exact aeY ha rfl
       ·exact UpS.same (afk s e)
 ·exact UpS.same rfl
structure SpL(s:bM)(x:rb):Prop where
 big:∀e∈(mX gT s x).1.1,e.k=3→e.b≤1000
 ext:x.n≤0→x.e.dy≠0→abw s≤abw (mX gT s x).2
 fA:¬x.n≤0→abw (mX gT s x).2=wrap64 (wrap64 (abw s-aaB 0 (mX gT s x).1.1)+aaP 0 (mX gT s x).1.1)
theorem ae4(hf:Fair s.fs)(x:rb):SpL s x∧(¬(x.n≤0∧x.e.dy=0)→Fair (mX gT s x).2.fs):=by
 unfold mX;by_cases h:x.n≤0
 ·have e:(if x.n≤0 then(([],(jF gT s x.e).1),(jF gT s x.e).2)else(((uF s (xE x.n)).1,0),(uF s (xE x.n)).2))=((([]:List iY),(jF gT s x.e).1),(jF gT s x.e).2):=if_pos h;refine⟨⟨?_,fun _ hw=>?_,fun q=>absurd h q⟩,fun q=>?_⟩;·unfold mX;rw[e];intro e q;cases q
  ·unfold mX;rw[e,abG,abG];obtain⟨d,h0,ht⟩:=adz gT s x.e hw;have:=ht.ae3 hf;show(acc s.fs 0).1≤(acc (jF gT s x.e).2.fs 0).1;omega
  ·rw[e];obtain⟨d,h0,ht⟩:=adz gT s x.e (fun z=>q ⟨h,z⟩);exact ht.fair hf
 ·have e:(if x.n≤0 then(([],(jF gT s x.e).1),(jF gT s x.e).2)else(((uF s (xE x.n)).1,0),(uF s (xE x.n)).2))=(((uF s (xE x.n)).1,0),(uF s (xE x.n)).2):=if_neg h;have hp:=aes s (xE x.n);have yK:=hp.turn.fair hf;refine⟨⟨?_,fun q=>absurd q h,fun _=>?_⟩,fun _=>by rw[e];exact yK⟩;·unfold mX;rw[e];exact hp.big
  ·unfold mX;rw[e,abG,abG];show(acc (uF s (xE x.n)).2.fs 0).1=wrap64 (wrap64 ((acc s.fs 0).1-aaB 0 (uF s (xE x.n)).1)+aaP 0 (uF s (xE x.n)).1);have ht:=hp.turn.ae3 hf;obtain⟨k,hk⟩:=acm (uF s (xE x.n)).1 0 0;obtain⟨j,hj⟩:=adE ((acc s.fs 0).1-aaB 0 (uF s (xE x.n)).1);have h1:=yK.oM 0;have h2:=yK.free 0;have h3:=yK.held 0;generalize (acc (uF s (xE x.n)).2.fs 0).1=A at*;generalize (acc (uF s (xE x.n)).2.fs 0).2=A2 at*;generalize (acc s.fs 0).1=B at*;generalize aaB 0 (uF s (xE x.n)).1=p at*;generalize aaP 0 (uF s (xE x.n)).1=c at*;generalize wB (uF s (xE x.n)).1=d at*;rw[hj];unfold wrap64;omega
def wA(H:bn→bU)(s:bM)(l:List rb)(i:Nat):bM:=(l.take i).foldl (fun s a=>if a.n≤0∧a.e.dy=0 then s else(mX H s a).2) s
theorem afO:wA H s l 0=s:=by unfold wA;rw[List.take_zero];rfl
theorem ab8{x:rb}(h:l[i]?=some x):wA H s l (i+1)=if x.n≤0∧x.e.dy=0 then wA H s l i else(mX H (wA H s l i) x).2:=by unfold wA;rw[ay1,h,azY];rfl
theorem aet(k:EK s)(l:List rb):∀i,EK (wA H s l i):=by
 intro i;unfold wA;generalize l.take i=l2;induction l2 generalizing s with
 |nil=>exact k
 |cons a l2 ih=>
  rw[aAl];split;·exact ih k
  ·exact ih (SZ k a)
theorem aeZ(k:Fair s.fs)(l:List rb):∀i,Fair (wA gT s l i).fs:=by
 intro i;unfold wA;generalize l.take i=l2;induction l2 generalizing s with
 |nil=>exact k
 |cons a l2 ih=>
  rw[aAl];split;·exact ih k
  ·rename_i h;exact ih ((ae4 k a).2 h)
end
section
open Go.RowKit
variable{v:Value}{cs:Array Value}{w w0 w2:World}{g:Nat}{ty:TypeId}{c1:Nat→Nat}{f1:CF}{m1:CV}{s1:bM}{b:Option Addr}{es:List iY}
theorem abf{A B:Array Value}{o n j:Nat}(h:A.extract o (o+n)=B)(hj:B[j]?=some v)(hs:B.size=n):A[o+j]?=some v:=by
 subst h;rw[ayz]at hj;split at hj;·exact hj
 ·cases hj
theorem afA{a:rb}(h:cs.size=4):(pV a cs)[1]?=some (.int .i64 a.e.dy):=by unfold pV;rw[azm,if_neg (by rw[aM h];decide)];exact j2
theorem ae5{t:TypeId}{a:Act}{o:Oper}{i:Nat}{x:Operand}{d:TypeDesc}(hB:j0 w g cs t)(hv:cs[i]?=some v)(hu:Tryz.prog.underlying ty=some d)(hx:a.eval x=.pointer (some ⟨g,i,none⟩))(hd:(match d with|.struct _|.array _ _=>true|_=>false)=false:=by rfl)(ho:o.op=.load ty x:=by rfl):(execOp a.eval o).run Tryz.prog w=.ok (.value v) w:=by unfold execOp;simp only[ho,hx,Instr.loadAt,Instr.sureAddr,Sem.run_bind,Sem.run_pure,Result.andThen_ok,apW hB hv hu hd]
theorem aiQ:EK dH:=⟨(fun _ h=>by cases h),aAk 0⟩
structure acX(w0 w:World)(c1:Nat→Nat)(f1:CF)(m1:CV)(s1:bM):Prop where
 h1:Ch w c1 f1 m1 s1
 z1:∀b,b<w0.heap.size→c1 b=0
 below:Bw w0 w
theorem acX.step(h:acX w0 w c1 f1 m1 s1)(hb:Bw w w2):acX w0 w2 c1 f1 m1 s1:=⟨h.h1.below hb,h.z1,U h.below hb⟩
theorem acX.one{c1':Nat→Nat}{m1':CV}{t:bM}(h:acX w0 w c1 f1 m1 s1)(k:Out w c1 m1 s1 w2 c1' f1 m1' t):acX w0 w2 c1' f1 m1' t:=by refine⟨k.ch,fun b q=>?_,⟨k.turns.os.trans h.below.os,k.turns.tape.trans h.below.tape,k.turns.output.trans h.below.output,ayo h.below.size k.turns.size,fun b hb=>(k.tn.block b (ayu hb h.below.size) (fun q=>by have q2:own (c1 b):=q;rw[h.z1 b hb]at q2;exact kU q2)).trans (h.below.block b hb)⟩⟩;have hs:=h.below.size;rw[k.fp b om];exact h.z1 b q
structure EvB(w:World)(b:Option Addr)(es:List iY):Prop where at_:∀(j:Nat) e,es[j]?=some e→∃g arr,b=some ⟨g,0,none⟩∧bH w g arr 70∧arr.extract (j*3) (j*3+3)=FE e∧j*3+3≤arr.size
theorem EvB.below(h:EvB w b es)(hb:Bw w w2):EvB w2 b es:=⟨fun j e q=>let⟨g,arr,h1,h2,h3,h4⟩:=h.at_ j e q;⟨g,arr,h1,h2.below hb,h3,h4⟩⟩
theorem ix.afT{col:Nat→Nat}(h:ix w0 w col v es):∃b c,v=.slice b es.length c∧EvB w b es:=by
 rcases h with⟨e1,e2⟩|⟨g1,c1,vK,e1,gV,lg,_⟩;·subst e1;subst e2;exact⟨none,0,rfl,⟨fun j e q=>by simp at q⟩⟩
 ·subst e1;exact⟨_,c1,rfl,⟨fun j e q=>⟨g1,vK,rfl,gV,lg.ext j e q,by have:=lg.le (i:=j) (by have:=(ays.1 q).1;omega);omega⟩⟩⟩
theorem afG(ha:Bi w):CB 7 #[.slice b 0 0] w (.bool true):=by
 have hp:=Hp.nil w;have hB:=Below.refl w.heap.size w;refine fe Tryz.func7 Tryz.ntmps7 ?_;refine go ?_;refine uc Tryz.func8 _ (Xc) ?_;rintro _ w1 ⟨bh,rfl,gU⟩;refine⟨_,rfl,ab ?_⟩;have hp:=hp.below gU;have hB:=U hB gU;cases bh;·refine go ?_;have adn:=hB.size;refine ce (AO (fun _=>0)) ?_;rintro _ w2 ⟨f1,c1,m1,rfl,fD,adm,fk⟩;refine⟨_,rfl,ab ?_⟩;have hp:=hp.below fD;have hB:=U hB fD;have hT:acX w w2 c1 f1 m1 dH:=⟨adm,fun b q=>fk b (ayu q adn),hB⟩;refine go ?_;refine iR 1 ?_;refine go ?_;refine ce (AP) ?_;rintro _ w3 ⟨rfl,eI⟩;refine⟨_,rfl,ab ?_⟩;have hp:=hp.below eI;have hT:=hT.step eI;have hB:=U hB eI;refine go ?_;refine p1 ?_;exact⟨rfl,hB⟩
 ·refine go ?_;refine p1 ?_;exact⟨rfl,hB⟩
theorem afQ{off c:Nat}{arr:Array Value}{l:List rb}(hl:xD w (fun b=>b<w.heap.size) g off c arr ty l)(ha:Bi w)(hS:∀(i:Nat) x,l[i]?=some x→SpL (wA gT dH l i) x):CB 7 #[.slice (some ⟨g,off,none⟩) l.length c] w (.bool true):=by
 have hp:=Hp.nil w;have hB:=Below.refl w.heap.size w;have mz:=hl.fit;refine fe Tryz.func7 Tryz.ntmps7 ?_;refine go ?_;refine uc Tryz.func8 _ (adj (hl.below hB)) ?_;rintro _ w1 ⟨bh,rfl,gU⟩;refine⟨_,rfl,ab ?_⟩;have hp:=hp.below gU;have hB:=U hB gU;cases bh
 ·refine go ?_;have adn:=hB.size;refine ce (AO (fun _=>0)) ?_;rintro _ w2 ⟨f1,c1,m1,rfl,fD,adm,fk⟩;refine⟨_,rfl,ab ?_⟩;have hp:=hp.below fD;have hB:=U hB fD;have hT:acX w w2 c1 f1 m1 dH:=⟨adm,fun b q=>fk b (ayu q adn),hB⟩;refine go ?_;refine cT (fun m' a' w'=>∃(i:Nat) (d1:Nat→Nat) (n1:CV) (u2 u5 u6 u7 u8 u9 qO lW iL ig jd je iE iF iG kK k3 nA nC o3 pk qI ru u32 rv ry Ce Cf FX FY FZ Cg Ci F0 F1 Cj Ck Cm Bt Bu uK tA tB tC Bc Bd Be Bf Bg tX vQ vR Gk xY xZ u64 x0 x1 x3 x4 x5 x6 Gl Gm KB KC YO YP YQ YR YS YT YU YV u83 u84 u85 u86 u87 u88 u89 u90 u91 u92 u93 u94 u95 u96 u97 u98 u99 af0 af1 af2 agd agh agi agm agn agw agx agC agD agV agZ:Value),a'=(fR #[.slice (some ⟨g,off,none⟩) l.length c,undef,u2,pA f1.cp 0,i6 (i:Int),u5,u6,u7,u8,u9,qO,lW,.slice (some ⟨g,off,none⟩) l.length c,.bool false,pA f1.cp 0,pA f1.cp 0,.bool false,iL,ig,jd,je,iE,iF,iG,kK,k3,nA,nC,o3,pk,qI,ru,u32,rv,ry,Ce,Cf,FX,FY,FZ,Cg,Ci,F0,F1,Cj,Ck,Cm,Bt,Bu,uK,tA,tB,tC,Bc,Bd,Be,Bf,Bg,tX,vQ,vR,Gk,xY,xZ,u64,x0,x1,x3,x4,x5,x6,Gl,Gm,KB,KC,YO,YP,YQ,YR,YS,YT,YU,YV,u83,u84,u85,u86,u87,u88,u89,u90,u91,u92,u93,u94,u95,u96,u97,u98,u99,af0,af1,af2,agd,agh,agi,agm,agn,agw,agx,agC,agD,agV,agZ,undef])∧m'=l.length-i∧Hp w' []∧Bw w w'∧i≤l.length∧acX w w' d1 f1 n1 (wA gT dH l i)) _ ⟨0,c1,m1,.bool false,undef,undef,undef,undef,undef,undef,undef,undef,undef,undef,undef,undef,undef,undef,undef,undef,undef,undef,undef,undef,undef,undef,undef,undef,undef,undef,undef,undef,undef,undef,undef,undef,undef,undef,undef,undef,undef,undef,undef,undef,undef,undef,undef,undef,undef,undef,undef,undef,undef,undef,undef,undef,undef,undef,undef,undef,undef,undef,undef,undef,undef,undef,undef,undef,undef,undef,undef,undef,undef,undef,undef,undef,undef,undef,undef,undef,undef,undef,undef,undef,undef,undef,undef,undef,undef,undef,undef,undef,undef,undef,undef,undef,undef,undef,undef,undef,undef,undef,undef,undef,undef,undef,undef,undef,rfl,rfl,hp,hB,(ayP _),(by rw[afO];exact hT)⟩ ?_;rintro m4 _ w3 ⟨i,d1,n1,u2,u5,u6,u7,u8,u9,qO,lW,iL,ig,jd,je,iE,iF,iG,kK,k3,HXx⟩;obtain⟨nA,nC,o3,pk,qI,ru,u32,rv,ry,Ce,Cf,FX,FY,FZ,Cg,Ci,F0,F1,Cj,Ck,HXx⟩:=HXx;obtain⟨Cm,Bt,Bu,uK,tA,tB,tC,Bc,Bd,Be,Bf,Bg,tX,vQ,vR,Gk,xY,xZ,u64,x0,HXx⟩:=HXx;obtain⟨x1,x3,x4,x5,x6,Gl,Gm,KB,KC,YO,YP,YQ,YR,YS,YT,YU,YV,u83,u84,u85,HXx⟩:=HXx;obtain⟨u86,u87,u88,u89,u90,u91,u92,u93,u94,u95,u96,u97,u98,u99,af0,af1,af2,agd,agh,agi,HXx⟩:=HXx;obtain⟨agm,agn,agw,agx,agC,agD,agV,agZ,rfl,rfl,hp,hB,hi,hT⟩:=HXx;refine go ?_;by_cases c5:(i:Int)<(l.length:Int)
  ·obtain⟨x,hx⟩:∃x,l[i]?=some x:=⟨_,ayq om⟩;obtain⟨cs,hxe,F8⟩:=hl.at_ i x hx;have hU:=F8.size;refine go ?_;by_cases c6:(i:Int)<100
   ·refine go ?_;refine ak (pA g (off+i*50)) (cX (l:=l.length) (j:=(i:Int)) (off:=off) (sz:=50) U22 kr rfl rfl om om om) ?_;refine ak (i6 x.n) (ae5 (hl.below hB).fA (abf hxe (SU hU) (C0 hU)) U3 rfl) ?_;by_cases c7:x.n≤0
    ·refine go ?_;refine ak (pA g (off+i*50)) (cX (l:=l.length) (j:=(i:Int)) (off:=off) (sz:=50) U22 kr rfl rfl om om om) ?_;refine ak (i6 x.e.dy) (ae5 (hl.below hB).fA (abf hxe (afA hU) (C0 hU)) U3 rfl) ?_;by_cases c8:x.e.dy=0
     ·refine go ?_;refine ak (i6 ((i+1:Nat):Int)) (aC (m:=(i:Int)) (n:=1) (s:=((i+1:Nat):Int)) rfl rfl (by unfold wrap64;omega)) ?_;have hT:acX w w3 d1 f1 n1 (wA gT dH l (i+1)):=by rw[ab8 hx,if_pos ⟨c7,c8⟩];exact hT
      exact⟨_,om,i+1,d1,n1,_,_,_,_,_,_,_,_,_,_,_,_,_,_,_,_,_,_,_,_,_,_,_,_,_,_,_,_,_,_,_,_,_,_,_,_,_,_,_,_,_,_,_,_,_,_,_,_,_,_,_,_,_,_,_,_,_,_,_,_,_,_,_,_,_,_,_,_,_,_,_,_,_,_,_,_,_,_,_,_,_,_,_,_,_,_,_,_,_,_,_,_,_,_,_,_,_,_,_,_,_,_,_,_,_,rfl,rfl,hp,hB,om,hT⟩
     refine go ?_;refine cC (qV (hT).h1) fun w9 nS hp hB=>?_;have hT:=hT.step nS;refine cC (oN (hT).h1.ij.ij 0) fun ot fY hp hB=>?_;have hT:=hT.step fY;refine ak (pA g (off+i*50)) (cX (l:=l.length) (j:=(i:Int)) (off:=off) (sz:=50) U22 kr rfl rfl om om om) ?_;refine ak (.agg (pV x cs)) (qt (i:=off+i*50) (n:=50) (hl.below hB).fA hxe om U40 kr rfl) ?_;have hcc:bw _ (fun b=>d1 b=0) cs x.e.call:=(F8.under hB).carry fun b a t hz q=>⟨q,hT.z1 b hz⟩;have XK:=aet (H:=gT) aiQ l i;have hL:=hS i x hx;refine ce (S0 (a:=x) hT.h1 aij (ha.below hB) (hT.z1 1 ha.lt) hcc XK) ?_;rintro _ oD ⟨c2,m2,v2,rfl,kox,ev,hes⟩;refine⟨_,rfl,ab ?_⟩;have hT:=hT.one kox;have hB:=hT.below;have hp:=Hp.nil oD;obtain⟨bb,cc,rfl,hE⟩:=ev.afT;generalize afR:(mX gT (wA gT dH l i) x).1.1=es at hes hE;refine go ?_;have ai6:es=[]:=by rw[←afR];unfold mX;rw[if_pos c7]
     refine iR 1 ?_;refine go ?_;refine ak (.bool false) (tH (m:=0) (n:=(es.length:Int)) rfl rfl (decide_eq_false (by rw[ai6];decide))) ?_;refine cC (qV (hT).h1) fun ui kM hp hB=>?_;have hT:=hT.step kM;have hE:=hE.below kM;refine cC (oN (hT).h1.ij.ij 0) fun qf ff hp hB=>?_;have hT:=hT.step ff;have hE:=hE.below ff;refine go ?_;refine ak (pA g (off+i*50)) (cX (l:=l.length) (j:=(i:Int)) (off:=off) (sz:=50) U22 kr rfl rfl om om om) ?_;refine ak (i6 x.n) (ae5 (hl.below hB).fA (abf hxe (SU hU) (C0 hU)) U3 rfl) ?_;refine ak (.bool false) (tH (m:=(abw (mX gT (wA gT dH l i) x).2)) (n:=(abw (wA gT dH l i))) rfl rfl (decide_eq_false (by have:=hL.ext c7 c8;omega))) ?_;refine ak (i6 ((i+1:Nat):Int)) (aC (m:=(i:Int)) (n:=1) (s:=((i+1:Nat):Int)) rfl rfl (by unfold wrap64;omega)) ?_;have hT:acX w qf c2 f1 m2 (wA gT dH l (i+1)):=by rw[ab8 hx,if_neg fun q=>c8 q.2];exact hT
     exact⟨_,om,i+1,c2,m2,_,_,_,_,_,_,_,_,_,_,_,_,_,_,_,_,_,_,_,_,_,_,_,_,_,_,_,_,_,_,_,_,_,_,_,_,_,_,_,_,_,_,_,_,_,_,_,_,_,_,_,_,_,_,_,_,_,_,_,_,_,_,_,_,_,_,_,_,_,_,_,_,_,_,_,_,_,_,_,_,_,_,_,_,_,_,_,_,_,_,_,_,_,_,_,_,_,_,_,_,_,_,_,_,_,rfl,rfl,hp,hB,om,hT⟩
    refine go ?_;refine cC (qV (hT).h1) fun s7 lz hp hB=>?_;have hT:=hT.step lz;refine cC (oN (hT).h1.ij.ij 0) fun re lH hp hB=>?_;have hT:=hT.step lH;refine ak (pA g (off+i*50)) (cX (l:=l.length) (j:=(i:Int)) (off:=off) (sz:=50) U22 kr rfl rfl om om om) ?_;refine ak (.agg (pV x cs)) (qt (i:=off+i*50) (n:=50) (hl.below hB).fA hxe om U40 kr rfl) ?_;have hcc:bw _ (fun b=>d1 b=0) cs x.e.call:=(F8.under hB).carry fun b a t hz q=>⟨q,hT.z1 b hz⟩;have XK:=aet (H:=gT) aiQ l i;have hL:=hS i x hx;refine ce (S0 (a:=x) hT.h1 aij (ha.below hB) (hT.z1 1 ha.lt) hcc XK) ?_;rintro _ zN ⟨c2,m2,v2,rfl,kox,ev,hes⟩;refine⟨_,rfl,ab ?_⟩;have hT:=hT.one kox;have hB:=hT.below;have hp:=Hp.nil zN;obtain⟨bb,cc,rfl,hE⟩:=ev.afT;generalize afR:(mX gT (wA gT dH l i) x).1.1=es at hes hE;refine go ?_;refine cT (fun m' a' w'=>∃(j:Nat) (pdx:Int) (cmx:Int) (u2 Bd Be Bf Bg tX vQ vR Gk xY xZ u64 x0 x1 x3 x4 x5 x6 Gl Gm KB KC YO YP YQ YR YS YT YU YV u83 u84 u85 u86 u87 u88 u89 u90 u91 u92 u93 u94:Value),a'=(fR #[.slice (some ⟨g,off,none⟩) l.length c,undef,u2,pA f1.cp 0,i6 (i:Int),i6 (abw (wA gT dH l i)),.slice bb es.length cc,i6 ((mX gT (wA gT dH l i) x).1.2),i6 pdx,i6 cmx,i6 (j:Int),lW,.slice (some ⟨g,off,none⟩) l.length c,.bool false,pA f1.cp 0,pA f1.cp 0,.bool false,i6 (i:Int),.slice (some ⟨g,off,none⟩) l.length c,i6 (l.length:Int),.bool true,.bool true,i6 (i:Int),.bool true,.bool true,k3,nA,.slice (some ⟨g,off,none⟩) l.length c,i6 (i:Int),pA g (off+i*50),pA g (off+i*50+49),i6 x.n,.bool false,.bool false,undef,undef,undef,undef,undef,undef,undef,.bool false,pA f1.cp 0,pA f1.lp 0,i6 (abw (wA gT dH l i)),.tuple #[.slice bb es.length cc,i6 ((mX gT (wA gT dH l i) x).1.2)],pA f1.cp 0,.slice (some ⟨g,off,none⟩) l.length c,i6 (i:Int),pA g (off+i*50),.agg (pV x cs),.tuple #[.slice bb es.length cc,i6 ((mX gT (wA gT dH l i) x).1.2)],.slice bb es.length cc,i6 ((mX gT (wA gT dH l i) x).1.2),Bd,Be,Bf,Bg,tX,vQ,vR,Gk,xY,xZ,u64,x0,x1,x3,x4,x5,x6,Gl,Gm,KB,KC,YO,YP,YQ,YR,YS,YT,YU,YV,u83,u84,u85,u86,u87,u88,u89,u90,u91,u92,u93,u94,u95,u96,u97,u98,u99,af0,af1,af2,agd,agh,agi,agm,agn,agw,agx,agC,agD,agV,agZ,undef])∧m'=es.length-j∧Hp w' []∧Bw w w'∧j≤es.length∧aaB 0 es=aaB pdx (es.drop j)∧aaP 0 es=aaP cmx (es.drop j)∧acX w w' c2 f1 m2 (mX gT (wA gT dH l i) x).2∧EvB w' bb es) _ ⟨0,0,0,u2,Bd,Be,Bf,Bg,tX,vQ,vR,Gk,xY,xZ,u64,x0,x1,x3,x4,x5,x6,Gl,Gm,KB,KC,YO,YP,YQ,YR,YS,YT,YU,YV,u83,u84,u85,u86,u87,u88,u89,u90,u91,u92,u93,u94,rfl,rfl,hp,hB,(ayP _),rfl,rfl,hT,hE⟩ ?_;rintro m24 _ wu ⟨j,pdx,cmx,u2,Bd,Be,Bf,Bg,tX,vQ,vR,Gk,xY,xZ,u64,x0,x1,x3,x4,x5,HXx⟩;obtain⟨x6,Gl,Gm,KB,KC,YO,YP,YQ,YR,YS,YT,YU,YV,u83,u84,u85,u86,u87,u88,u89,HXx⟩:=HXx;obtain⟨u90,u91,u92,u93,u94,rfl,rfl,hp,hB,hj,hP,hC,hT,hE⟩:=HXx;refine go ?_;by_cases Ux:(j:Int)<(es.length:Int)
    ·obtain⟨e,he⟩:∃e,es[j]?=some e:=⟨_,ayq om⟩;obtain⟨ge,are,rfl,hbe,hee,hle⟩:=hE.at_ j e he;have hp:=(Hp.nil _).cons hbe (by simp);refine go ?_;refine ak (pA ge (j*3)) (cX (l:=es.length) (j:=(j:Int)) (off:=0) (sz:=3) U26 kr rfl rfl om om om) ?_;refine ak (i6 e.k) (ay (hp.at 0) (abf (j:=0) hee rfl (zA e)) U3 rfl) ?_;by_cases jT:e.k=3
     ·refine go ?_;refine ak (pA ge (j*3)) (cX (l:=es.length) (j:=(j:Int)) (off:=0) (sz:=3) U26 kr rfl rfl om om om) ?_;refine ak (i6 e.b) (ay (hp.at 0) (abf (j:=2) hee rfl (zA e)) U3 rfl) ?_;refine ak (.bool false) (BD (m:=e.b) (n:=1000) rfl rfl (decide_eq_false (by have:=hL.big e (by rw[afR];exact ayw he) jT;omega))) ?_;refine ak (pA ge (j*3)) (cX (l:=es.length) (j:=(j:Int)) (off:=0) (sz:=3) U26 kr rfl rfl om om om) ?_;refine ak (i6 e.a) (ay (hp.at 0) (abf (j:=1) hee rfl (zA e)) U3 rfl) ?_;by_cases kH:e.a=0
      ·refine go ?_;refine ak (i6 ((j+1:Nat):Int)) (aC (m:=(j:Int)) (n:=1) (s:=((j+1:Nat):Int)) rfl rfl (by unfold wrap64;omega)) ?_;have hP:aaB 0 es=aaB (pdx) (es.drop (j+1)):=by rw[hP,drop_at he,aaB,if_pos jT,if_pos kH]
       have hC:aaP 0 es=aaP (cmx) (es.drop (j+1)):=by rw[hC,drop_at he,aaP,if_pos jT]
       exact⟨_,om,j+1,pdx,cmx,_,_,_,_,_,_,_,_,_,_,_,_,_,_,_,_,_,_,_,_,_,_,_,_,_,_,_,_,_,_,_,_,_,_,_,_,_,_,_,_,_,_,rfl,rfl,hp.tail,hB,om,hP,hC,hT,hE⟩
      refine go ?_;refine ak (pA ge (j*3)) (cX (l:=es.length) (j:=(j:Int)) (off:=0) (sz:=3) U26 kr rfl rfl om om om) ?_;refine ak (i6 e.b) (ay (hp.at 0) (abf (j:=2) hee rfl (zA e)) U3 rfl) ?_;refine ak (i6 (wrap64 (pdx+e.b))) (aC rfl rfl rfl) ?_;refine ak (i6 ((j+1:Nat):Int)) (aC (m:=(j:Int)) (n:=1) (s:=((j+1:Nat):Int)) rfl rfl (by unfold wrap64;omega)) ?_;have hP:aaB 0 es=aaB (wrap64 (pdx+e.b)) (es.drop (j+1)):=by rw[hP,drop_at he,aaB,if_pos jT,if_neg kH]
      have hC:aaP 0 es=aaP (cmx) (es.drop (j+1)):=by rw[hC,drop_at he,aaP,if_pos jT]
      exact⟨_,om,j+1,wrap64 (pdx+e.b),cmx,_,_,_,_,_,_,_,_,_,_,_,_,_,_,_,_,_,_,_,_,_,_,_,_,_,_,_,_,_,_,_,_,_,_,_,_,_,_,_,_,_,_,rfl,rfl,hp.tail,hB,om,hP,hC,hT,hE⟩
     refine go ?_;by_cases j8:e.k=6
     ·refine go ?_;refine ak (pA ge (j*3)) (cX (l:=es.length) (j:=(j:Int)) (off:=0) (sz:=3) U26 kr rfl rfl om om om) ?_;refine ak (i6 e.b) (ay (hp.at 0) (abf (j:=2) hee rfl (zA e)) U3 rfl) ?_;refine ak (i6 (wrap64 (cmx+e.b))) (aC rfl rfl rfl) ?_;refine ak (i6 ((j+1:Nat):Int)) (aC (m:=(j:Int)) (n:=1) (s:=((j+1:Nat):Int)) rfl rfl (by unfold wrap64;omega)) ?_;have hP:aaB 0 es=aaB (pdx) (es.drop (j+1)):=by rw[hP,drop_at he,aaB,if_neg jT]
      have hC:aaP 0 es=aaP (wrap64 (cmx+e.b)) (es.drop (j+1)):=by rw[hC,drop_at he,aaP,if_neg jT,if_pos j8]
      exact⟨_,om,j+1,pdx,wrap64 (cmx+e.b),_,_,_,_,_,_,_,_,_,_,_,_,_,_,_,_,_,_,_,_,_,_,_,_,_,_,_,_,_,_,_,_,_,_,_,_,_,_,_,_,_,_,rfl,rfl,hp.tail,hB,om,hP,hC,hT,hE⟩
     refine go ?_;refine ak (i6 ((j+1:Nat):Int)) (aC (m:=(j:Int)) (n:=1) (s:=((j+1:Nat):Int)) rfl rfl (by unfold wrap64;omega)) ?_;have hP:aaB 0 es=aaB (pdx) (es.drop (j+1)):=by rw[hP,drop_at he,aaB,if_neg jT]
     have hC:aaP 0 es=aaP (cmx) (es.drop (j+1)):=by rw[hC,drop_at he,aaP,if_neg jT,if_neg j8]
     exact⟨_,om,j+1,pdx,cmx,_,_,_,_,_,_,_,_,_,_,_,_,_,_,_,_,_,_,_,_,_,_,_,_,_,_,_,_,_,_,_,_,_,_,_,_,_,_,_,_,_,_,rfl,rfl,hp.tail,hB,om,hP,hC,hT,hE⟩
    have hd:es.drop j=[]:=azb om;rw[hd]at hP hC;have hP:aaB 0 es=pdx:=hP;have hC:aaP 0 es=cmx:=hC;refine go ?_;refine cC (qV (hT).h1) fun zp rO hp hB=>?_;have hT:=hT.step rO;have hE:=hE.below rO;refine cC (oN (hT).h1.ij.ij 0) fun Bp wN hp hB=>?_;have hT:=hT.step wN;have hE:=hE.below wN;refine go ?_;refine ak (pA g (off+i*50)) (cX (l:=l.length) (j:=(i:Int)) (off:=off) (sz:=50) U22 kr rfl rfl om om om) ?_;refine ak (i6 x.n) (ae5 (hl.below hB).fA (abf hxe (SU hU) (C0 hU)) U3 rfl) ?_;refine ak (i6 (wrap64 ((abw (wA gT dH l i))-pdx))) (fH rfl rfl rfl) ?_;refine ak (i6 (wrap64 ((wrap64 ((abw (wA gT dH l i))-pdx))+cmx))) (aC rfl rfl rfl) ?_;refine ak (.bool false) (GV (m:=(abw (mX gT (wA gT dH l i) x).2)) (n:=wrap64 ((wrap64 ((abw (wA gT dH l i))-pdx))+cmx)) rfl rfl (decide_eq_true (by have h:=hL.fA c7;rw[afR,hP,hC]at h;exact h)) rfl U3) ?_;refine ak (i6 ((i+1:Nat):Int)) (aC (m:=(i:Int)) (n:=1) (s:=((i+1:Nat):Int)) rfl rfl (by unfold wrap64;omega)) ?_;have hT:acX w Bp c2 f1 m2 (wA gT dH l (i+1)):=by rw[ab8 hx,if_neg fun q=>c7 q.1];exact hT
    exact⟨_,om,i+1,c2,m2,_,_,_,_,_,_,_,_,_,_,_,_,_,_,_,_,_,_,_,_,_,_,_,_,_,_,_,_,_,_,_,_,_,_,_,_,_,_,_,_,_,_,_,_,_,_,_,_,_,_,_,_,_,_,_,_,_,_,_,_,_,_,_,_,_,_,_,_,_,_,_,_,_,_,_,_,_,_,_,_,_,_,_,_,_,_,_,_,_,_,_,_,_,_,_,_,_,_,_,_,_,_,_,_,_,rfl,rfl,hp,hB,om,hT⟩
   refine go ?_;refine ce (AP) ?_;rintro _ H5 ⟨rfl,eI⟩;refine⟨_,rfl,ab ?_⟩;have hp:=hp.below eI;have hT:=hT.step eI;have hB:=U hB eI;refine go ?_;refine p1 ?_;exact⟨rfl,hB⟩
  refine go ?_;refine ce (AP) ?_;rintro _ GK ⟨rfl,eI⟩;refine⟨_,rfl,ab ?_⟩;have hp:=hp.below eI;have hT:=hT.step eI;have hB:=U hB eI;refine go ?_;refine p1 ?_;exact⟨rfl,hB⟩
 ·refine go ?_;refine p1 ?_;exact⟨rfl,hB⟩
end
end Go.Proofs.YtdkpbpjcbkibiaaGreatDoor.B
