/- En En2 -/
import Derived.Test.YtdkpbpjcbkibiaaGreatDoorV12
import Derived.Test.YtdkpbpjcbkibiaaGreatDoorV44
import Derived.Test.YtdkpbpjcbkibiaaGreatDoorV29
import Derived.Test.YtdkpbpjcbkibiaaGreatDoorV37
import Derived.Test.YtdkpbpjcbkibiaaGreatDoorV0
set_option linter.all false
set_option maxRecDepth 100000
set_option maxHeartbeats 4000000
namespace Go.Proofs.YtdkpbpjcbkibiaaGreatDoor.B
open Go.RowKit
section
open Go.RowKit
variable{ns L M:List Int}{i:Nat}{w w2 w0 wE:World}{u v:Value}
def cV(n:Int):Int:=mn (mx n 0) 4611686018427387904
def i0(n:Int):Nat:=if 0<fF .i64 n 32 then if 0<fF .i64 n 40 then if 0<fF .i64 n 48 then if 0<fF .i64 n 56 then 8 else 7 else 6 else 5 else 4
theorem CY(n:Int):4≤i0 n∧i0 n≤8:=by
 unfold i0;repeat' split
 all_goals omega
def fK(m:Int):Nat:=if cV m<64 then 1 else if cV m<16384 then 2 else if cV m<1073741824 then 4 else 1+i0 (cV m)
theorem GB(n:Int):1≤fK n∧fK n≤9:=by
 have:=CY (cV n);unfold fK;repeat' split
 all_goals omega
def SO(n:Int):Nat→Int
 |0=>n
 |j+1=>fF .i64 (SO n j) 8
def yE(n:Int)(i:Nat):List Int:=(List.range i).map fun j=>IntKind.u8.wrap (SO n j)
theorem Nv(n:Int)(i:Nat):yE n (i+1)=yE n i++[IntKind.u8.wrap (SO n i)]:=by unfold yE;rw[List.range_succ,aAi];rfl
theorem GC(n:Int)(i:Nat):(yE n i).length=i:=by simp[yE]
def oK(n:Int):List Int:=
 if cV n<64 then yE (wrap64 (4*cV n)) (fK (cV n))else if cV n<16384 then yE (wrap64 ((wrap64 (4*cV n))+1)) (fK (cV n))else if cV n<1073741824 then yE (wrap64 ((wrap64 (4*cV n))+2)) (fK (cV n))
 else[IntKind.u8.wrap (wrap64 ((wrap64 (4*(wrap64 (((fK (cV n)-1:Nat):Int)-4))))+3))]++yE (cV n) (fK (cV n)-1)
theorem xB(n:Int):(oK n).length≤9:=by
 have:=GB (cV n);unfold oK;repeat' split
 all_goals simp only[ayG,GC,ayJ,ayY];omega
def vY(ns:List Int):List Int:=(ns.map oK).flatten
theorem Nw{x:Int}(h:ns[i]?=some x):vY (ns.take (i+1))=vY (ns.take i)++oK x:=by unfold vY;rw[ay1,h];simp
theorem AV(ns:List Int):(vY ns).length≤9*ns.length:=by
 induction ns with
 |nil=>simp[vY]
 |cons x l ih=>have:=xB x;unfold vY at*;simp only[ayC,List.flatten_cons,ayG,ayJ];omega
mutual
def nw:bn→List Int
 |.mk k t n l=>qE (vY [k,t,n,(l.length:Int)]) l
def qE:List Int→List bn→List Int
 |acc,[]=>acc
 |acc,c::l=>qE (acc++oK (nw c).length++nw c) l
end
theorem CZ(x:bn):∀(l:List bn) (acc:List Int),qE acc (l++[x])=qE acc l++oK (nw x).length++nw x
 |[],acc=>by rw[azj,qE,qE,qE]
 |c::l,acc=>by rw[azh,qE,CZ x l,qE]
theorem Nx{l:List bn}{x:bn}{acc:List Int}(h:l[i]?=some x):qE acc (l.take (i+1))=qE acc (l.take i)++oK (nw x).length++nw x:=by rw[ay1,h];exact CZ x _ _
def BC:Nat→Nat
 |0=>36
 |j+1=>36+4*(9+BC j)
theorem AW{B:Nat}:∀(l:List bn) (acc:List Int),(∀x∈l,(nw x).length≤B)→(qE acc l).length≤acc.length+l.length*(9+B)
 |[],acc,_=>by rw[qE];simp
 |c::l,acc,h=>by have h1:=AW l (acc++oK (nw c).length++nw c) fun x hx=>h x (by simp[hx]);have h2:=h c (by simp);have h3:=xB ((nw c).length:Int);rw[qE,ayJ,ay0];simp only[ayG]at h1;omega
theorem W9:∀j,36≤BC j
 |0=>ayp _
 |j+1=>by unfold BC;omega
theorem SP(c:bn):∀(j:Nat) (d:Int),an c d=true→3-d≤j→(nw c).length≤BC j:=by
 refine bn.ind (P:=fun c=>∀(j:Nat) (d:Int),an c d=true→3-d≤j→(nw c).length≤BC j) (fun c IH=>?_) c;intro j d hc hj;obtain⟨k,t,n,l⟩:=c;have hp:=AV [k,t,n,(l.length:Int)];have hf:=jG hc;have hB:=W9 j;have leaf:l=[]→(nw (.mk k t n l)).length≤BC j:=fun e=>by subst e;rw[nw,qE];simp at hp ⊢;omega
 rw[an]at hc;split at hc;·simp only[ayF,decide_eq_true_eq]at hc;exact leaf (azo.1 hc.1.1)
 ·split at hc;·simp only[ayF,decide_eq_true_eq]at hc;exact leaf (azo.1 hc.1.1)
  ·split at hc;·simp only[ayF,decide_eq_true_eq]at hc;exact leaf (azo.1 hc.1.1)
   ·split at hc
    ·simp only[ayF,decide_eq_true_eq]at hc;have hd:=hc.1.1.1.1;obtain⟨j',rfl⟩:∃j',j=j'+1:=⟨j-1,by omega⟩;have:=AW (B:=BC j') l (vY [k,t,n,(l.length:Int)]) fun x hx=>by obtain⟨i,hi⟩:=ayX.1 hx;exact IH x hx j' (d+1) (hf.2 i x hi) om
     have h4:l.length*(9+BC j')≤4*(9+BC j'):=ayD _ hf.1;rw[nw];show _≤36+4*(9+BC j');simp at hp;omega
    ·cases hc
theorem Ex{c:bn}{d:Int}(h:an c d=true)(hd:0≤d):(nw c).length≤10000:=ayo (SP c 3 d h om) dd
theorem BS.zero{g:Nat}{cs:Array Value}(n:jr w w2 g cs 5)(hc:cs=#[])(hs:w0.heap.size≤w.heap.size):BS w0 w2 (.slice (some ⟨g,0,none⟩) 0 0) []:=by subst hc;exact .inr ⟨g,0,_,rfl,n.fA,⟨fun i x hx=>by simp at hx,ayP _⟩,rfl,ayp 0,(by have:=n.fresh;omega)⟩
theorem BO.other{w1:World}{v1 v2:Value}{L2:List Int}(hv:BS w0 w1 v1 L)(k:BO w0 w1 v1 w2 v2 L2)(h:BS wE w1 u M)(hu:∀b,ss u=some b→b<w0.heap.size):BS wE w2 u M:=h.turns k.turns fun b hb q=>by have:=hu b hb;have:=hv.ge q;omega
theorem aid(a b c d:Int):bE #[.int .i64 a,.int .i64 b,.int .i64 c,.int .i64 d] 1 rL [a,b,c,d]:=⟨fun i x hx=>by
 match i,hx with
 |0,hx=>cases hx;rfl
 |1,hx=>cases hx;rfl
 |2,hx=>cases hx;rfl
 |3,hx=>cases hx;rfl
 |i+4,hx=>simp at hx,ayp 4⟩
theorem KD(n:Int):CB 273 #[i6 n] w (.int .i64 (cV n)):=by have hp:=Hp.nil w;have hB:=Below.refl w.heap.size w;refine fe Tryz.func273 Tryz.ntmps273 ?_;refine go ?_;refine ak (i6 (mx n 0)) (qF rfl rfl) ?_;refine ak (i6 (mn (mx n 0) 4611686018427387904)) (xG rfl rfl) ?_;refine p1 ?_;exact⟨rfl,hB⟩
theorem SQ(n:Int):CB 296 #[i6 n] w (.int .i64 ((i0 n:Nat):Int)):=by
 have hp:=Hp.nil w;have hB:=Below.refl w.heap.size w;refine fe Tryz.func296 Tryz.ntmps296 ?_;refine go ?_;refine iR 5 ?_;refine go ?_;refine ak (i6 32) (dZ (m:=8) (n:=4) (s:=32) rfl rfl kr) ?_;refine ak (i6 (fF .i64 n 32)) (mD (m:=n) (n:=32) (j:=32) (s:=(fF .i64 n 32)) rfl rfl rfl rfl) ?_;by_cases c1:(0:Int)<(fF .i64 n 32)
 ·refine go ?_;refine ak (i6 5) (aC (m:=4) (n:=1) (s:=5) rfl rfl kr) ?_;refine ak (i6 40) (dZ (m:=8) (n:=5) (s:=40) rfl rfl kr) ?_;refine ak (i6 (fF .i64 n 40)) (mD (m:=n) (n:=40) (j:=40) (s:=(fF .i64 n 40)) rfl rfl rfl rfl) ?_;by_cases c2:(0:Int)<(fF .i64 n 40)
  ·refine go ?_;refine ak (i6 6) (aC (m:=5) (n:=1) (s:=6) rfl rfl kr) ?_;refine ak (i6 48) (dZ (m:=8) (n:=6) (s:=48) rfl rfl kr) ?_;refine ak (i6 (fF .i64 n 48)) (mD (m:=n) (n:=48) (j:=48) (s:=(fF .i64 n 48)) rfl rfl rfl rfl) ?_;by_cases c3:(0:Int)<(fF .i64 n 48)
   ·refine go ?_;refine ak (i6 7) (aC (m:=6) (n:=1) (s:=7) rfl rfl kr) ?_;refine ak (i6 56) (dZ (m:=8) (n:=7) (s:=56) rfl rfl kr) ?_;refine ak (i6 (fF .i64 n 56)) (mD (m:=n) (n:=56) (j:=56) (s:=(fF .i64 n 56)) rfl rfl rfl rfl) ?_;by_cases c4:(0:Int)<(fF .i64 n 56);·refine go ?_;refine ak (i6 8) (aC (m:=7) (n:=1) (s:=8) rfl rfl kr) ?_;refine p1 ?_;exact⟨(by rw[show i0 n=8 by unfold i0;simp only[c1,c2,c3,c4,if_true,if_false]];try rfl),hB⟩
    refine go ?_;refine p1 ?_;exact⟨(by rw[show i0 n=7 by unfold i0;simp only[c1,c2,c3,c4,if_true,if_false]];try rfl),hB⟩
   refine go ?_;refine p1 ?_;exact⟨(by rw[show i0 n=6 by unfold i0;simp only[c1,c2,c3,if_true,if_false]];try rfl),hB⟩
  refine go ?_;refine p1 ?_;exact⟨(by rw[show i0 n=5 by unfold i0;simp only[c1,c2,if_true,if_false]];try rfl),hB⟩
 refine go ?_;refine p1 ?_;exact⟨(by rw[show i0 n=4 by unfold i0;simp only[c1,if_true,if_false]];try rfl),hB⟩
theorem Xa(m:Int):CB 274 #[i6 m] w (.int .i64 ((fK m:Nat):Int)):=by
 have hp:=Hp.nil w;have hB:=Below.refl w.heap.size w;refine fe Tryz.func274 Tryz.ntmps274 ?_;refine go ?_;refine cC (KD m) fun w1 er hp hB=>?_;by_cases c3:(cV m)<64;·refine go ?_;refine p1 ?_;exact⟨(by rw[show fK m=1 by unfold fK;simp only[c3,if_true,if_false]];try rfl),hB⟩
 refine go ?_;by_cases c4:(cV m)<16384;·refine go ?_;refine p1 ?_;exact⟨(by rw[show fK m=2 by unfold fK;simp only[c3,c4,if_true,if_false]];try rfl),hB⟩
 refine go ?_;by_cases c5:(cV m)<1073741824;·refine go ?_;refine p1 ?_;exact⟨(by rw[show fK m=4 by unfold fK;simp only[c3,c4,c5,if_true,if_false]];try rfl),hB⟩
 refine go ?_;refine cC (SQ (cV m)) fun w6 lT hp hB=>?_;refine ak (i6 ((1+i0 (cV m):Nat):Int)) (aC (m:=1) (n:=((i0 (cV m):Nat):Int)) (s:=((1+i0 (cV m):Nat):Int)) rfl rfl (by have:=CY (cV m);unfold wrap64;omega)) ?_;refine p1 ?_;exact⟨(by rw[show fK m=1+i0 (cV m)by unfold fK;simp only[c3,c4,c5,if_true,if_false]];try rfl),hB⟩
theorem Ey(o6:BS w0 w v L)(hE:w0.heap.size≤w.heap.size)(hL:L.length<2000000)(n:Int){sz:Nat}(jv:sz≤9):CP 275 #[v,i6 n,i6 (sz:Int)] w fun e w'=>∃v',e=.returned v'∧BO w0 w v w' v' (L++yE n sz):=by
 have hO:=BO.start o6;have hp:=Hp.nil w;refine fe Tryz.func275 Tryz.ntmps275 ?_;refine go ?_;refine cT (fun m' a' w'=>∃(i:Nat) (v1:Value) (u9 qO lW r9 lj kt iD u16 iL:Value),a'=(fR #[v1,i6 (SO n i),i6 (sz:Int),undef,undef,undef,.slice none 0 0,i6 (sz:Int),i6 (i:Int),u9,qO,lW,r9,lj,kt,iD,u16,iL,undef])∧m'=sz-i∧Hp w' []∧i≤sz∧BO w0 w v w' v1 (L++yE n i)) _ ⟨0,v,undef,undef,undef,undef,undef,undef,undef,undef,undef,rfl,rfl,hp,(ayP _),(by rw[show yE n 0=[]from rfl,azD];exact hO)⟩ ?_;rintro m2 _ w1 ⟨i,v1,u9,qO,lW,r9,lj,kt,iD,u16,iL,rfl,rfl,hp,hi,hO⟩;refine go ?_;by_cases c3:(i:Int)<(sz:Int);·refine go ?_;refine ak (.int .u8 (IntKind.u8.wrap (SO n i))) (iZ (m:=(SO n i)) (s:=(IntKind.u8.wrap (SO n i))) U3 U5 rfl rfl) ?_;refine dT (n:=1) (cells:=#[.int .u8 (IntKind.u8.wrap (SO n i))]) (e:=5) kr (fun g4 w5 n6=>ab ?_);have hp:=hp.new n6;have aie:=ayo hO.size n6.fresh;have hO:=hO.step n6.below;refine xv hO.bs (BS.one n6 rfl (ayp _)) (ayo hE hO.size) (by simp only[ayG,GC,ayJ,ayY];omega) rfl rfl (fun v7 w8 bo9=>ab ?_) U131;have hO:=hO.trans bo9;have hp:=Hp.nil w8;refine go ?_;refine ak (i6 (fF .i64 (SO n i) 8)) (mD (m:=(SO n i)) (n:=8) (j:=8) (s:=(fF .i64 (SO n i) 8)) rfl rfl rfl rfl) ?_;refine ak (i6 ((i+1:Nat):Int)) (aC (m:=(i:Int)) (n:=1) (s:=((i+1:Nat):Int)) rfl rfl (by unfold wrap64;omega)) ?_;exact⟨_,om,i+1,v7,_,_,_,_,_,_,_,_,_,rfl,rfl,hp,om,(by rw[Nv,←azK];exact hO)⟩
 refine go ?_;refine p1 ?_;obtain rfl:i=sz:=by omega
 exact⟨_,rfl,hO⟩
theorem KE(o6:BS w0 w v L)(hE:w0.heap.size≤w.heap.size)(hL:L.length<1000000)(n:Int):CP 249 #[v,i6 n] w fun e w'=>∃v',e=.returned v'∧BO w0 w v w' v' (L++oK n):=by
 have hO:=BO.start o6;have hp:=Hp.nil w;have jv:=GB (cV n);refine fe Tryz.func249 Tryz.ntmps249 ?_;refine go ?_;refine tK (KD n) fun w1 er hp=>?_;have hO:=hO.step er;refine go ?_;refine tK (Xa (cV n)) fun w3 xI hp=>?_;have hO:=hO.step xI;refine go ?_;by_cases c5:(cV n)<64;·refine go ?_;refine ak (i6 (wrap64 (4*(cV n)))) (dZ rfl rfl rfl) ?_;refine ce (Ey (sz:=fK (cV n)) hO.bs (ayo hE hO.size) om (wrap64 (4*(cV n))) om) ?_;rintro _ w8 ⟨v6,rfl,bo7⟩;refine⟨_,rfl,ab ?_⟩;have hO:=hO.trans bo7;have hp:=Hp.nil w8;refine go ?_;refine p1 ?_;have e9:=hO;exact⟨_,rfl,by unfold oK;simp only[c5,if_true,if_false];exact hO⟩
 refine go ?_;by_cases c9:(cV n)<16384;·refine go ?_;refine ak (i6 (wrap64 (4*(cV n)))) (dZ rfl rfl rfl) ?_;refine ak (i6 (wrap64 ((wrap64 (4*(cV n)))+1))) (aC rfl rfl rfl) ?_;refine ce (Ey (sz:=fK (cV n)) hO.bs (ayo hE hO.size) om (wrap64 ((wrap64 (4*(cV n)))+1)) om) ?_;rintro _ pW ⟨v10,rfl,apk⟩;refine⟨_,rfl,ab ?_⟩;have hO:=hO.trans apk;have hp:=Hp.nil pW;refine go ?_;refine p1 ?_;have e9:=hO;exact⟨_,rfl,by unfold oK;simp only[c5,c9,if_true,if_false];exact hO⟩
 refine go ?_;by_cases ng:(cV n)<1073741824;·refine go ?_;refine ak (i6 (wrap64 (4*(cV n)))) (dZ rfl rfl rfl) ?_;refine ak (i6 (wrap64 ((wrap64 (4*(cV n)))+2))) (aC rfl rfl rfl) ?_;refine ce (Ey (sz:=fK (cV n)) hO.bs (ayo hE hO.size) om (wrap64 ((wrap64 (4*(cV n)))+2)) om) ?_;rintro _ qf ⟨v14,rfl,apl⟩;refine⟨_,rfl,ab ?_⟩;have hO:=hO.trans apl;have hp:=Hp.nil qf;refine go ?_;refine p1 ?_;have e9:=hO;exact⟨_,rfl,by unfold oK;simp only[c5,c9,ng,if_true,if_false];exact hO⟩
 refine go ?_;refine ak (i6 ((fK (cV n)-1:Nat):Int)) (fH (m:=((fK (cV n):Nat):Int)) (n:=1) (s:=((fK (cV n)-1:Nat):Int)) rfl rfl (by unfold wrap64;omega)) ?_;refine ak (i6 (wrap64 (((fK (cV n)-1:Nat):Int)-4))) (fH rfl rfl rfl) ?_;refine ak (i6 (wrap64 (4*(wrap64 (((fK (cV n)-1:Nat):Int)-4))))) (dZ rfl rfl rfl) ?_;refine ak (i6 (wrap64 ((wrap64 (4*(wrap64 (((fK (cV n)-1:Nat):Int)-4))))+3))) (aC rfl rfl rfl) ?_;refine ak (.int .u8 (IntKind.u8.wrap (wrap64 ((wrap64 (4*(wrap64 (((fK (cV n)-1:Nat):Int)-4))))+3)))) (iZ (m:=wrap64 ((wrap64 (4*(wrap64 (((fK (cV n)-1:Nat):Int)-4))))+3)) (s:=(IntKind.u8.wrap (wrap64 ((wrap64 (4*(wrap64 (((fK (cV n)-1:Nat):Int)-4))))+3)))) U3 U5 rfl rfl) ?_;refine dT (n:=1) (cells:=#[.int .u8 (IntKind.u8.wrap (wrap64 ((wrap64 (4*(wrap64 (((fK (cV n)-1:Nat):Int)-4))))+3)))]) (e:=5) kr (fun g17 s7 Cp=>ab ?_);have hp:=hp.new Cp;have aeo:=ayo hO.size Cp.fresh;have hO:=hO.step Cp.below;refine xv hO.bs (BS.one Cp rfl (ayp _)) (ayo hE hO.size) (by simp only[ayJ,ayY];omega) rfl rfl (fun v20 uG apm=>ab ?_) U131;have hO:=hO.trans apm;have hp:=Hp.nil uG;refine go ?_;refine ak (i6 ((fK (cV n)-1:Nat):Int)) (fH (m:=((fK (cV n):Nat):Int)) (n:=1) (s:=((fK (cV n)-1:Nat):Int)) rfl rfl (by unfold wrap64;omega)) ?_;refine ce (Ey (sz:=fK (cV n)-1) hO.bs (ayo hE hO.size) (by simp only[ayG,ayJ,ayY];omega) (cV n) om) ?_;rintro _ Hc ⟨v23,rfl,apn⟩;refine⟨_,rfl,ab ?_⟩;have hO:=hO.trans apn;have hp:=Hp.nil Hc;refine go ?_;refine p1 ?_;have e9:=hO;exact⟨_,rfl,by unfold oK;simp only[c5,c9,ng,if_true,if_false];rw[←azK];exact hO⟩
theorem Ny:CP 216 #[.slice none 0 0] w fun e w'=>∃v',e=.returned v'∧BS w w' v' []∧Bw w w':=by have hp:=Hp.nil w;have hB:=Below.refl w.heap.size w;refine fe Tryz.func216 Tryz.ntmps216 ?_;refine go ?_;refine ak (.bool true) (jW U131 rfl rfl rfl) ?_;refine p1 ?_;exact⟨_,rfl,BS.nil,hB⟩
theorem Nz{gb c:Nat}(o6:BS wE w (.slice (some ⟨gb,0,none⟩) L.length c) L)(hL:L.length<2000000):CP 216 #[.slice (some ⟨gb,0,none⟩) L.length c] w fun e w'=>∃v',e=.returned v'∧BS w w' v' L∧Bw w w':=by have hp:=Hp.nil w;have hB:=Below.refl w.heap.size w;refine fe Tryz.func216 Tryz.ntmps216 ?_;refine go ?_;refine ak (.bool false) (jW U131 rfl rfl rfl) ?_;refine dT (n:=0) (cells:=#[]) (e:=5) kr (fun g1 w2 n3=>ab ?_);have hp:=hp.new n3;have o6:=o6.below n3.below;have ai:=ayo hB.size n3.fresh;have hB:=U hB n3.below;refine go ?_;refine xv (w0:=w) (BS.zero n3 rfl (ayp _)) o6 hB.size (by simp;omega) rfl rfl (fun v3 w9 bo=>ab ?_) U131;have hB:=BO.below hB (BS.zero n3 rfl (ayp _)) bo;have bs3:BS w w9 v3 L:=bo.bs;have hp:=Hp.nil w9;refine go ?_;refine p1 ?_;exact⟨_,rfl,bs3,hB⟩
theorem GD(o6:BS wE w v L)(hL:L.length<2000000):CP 216 #[v] w fun e w'=>∃v',e=.returned v'∧BS w w' v' L∧Bw w w':=by
 have h:=o6;rcases o6 with⟨rfl,rfl⟩|⟨g,c,arr,rfl,_⟩;·exact Ny
 ·exact Nz h hL
theorem SR(o6:BS wE w v L){gi ci:Nat}{arr:Array Value}(hb:bH w gi arr 3)(row:bE arr 1 rL ns)(hL:L.length+9*ns.length<900000):CP 214 #[v,.slice (some ⟨gi,0,none⟩) ns.length ci] w fun e w'=>∃v',e=.returned v'∧BS w w' v' (L++vY ns)∧Bw w w':=by
 have hp:=(Hp.nil w).cons hb (by simp);have hB:=Below.refl w.heap.size w;have hgl:=(hp.at 0).lt;refine fe Tryz.func214 Tryz.ntmps214 ?_;refine go ?_;refine ce (GD o6 om) ?_;rintro _ w1 ⟨v1,rfl,bs,fD⟩;refine⟨_,rfl,ab ?_⟩;have hp:=hp.below fD;have o6:=o6.below fD;have hB:=U hB fD;refine go ?_;refine cT (fun m' a' w'=>∃(i:Nat) (vA:Value) (u6 r9 lj kt iD u16 iL ig:Value),a'=(fR #[vA,.slice (some ⟨gi,0,none⟩) ns.length ci,undef,undef,.slice none 0 0,undef,u6,v,v1,.slice (some ⟨gi,0,none⟩) ns.length ci,i6 (ns.length:Int),i6 (i:Int),r9,lj,kt,iD,u16,iL,ig,undef])∧m'=ns.length-i∧Hp w' [(gi,arr,3)]∧Bw w w'∧i≤ns.length∧BS w w' vA (L++vY (ns.take i))) _ ⟨0,v1,undef,undef,undef,undef,undef,undef,undef,undef,rfl,rfl,hp,hB,(ayP _),(by rw[show vY (ns.take 0)=[]from rfl,azD];exact bs)⟩ ?_;rintro m3 _ w2 ⟨i,vA,u6,r9,lj,kt,iD,u16,iL,ig,rfl,rfl,hp,hB,hi,bs⟩;refine go ?_;by_cases c4:(i:Int)<(ns.length:Int);·obtain⟨qU,yB⟩:∃x,ns[i]?=some x:=⟨_,ayq om⟩;refine go ?_;refine ak (pA gi i) (cX (l:=ns.length) (j:=(i:Int)) (off:=0) (sz:=1) U74 kr rfl rfl om om (by first|(simp;done)|(simp;omega)|omega)) ?_;refine ak (i6 qU) (ay (hp.at 0) (by have q:=row.get yB (j:=0) dd;rw[aAs,azt]at q;exact q) U3 rfl) ?_;have hlen:=AV (ns.take i);rw[ayZ]at hlen;refine ce (KE bs hB.size (by simp only[ayG];omega) qU) ?_;rintro _ w6 ⟨v5,rfl,bo⟩;refine⟨_,rfl,ab ?_⟩;have hp:=BO.hp hp bs bo (by simpa using hgl);have hB:=BO.below hB bs bo;have bs:=bo.bs;refine go ?_;refine ak (i6 ((i+1:Nat):Int)) (aC (m:=(i:Int)) (n:=1) (s:=((i+1:Nat):Int)) rfl rfl (by unfold wrap64;omega)) ?_;exact⟨_,om,i+1,v5,_,_,_,_,_,_,_,_,rfl,rfl,hp,hB,om,(by rw[Nw yB,←azK];exact bs)⟩
 refine go ?_;refine p1 ?_;obtain rfl:i=ns.length:=by omega
 rw[azq]at bs;exact⟨_,rfl,bs,hB⟩
theorem adb(o6:BS wE w v L){wU:World}{gr cr:Nat}(hb:bH w gr #[u] 131)(hbu:BS wU w u M)(hL:L.length<900000)(hM:M.length<900000):CP 215 #[v,.slice (some ⟨gr,0,none⟩) 1 cr] w fun e w'=>∃v',e=.returned v'∧BS w w' v' (L++oK (M.length:Int)++M)∧Bw w w':=by have hp:=(Hp.nil w).cons hb (by simp);have hB:=Below.refl w.heap.size w;have hgl:=(hp.at 0).lt;have hul:∀b,ss u=some b→b<w.heap.size:=fun b q=>hbu.lt q;obtain⟨bu,cu,rfl⟩:=hbu.sln;refine fe Tryz.func215 Tryz.ntmps215 ?_;refine go ?_;refine ce (GD o6 om) ?_;rintro _ w1 ⟨v1,rfl,bs,fD⟩;refine⟨_,rfl,ab ?_⟩;have hp:=hp.below fD;have o6:=o6.below fD;have hbu:=hbu.below fD;have hB:=U hB fD;refine go ?_;refine iR 2 ?_;refine go ?_;refine ak (pA gr 0) (cX (l:=1) (j:=0) (off:=0) (sz:=1) U273 kr rfl rfl dd dd rfl) ?_;refine ce (KE bs hB.size om (M.length:Int)) ?_;rintro _ w2 ⟨v2,rfl,bo⟩;refine⟨_,rfl,ab ?_⟩;have hp:=BO.hp hp bs bo (by simpa using hgl);have hB:=BO.below hB bs bo;have hbu:=BO.other bs bo hbu hul;have bs:=bo.bs;refine go ?_;have hl9:=xB (M.length:Int);refine xv bs hbu hB.size (by simp only[ayG];omega) rfl rfl (fun v3 w9 bo=>ab ?_) U131;have hp:=BO.hp hp bs bo (by simpa using hgl);have hB:=BO.below hB bs bo;have bs:=bo.bs;refine go ?_;refine ak (i6 1) (aC (m:=0) (n:=1) (s:=1) rfl rfl kr) ?_;refine p1 ?_;exact⟨_,rfl,bs,hB⟩
end
section
open Go.RowKit
variable{kids:List bn}{w:World}{Z:Nat→Prop}{cs:Array Value}{c:bn}
def adf(c:bn):Prop:=∀(w:World) (Z:Nat→Prop) (cs:Array Value) (d:Int),bw w Z cs c→an c d=true→0≤d→CP 171 #[.agg cs] w fun e w'=>∃v',e=.returned v'∧BS w w' v' (nw c)∧Bw w w'
theorem IZ{k t n d:Int}(hd:an (.mk k t n kids) d=true)(h0:0≤d)(i:Nat):(qE (vY [k,t,n,(kids.length:Int)]) (kids.take i)).length≤50000:=by
 have hf:=jG hd;have hp:=AV [k,t,n,(kids.length:Int)];have:=AW (B:=10000) (kids.take i) (vY [k,t,n,(kids.length:Int)]) fun x hx=>by obtain⟨j,hj⟩:=ayX.1 (aAf hx);exact Ex (hf.2 j x hj) om
 have h4:(kids.take i).length*(9+10000)≤4*(9+10000):=ayD _ (by rw[ayZ];omega);simp at hp;omega
theorem NA{b:Option Addr}(k t n:Int):CP 171 #[.agg #[i6 k,i6 t,i6 n,.slice b 0 0]] w fun e w'=>∃v',e=.returned v'∧BS w w' v' (nw (.mk k t n []))∧Bw w w':=by have hp:=Hp.nil w;have hB:=Below.refl w.heap.size w;refine fe Tryz.func171 Tryz.ntmps171 ?_;refine go ?_;refine ic fun g1 w2 n3 hp ai hB=>?_;refine dT (n:=4) (cells:=#[i6 k,i6 t,i6 n,i6 0]) (e:=3) kr (fun g4 w5 n6=>ab ?_);have hp:=hp.new n6;have aL:=ayo hB.size n6.fresh;have hB:=U hB n6.below;have adg:=hB.size;refine ce (SR (ns:=[k,t,n,(0:Int)]) (BS.nil (w0:=w)) (hp.at 0) (aid _ _ _ _) (by simp)) ?_;rintro _ w7 ⟨v1,rfl,bs0,fD⟩;refine⟨_,rfl,ab ?_⟩;have hp:=hp.below fD;have hB:=U hB fD;have bs:=bs0.since adg;refine go ?_;refine iR 1 ?_;refine go ?_;refine p1 ?_;exact⟨_,rfl,by rw[nw,qE];exact bs,hB⟩
theorem ND{g off cc:Nat}{arr:Array Value}{ty:TypeId}(hk:gn w Z g off cc arr ty kids)(IH:∀x∈kids,adf x)(k t n d:Int)(hd:an (.mk k t n kids) d=true)(h0:0≤d):CP 171 #[.agg #[i6 k,i6 t,i6 n,.slice (some ⟨g,off,none⟩) kids.length cc]] w fun e w'=>∃v',e=.returned v'∧BS w w' v' (nw (.mk k t n kids))∧Bw w w':=by
 have hp:=Hp.nil w;have mz:=hk.fit;have JC:=hk.sm;have hB:=Below.refl w.heap.size w;refine fe Tryz.func171 Tryz.ntmps171 ?_;refine go ?_;refine ic fun g1 w2 n3 hp ai hB=>?_;refine dT (n:=4) (cells:=#[i6 k,i6 t,i6 n,i6 (kids.length:Int)]) (e:=3) kr (fun g4 w5 n6=>ab ?_);have hp:=hp.new n6;have aL:=ayo hB.size n6.fresh;have hB:=U hB n6.below;have adg:=hB.size;refine ce (SR (ns:=[k,t,n,(kids.length:Int)]) (BS.nil (w0:=w)) (hp.at 0) (aid _ _ _ _) (by simp)) ?_;rintro _ w7 ⟨v1,rfl,bs0,fD⟩;refine⟨_,rfl,ab ?_⟩;have hp:=hp.below fD;have hB:=U hB fD;have bs:=bs0.since adg;refine go ?_;refine cT (fun m' a' w'=>∃(i:Nat) (vA:Value) (u5 iE iF iG kK k3 nA nC o3 pk:Value),a'=(fR #[.agg #[i6 k,i6 t,i6 n,.slice (some ⟨g,off,none⟩) kids.length cc],pA g1 0,.slice none 0 0,vA,undef,u5,pA g1 0,i6 k,pA g1 1,i6 t,pA g1 2,i6 n,pA g1 3,.slice (some ⟨g,off,none⟩) kids.length cc,i6 (kids.length:Int),.slice (some ⟨g4,0,none⟩) 4 4,v1,pA g1 3,.slice (some ⟨g,off,none⟩) kids.length cc,i6 (kids.length:Int),i6 (i:Int),iE,iF,iG,kK,k3,nA,nC,o3,pk,undef])∧m'=kids.length-i∧Hp w' [(g4,#[i6 k,i6 t,i6 n,i6 (kids.length:Int)],3),(g1,#[i6 k,i6 t,i6 n,.slice (some ⟨g,off,none⟩) kids.length cc],36)]∧Bw w w'∧i≤kids.length∧BS w w' vA (qE (vY [k,t,n,(kids.length:Int)]) (kids.take i))) _ ⟨0,v1,undef,undef,undef,undef,undef,undef,undef,undef,undef,undef,rfl,rfl,hp,hB,(ayP _),(by rw[List.take_zero,qE];exact bs)⟩ ?_;rintro m9 _ w8 ⟨i,vA,u5,iE,iF,iG,kK,k3,nA,nC,o3,pk,rfl,rfl,hp,hB,hi,bs⟩;refine go ?_;by_cases dv:(i:Int)<(kids.length:Int)
 ·obtain⟨x,hx⟩:∃x,kids[i]?=some x:=⟨_,ayq om⟩;have sn:=(hk.at_ i x hx).size;have Gc:=(hk.at_ i x hx).one;have hbd:=IZ hd h0 i;have hdx:=(jG hd).2 i x hx;have yf:=Ex hdx om;refine go ?_;refine ak (pA g (off+i*4)) (cX (l:=kids.length) (j:=(i:Int)) (off:=off) (sz:=4) U34 kr rfl rfl om om (by simp)) ?_;refine ak (.agg (arr.extract (off+i*4) (off+i*4+4))) (qt (i:=off+i*4) (n:=4) (hk.below hB).fA rfl om U36 kr rfl) ?_;have apq:∀b,ss vA=some b→b<w8.heap.size:=fun b q=>bs.lt q;refine jJ fun g11 pW JZ hp xr hB=>?_;have bs:=bs.below JZ.below;have adh:∀b,ss vA=some b→b=g11→False:=fun b q e=>by have h1:=apq b q;have h2:=JZ.fresh;omega
  refine aU (i:=0) (v:=.agg (arr.extract (off+i*4) (off+i*4+4))) (hp.at 0) rfl rfl (by show _=some ((arr.extract (off+i*4) (off+i*4+4))).size;rw[sn];kernel_rfl) (by show 0+((arr.extract (off+i*4) (off+i*4+4))).size≤_;rw[sn];exact ayr rfl) Gc (fun pb ov=>ab ?_);have ov:=cz ov (by show((arr.extract (off+i*4) (off+i*4+4))).size=_;rw[sn];rfl);have hp:=(hp.put 0 ov).nf;have bs:=(bs.turns ov.turns (fun b hb e=>adh b hb e));have hB:=aN hB ov xr;refine go ?_;refine ak (.agg (arr.extract (off+i*4) (off+i*4+4))) (aQ (i:=0) (n:=4) (hp.at 0) (eR sn) (by rw[sn];exact ayp _) U36 kr rfl) ?_;have aif:=hB.size;refine ce (IH x (ayw hx) _ Z (arr.extract (off+i*4) (off+i*4+4)) (d+1) ((hk.at_ i x hx).under hB) hdx om) ?_;rintro _ qf ⟨v2,rfl,I0,gU⟩;refine⟨_,rfl,ab ?_⟩;have hp:=hp.below gU;have bs:=bs.below gU;have hB:=U hB gU;obtain⟨b2,c2,rfl⟩:=I0.sln;refine dT (n:=1) (cells:=#[.slice b2 (nw x).length c2]) (e:=131) kr (fun g17 s7 Cp=>ab ?_);have hp:=hp.new Cp;have bs:=bs.below Cp.below;have I0:=I0.below Cp.below;have MV:=ayo hB.size Cp.fresh;have hB:=U hB Cp.below;have apr:=hB.size;refine ce (adb bs (hp.at 0) I0 om om) ?_;rintro _ re ⟨v3,rfl,bs3,lT⟩;refine⟨_,rfl,ab ?_⟩;have hp:=hp.below lT;have bs:=bs.below lT;have I0:=I0.below lT;have hB:=U hB lT;have bs:=bs3.since apr;refine go ?_;refine ak (i6 ((i+1:Nat):Int)) (aC (m:=(i:Int)) (n:=1) (s:=((i+1:Nat):Int)) rfl rfl (by unfold wrap64;omega)) ?_;exact⟨_,om,i+1,v3,_,_,_,_,_,_,_,_,_,_,rfl,rfl,hp.tail.tail,hB,om,(by rw[Nx hx];exact bs)⟩
 refine go ?_;refine p1 ?_;obtain rfl:i=kids.length:=by omega
 rw[azq]at bs;exact⟨_,rfl,by rw[nw];exact bs,hB⟩
theorem call171(c:bn):adf c:=by
 refine bn.ind (P:=adf) (fun c IH=>?_) c;intro w Z cs d hc hd h0;rcases hc.parts with⟨k,t,n,b,rfl,rfl⟩|⟨k,t,n,kids,g,off,cc,arr,ty,rfl,rfl,hk⟩;·exact NA k t n
 ·exact ND hk IH k t n d hd h0
def xC(c:bn):List Int:=if an c 0=true then nw c else[]
def gT(c:bn):bU:=IX (eS (xC c))
theorem Xb(c:bn):(xC c).length≤10000:=by
 unfold xC;split;·rename_i h;exact Ex h (aAk 0)
 ·exact ayP _
theorem NF(hc:bw w Z cs c):CP 117 #[.agg cs] w fun e w'=>∃v' x,e=.returned (.tuple #[v',.int .i64 x])∧BS w w' v' (xC c)∧Bw w w':=by
 have hp:=Hp.nil w;have hB:=Below.refl w.heap.size w;have hU:=hc.size;refine fe Tryz.func117 Tryz.ntmps117 ?_;refine go ?_;refine bv cs fun g1 w2 n3 hp=>?_;have ai:=ayo hB.size n3.fresh;have hB:=U hB n3.below;refine ak (.agg cs) (aQ (i:=0) (n:=4) (hp.at 0) (eR hU) (by rw[hU];exact ayp _) U36 kr rfl) ?_;by_cases c4:(an c 0)=true;·refine cC ((mu c4 (gS (hc.under hB)))) fun w5 nQ hp hB=>?_;refine ak (.agg cs) (aQ (i:=0) (n:=4) (hp.at 0) (eR hU) (by rw[hU];exact ayp _) U36 kr rfl) ?_;have aif:=hB.size;refine ce (call171 c _ Z cs 0 (hc.under hB) c4 (aAk 0)) ?_;rintro _ w7 ⟨v2,rfl,I0,gU⟩;refine⟨_,rfl,ab ?_⟩;have hp:=hp.below gU;have hB:=U hB gU;refine go ?_;refine p2 ?_;exact⟨_,_,rfl,by rw[show xC c=nw c from if_pos c4];exact(I0.since aif),hB⟩
 replace c4:=eq_false_of_ne_true c4;refine cC ((mu c4 (gS (hc.under hB)))) fun w8 fD hp hB=>?_;refine p2 ?_;exact⟨_,_,rfl,by rw[show xC c=[]from if_neg (by rw[c4];decide)];exact BS.nil,hB⟩
theorem aih(ha:Bi w)(hc:bw w Z cs c):CB 70 #[.agg cs] w (.agg (aJ (gT c))):=by have hp:=Hp.nil w;have hB:=Below.refl w.heap.size w;have hU:=hc.size;refine fe Tryz.func70 Tryz.ntmps70 ?_;refine go ?_;refine bv cs fun g1 w2 n3 hp=>?_;have ha:=ha.below n3.below;have ai:=ayo hB.size n3.fresh;have hB:=U hB n3.below;refine eK (z:=.agg (aH .u8 32 (fun _=>0))) kr (fun g4 w5 n6=>ab ?_);have n6:jr _ w5 g4 (aH .u8 32 (fun _=>0)) 31:=n6;have hp:=hp.new n6;have ha:=ha.below n6.below;have aL:=ayo hB.size n6.fresh;have hB:=U hB n6.below;refine go ?_;refine ak (.agg cs) (aQ (i:=0) (n:=4) (hp.at 1) (eR hU) (by rw[hU];exact ayp _) U36 kr rfl) ?_;refine ce (NF (hc.under hB)) ?_;rintro _ w7 ⟨v2,xx,rfl,I0,gU⟩;refine⟨_,rfl,ab ?_⟩;have hp:=hp.below gU;have ha:=ha.below gU;have hB:=U hB gU;obtain⟨b2,c2,rfl⟩:=I0.sln;refine go ?_;refine dT (n:=1) (cells:=#[.slice b2 (xC c).length c2]) (e:=131) kr (fun g8 w9 N4=>ab ?_);have hp:=hp.new N4;have ha:=ha.below N4.below;have I0:=I0.below N4.below;have aii:=ayo hB.size N4.fresh;have hB:=U hB N4.below;refine cC (ada ha (hp.at 0) I0 (by have:=Xb c;omega)) fun ot fY hp hB=>?_;have ha:=ha.below fY;have I0:=I0.below fY;refine aU (i:=0) (v:=.agg (aH .u8 32 (ib (eS (xC c)) 32))) (hp.at 1) rfl rfl (by show _=some ((aH .u8 32 (ib (eS (xC c)) 32))).size;rw[ax];kernel_rfl) (by show 0+((aH .u8 32 (ib (eS (xC c)) 32))).size≤_;simp only[ax];exact ayr rfl) (gy _ _ _) (fun ui BL=>ab ?_);have BL:=cz BL (by show((aH .u8 32 (ib (eS (xC c)) 32))).size=_;simp only[ax]);have hp:=(hp.put 1 BL).nf;have hB:=aN hB BL aL;refine go ?_;refine kh (el (s:=2) (ty:=31) (cs:=(aH .u8 32 (ib (eS (xC c)) 32))) (hp.at 1) U31 (by rw[ax];kernel_rfl)) ?_;rw[show aJ (gT c)=aH .u8 32 (ib (eS (xC c)) 32)from IY _];exact⟨rfl,hB⟩
theorem aij:Uz gT:=fun w Z cs c ha hc=>aih ha hc
end
end Go.Proofs.YtdkpbpjcbkibiaaGreatDoor.B
