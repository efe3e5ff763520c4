/- Srt GP -/
import Derived.Test.YtdkpbpjcbkibiaaGreatDoorV4
import Derived.Test.YtdkpbpjcbkibiaaGreatDoorV0
set_option linter.all false
set_option maxRecDepth 100000
set_option maxHeartbeats 4000000
namespace Go.Proofs.YtdkpbpjcbkibiaaGreatDoor.B
open Go.RowKit
section
variable{x y:Int×Int}{j i:Nat}
def yg(x y:Int×Int):Prop:=x.1<y.1∨(x.1=y.1∧x.2<y.2)
theorem yg.trans{z:Int×Int}(h:yg x y)(k:yg y z):yg x z:=by unfold yg at*;omega
theorem yg.irrefl:¬yg x x:=by unfold yg;omega
theorem TK(h1:¬yg x y)(h2:¬yg y x):x=y:=by
 unfold yg at*;obtain⟨a,b⟩:=x;obtain⟨c,d⟩:=y;simp only at h1 h2;have:a=c∧b=d:=by omega
 rw[this.1,this.2]
theorem um{K:Nat→Int×Int}{a b:Int}:behind K a b j=true↔¬yg (K j) (a,b):=by
 unfold behind kE Hi jt yg;simp only[Hi];repeat' split
 all_goals simp
 all_goals omega
theorem zg{p:Nat→Bool}{n:Nat}(hm:∀i j,i≤j→j<n→p i=true→p j=true):∀(k lo hi:Nat),lo≤hi→hi≤n→hi-lo<2^k→(∀j,j<lo→p j=false)→(∀j,hi≤j→j<n→p j=true)→(∀j,j<wq p k lo hi→p j=false)∧∀j,wq p k lo hi≤j→j<n→p j=true
 |0,lo,hi,h,hn,hk,h1,h2=>by
  have:lo=hi:=by simp at hk;omega
  subst this;exact⟨h1,h2⟩
 |k+1,lo,hi,h,hn,hk,h1,h2=>by
  have e2:2^(k+1)=2*2^k:=by rw[azN];omega
  unfold wq;split
  ·rename_i gD;split;·rename_i hp;exact zg hm k lo _ om om om h1 (fun j hj hjn=>hm _ j hj hjn hp)
   ·rename_i hp;have hp':p ((lo+hi)/2)=false:=by simpa using hp
    refine zg hm k _ hi om hn om (fun j hj=>?_) h2;cases hq:p j with
    |false=>rfl
    |true=>have:=hm j ((lo+hi)/2) om om hq;rw[hp']at this;cases this
  ·have:lo=hi:=by omega
   subst this;exact⟨h1,h2⟩
section
variable{α:Type}{L:List ((Int×Int)×α)}{a b:Int}
def gM(L:List ((Int×Int)×α)):Prop:=L.Pairwise fun x y=>yg x.1 y.1
theorem rA(h:i<L.length):ln L i=(L[i]).1:=by unfold ln;rw[ayq h];rfl
theorem gM.at(h:gM L)(S9:i<j)(hj:j<L.length):yg (L[i]).1 (L[j]).1:=(azv.1 h) i j om hj S9
theorem Dq(h:gM L)(hl:L.length<1000000):(∀j (hj:j<L.length),j<gi L a b→yg (L[j]).1 (a,b))∧∀j (hj:j<L.length),gi L a b≤j→¬yg (L[j]).1 (a,b):=by
 have hs:=zg (p:=behind (ln L) a b) (n:=L.length) (fun i j S9 hj hp=>by
  rw[um]at hp ⊢;intro q;rcases Nat.lt_or_eq_of_le S9 with gD|rfl;·rw[rA hj]at q;rw[rA om]at hp;exact hp ((h.at gD hj).trans q)
  ·exact hp q) 62 0 L.length (ayP _) (ayp _) om (fun j hj=>by omega) (fun j h1 h2=>by omega)
 refine⟨fun j hj gD=>?_,fun j hj hle=>?_⟩
 ·have:=hs.1 j gD;have q:¬behind (ln L) a b j=true:=by rw[this];decide
  rw[um,rA hj]at q;exact Classical.not_not.1 q
 ·have:=hs.2 j hle hj;rwa[um,rA hj]at this
theorem zh(h:gM L)(hl:L.length<1000000):gh L a b=true↔∃v,((a,b),v)∈L:=by
 constructor;·intro hg;obtain⟨v,hv⟩:=fo hg;exact⟨v,ayw hv⟩
 ·rintro⟨v,hv⟩;obtain⟨i,hi,he⟩:=azd.1 hv;have hs:=Dq (a:=a) (b:=b) h hl;have h1:¬i<gi L a b:=fun q=>by have:=hs.1 i hi q;rw[he]at this;exact yg.irrefl this
  have h2:¬gi L a b<i:=fun q=>by have:=hs.2 (gi L a b) om (ayp _);have q2:=h.at q hi;rw[he]at q2;exact this q2
  have e:gi L a b=i:=by omega
  refine decide_eq_true ⟨by omega,?_⟩;rw[e,rA hi,he];simp[kE,Hi,jt]
theorem gM.uniq(h:gM L){k:Int×Int}{v v':α}(h1:(k,v)∈L)(h2:(k,v')∈L):v=v':=by
 obtain⟨i,hi,e1⟩:=azd.1 h1;obtain⟨j,hj,e2⟩:=azd.1 h2;rcases azJ i j with q|rfl|q;·have:=h.at q hj;rw[e1,e2]at this;exact absurd this yg.irrefl
 ·rw[e1]at e2;exact(Prod.mk.inj e2).2
 ·have:=h.at q hi;rw[e1,e2]at this;exact absurd this yg.irrefl
theorem lY(h:gM L)(hl:L.length<1000000){v:α}:bS L a b=some v↔((a,b),v)∈L:=by
 constructor
 ·intro hg;unfold bS at hg;split at hg
  ·rename_i hh;obtain⟨v0,hv⟩:=fo hh;rw[hv]at hg;obtain rfl:v0=v:=by simpa using hg
   exact ayw hv
  ·cases hg
 ·intro hm;have hh:=(zh h hl).2 ⟨v,hm⟩;obtain⟨v0,hv⟩:=fo hh;rw[ph hh hv,h.uniq hm (ayw hv)]
theorem gM.ej(h:gM L)(hl:L.length<1000000)(v:α):gM (ej L a b v):=by
 have hs:=Dq (a:=a) (b:=b) h hl;cases hg:gh L a b with
 |true=>
  rw[jz v rfl hg];obtain⟨v0,hv⟩:=fo hg;have gD:=(ays.1 hv).1;have hve:=(ays.1 hv).2;refine azv.2 fun i j hi hj S9=>?_;have mv:i<L.length:=by simpa using hi
  have NO:j<L.length:=by simpa using hj
  have key:∀(i:Nat) (hi:i<L.length) (hi2:i<(L.set (gi L a b) ((a,b),v)).length),((L.set (gi L a b) ((a,b),v))[i]).1=(L[i]).1:=fun i hi hi2=>by
   rw[aAw];split;·rename_i e;subst e;rw[hve]
   ·rfl
  rw[key i mv hi,key j NO hj];exact h.at S9 NO
 |false=>
  rw[jK v rfl hg];have hnm:∀v,((a,b),v)∉L:=fun v hv=>by have:=(zh h hl).2 ⟨v,hv⟩;rw[hg]at this;cases this
  have hle:=j4 L a b;refine List.pairwise_append.2 ⟨h.sublist (List.take_sublist _ _),List.pairwise_cons.2 ⟨fun y hy=>?_,h.sublist (List.drop_sublist _ _)⟩,fun x hx y hy=>?_⟩
  ·obtain⟨j,hj,e⟩:=azd.1 hy;rw[List.getElem_drop]at e;have NO:gi L a b+j<L.length:=by simp at hj;omega
   have q:=hs.2 (gi L a b+j) NO om;rw[e]at q;rcases Classical.em (yg (a,b) y.1)with r|r;·exact r
   ·have:=TK q r;exact absurd (show((a,b),y.2)∈L by rw[←this];exact aAe hy) (hnm y.2)
  ·obtain⟨i,hi,e⟩:=azd.1 hx;rw[List.getElem_take]at e;have mv:i<L.length:=by simp at hi;omega
   have q:=hs.1 i mv (by simp at hi;omega);rw[e]at q;rcases ayE.1 hy with rfl|hy;·exact q
   ·obtain⟨j,hj,e2⟩:=azd.1 hy;rw[List.getElem_drop]at e2;have NO:gi L a b+j<L.length:=by simp at hj;omega
    have q2:=h.at (i:=i) (j:=gi L a b+j) (by simp at hi;omega) NO;rwa[e,e2]at q2
theorem gM.nU(h:gM L):gM (nU L a b):=by
 unfold B.nU;split
 ·refine h.sublist ?_;have:L.take (gi L a b)++L.drop (gi L a b+1)=L.eraseIdx (gi L a b):=by rw[List.eraseIdx_eq_take_drop_succ]
  rw[this];exact List.eraseIdx_sublist _ _
 ·exact h
theorem i1(h:gM L)(hl:L.length<1000000){v:α}{e:(Int×Int)×α}:e∈ej L a b v↔e=((a,b),v)∨(e∈L∧e.1≠(a,b)):=by
 cases hg:gh L a b with
 |true=>
  rw[jz v rfl hg];obtain⟨v0,hv⟩:=fo hg;have gD:=(ays.1 hv).1;have hve:=(ays.1 hv).2;constructor
  ·intro hm;obtain⟨i,hi,e1⟩:=azd.1 hm;have mv:i<L.length:=by simpa using hi
   rw[aAw]at e1;split at e1;·exact .inl e1.symm
   ·rename_i ne;refine .inr ⟨e1▸aAx _,fun q=>?_⟩;subst e1;rcases Nat.lt_or_gt_of_ne ne with r|r;·have:=h.at r mv;rw[hve,q]at this;exact yg.irrefl this
    ·have:=h.at r gD;rw[hve,q]at this;exact yg.irrefl this
  ·rintro(rfl|⟨hm,fC⟩);·exact azd.2 ⟨gi L a b,by simpa using gD,by simp⟩
   ·obtain⟨i,hi,e1⟩:=azd.1 hm;refine azd.2 ⟨i,by simpa using hi,?_⟩;rw[aAw,if_neg (fun q=>?_)];·exact e1
    ·subst q;rw[hve]at e1;exact fC (e1▸rfl)
 |false=>
  rw[jK v rfl hg];have hnm:∀v,((a,b),v)∉L:=fun v hv=>by have:=(zh h hl).2 ⟨v,hv⟩;rw[hg]at this;cases this
  have Hu:∀e,e∈L↔e∈L.take (gi L a b)∨e∈L.drop (gi L a b):=fun e=>by rw[←azk,aAa]
  rw[azk,ayE];constructor
  ·rintro(hm|rfl|hm);·have hm':=(Hu e).2 (.inl hm);exact .inr ⟨hm',fun q=>hnm e.2 (q▸hm')⟩
   ·exact .inl rfl
   ·have hm':=(Hu e).2 (.inr hm);exact .inr ⟨hm',fun q=>hnm e.2 (q▸hm')⟩
  ·rintro(rfl|⟨hm,_⟩);·exact .inr (.inl rfl)
   ·exact((Hu e).1 hm).elim .inl fun q=>.inr (.inr q)
theorem zk{e:(Int×Int)×α}(hm:e∈nU L a b):e∈L:=by
 unfold nU at hm;split at hm;·exact(azk.1 hm).elim aAf aAe
 ·exact hm
end
end
section
open Go.RowKit
variable{w:World}{r cap v gb:Nat}{arr:Array Value}{L:List ((Int×Int)×Nat)}{t t':TypeId}{x:(Int×Int)×Nat}{Z:Nat→Prop}
theorem vt:(Tryz.prog.info? 324).map (fun i=>(i.zero,i.size,i.bytes))=some (some (.agg #[i6 0,i6 0,.pointer none]),3,24):=by kernel_rfl
theorem Ju(hb:bH w r arr t)(row:bE arr 3 jf L)(hlen:L.length<1000000):CP 222 #[.slice (some ⟨r,0,none⟩) L.length cap] w fun e w'=>∃r' c' bW,e=.returned (.slice (some ⟨r',0,none⟩) L.length c')∧tc w' r' c' 324 3 jf L bW∧w.heap.size≤r'∧Bw w w':=by
 have hp:=(Hp.nil w).cons hb (by simp);have hf:=row.fit;have hB:=Below.refl w.heap.size w;refine fe Tryz.func222 Tryz.ntmps222 ?_;refine go ?_;refine ak (.bool false) (jW U248 rfl rfl rfl) ?_;refine dT (n:=0) (cells:=#[]) (e:=324) kr (fun g1 w2 n3=>ab ?_);have hp:=hp.new n3;have ai:=ayo hB.size n3.fresh;have hB:=U hB n3.below;refine go ?_;refine ek (m:=L.length) (news:=(arr.extract (0) (0+L.length*3)).toList) (ny.of (n:=0) (c:=0) (hp.at 0) (by rfl) om) rfl rfl U248 vt rfl (dK om) (bA (hp.at 1) (0) _) (row_one wt.size wt.one dd row om) om dd (fun g4 c5 ze w7 A8=>ab ?_) (fun e=>by cases e);have hp:=(hp.app 0 A8).nf;have aL:=A8.fr (ayo hB.size (ayp _)) (fun _ e=>by cases e;exact ai);have hB:=A8.below hB hB.size (fun _ e=>by cases e;exact ai);refine go ?_;refine p1 ?_;refine⟨g4,c5,ze,by simp,⟨A8.fA,pj wt.size row (fun j hj=>?_) ?_,A8.size,?_⟩,aL,hB⟩;·have q:=A8.new j (by rw[dK om];exact hj);rw[ext_get om hj]at q;simpa using q
 ·have q1:=A8.size;have q2:=A8.fit;omega
 ·have q2:=A8.fit;omega
theorem OR:CB 222 #[.slice none 0 0] w (.slice none 0 0):=by have hp:=Hp.nil w;have hB:=Below.refl w.heap.size w;refine fe Tryz.func222 Tryz.ntmps222 ?_;refine go ?_;refine ak (.bool true) (jW U248 rfl rfl rfl) ?_;refine p1 ?_;exact⟨rfl,hB⟩
theorem OS{c p:Nat}(hr:tc w r c 324 3 jf L arr)(hv:bH w v (jf x) 324)(fC:v≠r)(lB:p≤L.length)(hlen:L.length<1000000):CP 223 #[.slice (some ⟨r,0,none⟩) L.length c,.int .i64 p,.slice (some ⟨v,0,none⟩) 1 1] w fun e w'=>∃r' c' bW,e=.returned (.slice (some ⟨r',0,none⟩) (L.length+1) c')∧bH w' r' bW 324∧bE bW 3 jf (L.take p++x::L.drop p)∧L.length+1≤c'∧(r'=r∨w.heap.size≤r')∧au (fun b=>b=r) w w':=by
 have hp:=((Hp.nil w).cons hr.fA (by simp)).cons hv (by simp[fC]);have row:=hr.row;have hs:=hr.size;have hc:=hr.fit;have hf:=row.fit;have hT:=au.refl (fun b=>b=r) w;have TJ:=ayp w.heap.size;have yf:(jf x).toList.length=3:=by rw[ayy,wt.size]
 refine fe Tryz.func223 Tryz.ntmps223 ?_;refine go ?_;refine ak (.slice (some ⟨r,(if c=p then 0 else p*3),none⟩) (L.length-p) (c-p)) (dD (n:=L.length-p) (c:=c-p) (off:=0) (len:=L.length) (cap:=c) (sz:=3) (l:=p) (h:=L.length) (m:=c) (d:=(if c=p then 0 else p*3)) U248 kr rfl (fl (len:=L.length) (cap:=c) (l:=p) rfl om) (by by_cases e:c=p<;>simp[e]) om om) ?_;by_cases c1:(p:Int)=(L.length:Int)
 ·refine go ?_;refine ek (m:=1) (news:=(jf x).toList) (ny.of (n:=L.length) (c:=c) (hp.at 1) om om) rfl rfl U248 vt rfl (by rw[ayy,wt.size]) (a8 (hp.at 0)) (wt.one x) om dd (fun g2 c3 K4 w5 A6=>ab ?_) (fun e=>by cases e);have hp:=(hp.app 1 A6).nf;have hT:=A6.y6 hT (fun _ e=>by cases e;exact .inl rfl);refine go ?_;refine p1 ?_;have e:p=L.length:=by omega
  have q1:=A6.size;have q2:=A6.fit;refine⟨_,_,_,rfl,A6.fA,gv wt.size row lB (fun j hj=>?_) (fun j hj=>?_) (fun j h1 h2=>?_) ?_,A6.fit,A6.src.imp (fun q=>by cases q.1;rfl) ?_,hT⟩;·exact A6.old j om
  ·have q:=A6.new j (by rw[yf];exact hj);rw[ayt]at q;rw[e];exact q
  ·omega
  ·omega
  ·exact fun q=>ayo TJ q
 refine go ?_;refine ak (i6 ((L.length+1:Nat):Int)) (aC (m:=(L.length:Int)) (n:=1) (s:=((L.length+1:Nat):Int)) rfl rfl (by unfold wrap64;omega)) ?_;refine ak (i6 (c:Int)) (y4 U248 rfl) ?_;by_cases c7:(c:Int)<((L.length+1:Nat):Int)
 ·refine go ?_;refine ak (.slice (some ⟨r,0,none⟩) p c) (dD (n:=p) (c:=c) (off:=0) (len:=L.length) (cap:=c) (sz:=3) (l:=0) (h:=p) (m:=c) (d:=0) U248 kr rfl (mY (len:=L.length) (cap:=c) (h:=p) rfl om) wj om om) ?_;refine ak (i6 ((L.length+1:Nat):Int)) (aC (m:=(L.length:Int)) (n:=1) (s:=((L.length+1:Nat):Int)) rfl rfl (by unfold wrap64;omega)) ?_;refine ak (i6 (((L.length+1)-p:Nat):Int)) (fH (m:=((L.length+1:Nat):Int)) (n:=(p:Int)) (s:=(((L.length+1)-p:Nat):Int)) rfl rfl (by unfold wrap64;omega)) ?_;refine y5 (n:=p) (c:=c) (sz:=3) (m:=(L.length+1)-p) (hp.at 1) om om rfl rfl rfl U3 U248 vt rfl om dd (fun c9 kP ot g8 lS qh Dh Di=>ab ?_);have hp:=hp.new lS;have eM:=ayo hT.size lS.fresh;have hT:=hT.step lS.below;refine go ?_;refine ak (.slice (some ⟨g8,p*3,none⟩) ((p+((L.length+1)-p))-p) (c9-p)) (dD (n:=(p+((L.length+1)-p))-p) (c:=c9-p) (off:=0) (len:=p+((L.length+1)-p)) (cap:=c9) (sz:=3) (l:=p) (h:=p+((L.length+1)-p)) (m:=c9) (d:=p*3) U248 kr rfl (fl (len:=p+((L.length+1)-p)) (cap:=c9) (l:=p) rfl om) (.inr ⟨by omega,by omega⟩) om om) ?_;have qi:(jf x).toList.length=1*3:=(by rw[ayy,wt.size]);have iS:p*3+(jf x).toList.length≤kP.size:=by omega
  refine fu (sl:=1) (dl:=(p+((L.length+1)-p))-p) (k:=1) (off:=p*3) (cs:=(jf x).toList) (hp.at 0) rfl rfl U248 kr om qi (a8 (hp.at 1)) iS (wt.one x) (fun oD ov=>ab ?_);obtain⟨jn,fZ⟩:∃z,z=bt kP (p*3) (jf x).toList:=⟨_,rfl⟩;rw[←fZ]at ov;have Dj:jn.size=kP.size:=by rw[fZ];exact bp iS
  have hp:=(hp.put 0 ov).nf;have hT:=hT.put ov (.inr eM);refine go ?_;refine gu 8 ?_;refine gq ?_;refine qs (i6 ((p+1:Nat):Int)) (fun w' h'=>aC (m:=(p:Int)) (n:=1) (s:=((p+1:Nat):Int)) rfl rfl (by unfold wrap64;omega)) ?_;refine qs (.slice (some ⟨g8,(p+1)*3,none⟩) ((p+((L.length+1)-p))-(p+1)) (c9-(p+1))) (fun w' h'=>dD (n:=(p+((L.length+1)-p))-(p+1)) (c:=c9-(p+1)) (off:=0) (len:=p+((L.length+1)-p)) (cap:=c9) (sz:=3) (l:=p+1) (h:=p+((L.length+1)-p)) (m:=c9) (d:=(p+1)*3) U248 kr rfl (fl (len:=p+((L.length+1)-p)) (cap:=c9) (l:=p+1) rfl om) (.inr ⟨by omega,by omega⟩) om om) ?_;refine gq ?_;refine qs (.slice (some ⟨r,p*3,none⟩) (L.length-p) (c-p)) (fun w' h'=>dD (n:=L.length-p) (c:=c-p) (off:=0) (len:=L.length) (cap:=c) (sz:=3) (l:=p) (h:=L.length) (m:=c) (d:=p*3) U248 kr rfl (fl (len:=L.length) (cap:=c) (l:=p) rfl om) (.inr ⟨by omega,by omega⟩) om om) ?_;refine nl fun qf ff hp=>?_;have hT:=hT.step ff;have qj:(arr.extract (p*3) (p*3+(L.length-p)*3)).toList.length=(L.length-p)*3:=(dK om);have gd:(p+1)*3+(arr.extract (p*3) (p*3+(L.length-p)*3)).toList.length≤jn.size:=by omega
  refine fu (sl:=L.length-p) (dl:=(p+((L.length+1)-p))-(p+1)) (k:=L.length-p) (off:=(p+1)*3) (cs:=(arr.extract (p*3) (p*3+(L.length-p)*3)).toList) (hp.at 0) rfl rfl U248 kr om qj (bA (hp.at 2) (p*3) _) gd (row_one wt.size wt.one dd row om) (fun s7 pY=>ab ?_);obtain⟨vh,eN⟩:∃z,z=bt jn ((p+1)*3) (arr.extract (p*3) (p*3+(L.length-p)*3)).toList:=⟨_,rfl⟩;rw[←eN]at pY;have Dk:vh.size=jn.size:=by rw[eN];exact bp gd
  have hp:=(hp.put 0 pY).nf;have hT:=hT.put pY (.inr eM);refine go ?_;refine p1 ?_;refine⟨_,_,_,by rw[show p+(L.length+1-p)=L.length+1 by omega],hp.at 0,gv wt.size row lB (fun j hj=>?_) (fun j hj=>?_) (fun j h1 h2=>?_) ?_,by omega,.inr eM,hT⟩;·rw[eN,aV (.inl om) gd,fZ,aV (.inl om) iS];exact qh j hj
  ·rw[eN,aV (.inl om) gd,fZ,cy rfl om om,ayt]
  ·rw[eN,cy (k:=j-p*3) om om om,ext_get om om];congr 1;omega
  ·omega
 refine go ?_;refine ak (i6 ((L.length+1:Nat):Int)) (aC (m:=(L.length:Int)) (n:=1) (s:=((L.length+1:Nat):Int)) rfl rfl (by unfold wrap64;omega)) ?_;refine ak (.slice (some ⟨r,0,none⟩) (L.length+1) c) (dD (n:=L.length+1) (c:=c) (off:=0) (len:=L.length) (cap:=c) (sz:=3) (l:=0) (h:=L.length+1) (m:=c) (d:=0) U248 kr rfl (mY (len:=L.length) (cap:=c) (h:=L.length+1) rfl om) wj om om) ?_;refine ak (i6 ((p+1:Nat):Int)) (aC (m:=(p:Int)) (n:=1) (s:=((p+1:Nat):Int)) rfl rfl (by unfold wrap64;omega)) ?_;refine ak (.slice (some ⟨r,(p+1)*3,none⟩) ((L.length+1)-(p+1)) (c-(p+1))) (dD (n:=(L.length+1)-(p+1)) (c:=c-(p+1)) (off:=0) (len:=L.length+1) (cap:=c) (sz:=3) (l:=p+1) (h:=L.length+1) (m:=c) (d:=(p+1)*3) U248 kr rfl (fl (len:=L.length+1) (cap:=c) (l:=p+1) rfl om) (.inr ⟨by omega,by omega⟩) om om) ?_;refine ak (.bool false) (E3 (sz:=3) Tryz.func257 U248 kr (tR:=4) (by rfl) rfl rfl (hp.at 0) (hp.at 1) fC (by have:=hr.size;omega)) ?_;refine gu 8 ?_;refine gq ?_;refine qs (i6 ((p+1:Nat):Int)) (fun w' h'=>aC (m:=(p:Int)) (n:=1) (s:=((p+1:Nat):Int)) rfl rfl (by unfold wrap64;omega)) ?_;refine qs (.slice (some ⟨r,(p+1)*3,none⟩) ((L.length+1)-(p+1)) (c-(p+1))) (fun w' h'=>dD (n:=(L.length+1)-(p+1)) (c:=c-(p+1)) (off:=0) (len:=L.length+1) (cap:=c) (sz:=3) (l:=p+1) (h:=L.length+1) (m:=c) (d:=(p+1)*3) U248 kr rfl (fl (len:=L.length+1) (cap:=c) (l:=p+1) rfl om) (.inr ⟨by omega,by omega⟩) om om) ?_;refine gq ?_;refine qs (.slice (some ⟨r,p*3,none⟩) ((L.length+1)-p) (c-p)) (fun w' h'=>dD (n:=(L.length+1)-p) (c:=c-p) (off:=0) (len:=L.length+1) (cap:=c) (sz:=3) (l:=p) (h:=L.length+1) (m:=c) (d:=p*3) U248 kr rfl (fl (len:=L.length+1) (cap:=c) (l:=p) rfl om) (.inr ⟨by omega,by omega⟩) om om) ?_;refine nl fun uG fw hp=>?_;have hT:=hT.step fw;have qm:(arr.extract (p*3) (p*3+(L.length-p)*3)).toList.length=(L.length-p)*3:=(dK om);have iT:(p+1)*3+(arr.extract (p*3) (p*3+(L.length-p)*3)).toList.length≤arr.size:=by omega
 refine fu (sl:=(L.length+1)-p) (dl:=(L.length+1)-(p+1)) (k:=L.length-p) (off:=(p+1)*3) (cs:=(arr.extract (p*3) (p*3+(L.length-p)*3)).toList) (hp.at 1) rfl rfl U248 kr om qm (bA (hp.at 1) (p*3) _) iT (row_one wt.size wt.one dd row om) (fun wu te=>ab ?_);obtain⟨iM,gg⟩:∃z,z=bt arr ((p+1)*3) (arr.extract (p*3) (p*3+(L.length-p)*3)).toList:=⟨_,rfl⟩;rw[←gg]at te;have Dl:iM.size=arr.size:=by rw[gg];exact bp iT
 have hp:=(hp.put 1 te).nf;have hT:=hT.put te (.inl rfl);refine go ?_;refine ak (.slice (some ⟨r,p*3,none⟩) ((L.length+1)-p) (c-p)) (dD (n:=(L.length+1)-p) (c:=c-p) (off:=0) (len:=L.length+1) (cap:=c) (sz:=3) (l:=p) (h:=L.length+1) (m:=c) (d:=p*3) U248 kr rfl (fl (len:=L.length+1) (cap:=c) (l:=p) rfl om) (.inr ⟨by omega,by omega⟩) om om) ?_;have qn:(jf x).toList.length=1*3:=(by rw[ayy,wt.size]);have gj:p*3+(jf x).toList.length≤iM.size:=by omega
 refine fu (sl:=1) (dl:=(L.length+1)-p) (k:=1) (off:=p*3) (cs:=(jf x).toList) (hp.at 1) rfl rfl U248 kr om qn (a8 (hp.at 0)) gj (wt.one x) (fun tN lV=>ab ?_);obtain⟨vi,eO⟩:∃z,z=bt iM (p*3) (jf x).toList:=⟨_,rfl⟩;rw[←eO]at lV;have Dm:vi.size=iM.size:=by rw[eO];exact bp gj
 have hp:=(hp.put 1 lV).nf;have hT:=hT.put lV (.inl rfl);refine go ?_;refine p1 ?_;refine⟨_,_,_,rfl,hp.at 1,gv wt.size row lB (fun j hj=>?_) (fun j hj=>?_) (fun j h1 h2=>?_) ?_,by omega,.inl rfl,hT⟩;·rw[eO,aV (.inl om) gj,gg,aV (.inl om) iT]
 ·rw[eO,cy rfl om om,ayt]
 ·rw[eO,aV (.inr om) gj,gg,cy (k:=j-p*3) om om om,ext_get om om];congr 1;omega
 ·omega
theorem K7(hv:bH w v (jf x) 324):CP 223 #[.slice none 0 0,.int .i64 0,.slice (some ⟨v,0,none⟩) 1 1] w fun e w'=>∃r' c' bW,e=.returned (.slice (some ⟨r',0,none⟩) (0+1) c')∧bH w' r' bW 324∧bE bW 3 jf [x]∧0+1≤c'∧w.heap.size≤r'∧Bw w w':=by
 have hp:=(Hp.nil w).cons hv (by simp);have hB:=Below.refl w.heap.size w;have yf:(jf x).toList.length=3:=by rw[ayy,wt.size]
 refine fe Tryz.func223 Tryz.ntmps223 ?_;refine go ?_;refine ak (.slice none 0 0) (tL U248 kr rfl (fl (l:=0) rfl (ayp 0))) ?_;refine ek (m:=1) (news:=(jf x).toList) ny.nil rfl rfl U248 vt rfl (by rw[ayy,wt.size]) (a8 (hp.at 0)) (wt.one x) om dd (fun g1 c2 gX w4 A5=>ab ?_) (fun _=>by omega);have hp:=hp.G9 A5;have ai:=A5.fr (ayo hB.size (ayp _)) (fun _ e=>by cases e);have hB:=A5.below hB hB.size (fun _ e=>by cases e);refine go ?_;refine p1 ?_;have q1:=A5.size;have q2:=A5.fit;refine⟨_,_,_,rfl,A5.fA,bE.tM wt.size (fun i y hy j hj=>?_) (by show 1*3≤_;omega),A5.fit,ai,hB⟩;match i with
 |0=>
  obtain rfl:x=y:=by simpa using hy
  have q:=A5.new j (by rw[yf];exact hj);rw[ayt]at q;simpa using q
 |i+1=>cases hy
theorem afl(e:Int×Int)(v:Nat):∀m,m<1→(Value.cells (pA v 0)).toList[m]?=(jf (e,v))[m+2]?:=fun m hm=>match m,hm with|0,_=>rfl
theorem vu(hb:bH w gb #[.slice (some ⟨r,0,none⟩) L.length cap] t)(hr:bH w r arr t')(row:bE arr 3 jf L)(hlen:L.length<1000000)(a b:Int):CB 221 #[.pointer (some ⟨gb,0,none⟩),.int .i64 a,.int .i64 b] w (.tuple #[.int .i64 (gi L a b),.bool (gh L a b)]):=by have hp:=(Hp.nil w).cons hb (by simp);have hB:=Below.refl w.heap.size w;refine fe Tryz.func221 Tryz.ntmps221 ?_;refine go ?_;refine ak (.agg #[i6 a,i6 b]) kr ?_;refine cC (Hq _ r L.length cap (fS jf L) (ln L) ⟨vb wt (hr.below hB) row⟩ hlen a b) fun w1 er hp hB=>?_;refine ak (.bool (gh L a b)) (tI rfl rfl) ?_;refine p2 ?_;exact⟨rfl,hB⟩
theorem afm(a b:Int):CB 255 #[.slice none 0 0,.agg #[.int .i64 a,.int .i64 b],.func (.func 256) #[] #[]] w (.tuple #[.int .i64 0,.bool false]):=by have hp:=Hp.nil w;have hB:=Below.refl w.heap.size w;refine fe Tryz.func255 Tryz.ntmps255 ?_;refine go ?_;refine ic fun g1 w2 n3 hp ai hB=>?_;refine cT (fun m' a' w'=>∃(lW iD u16 iL ig jd je iE iF iG kK k3 nA nC o3 pk qI ru u32 rv ry:Value),a'=(fR #[.slice none 0 0,.agg #[i6 a,i6 b],.func (.func 256) #[] #[],undef,pA g1 0,undef,i6 0,.bool false,i6 0,i6 0,i6 0,lW,.slice none 0 0,i6 0,i6 0,iD,u16,iL,ig,jd,je,iE,iF,iG,kK,k3,nA,nC,o3,pk,qI,ru,u32,rv,ry,undef,undef,undef,undef,undef,undef,undef,undef,undef,undef,undef,undef,undef,undef])∧m'=0∧Hp w' [(g1,#[i6 a,i6 b],163)]∧Bw w w') _ ⟨undef,undef,undef,undef,undef,undef,undef,undef,undef,undef,undef,undef,undef,undef,undef,undef,undef,undef,undef,undef,undef,rfl,rfl,hp,hB⟩ ?_;rintro m5 _ w4 ⟨lW,iD,u16,iL,ig,jd,je,iE,iF,iG,kK,k3,nA,nC,o3,pk,qI,ru,u32,rv,ry,rfl,rfl,hp,hB⟩;refine go ?_;refine vZ ?_;refine gq ?_;refine nB fun w6 lT hp hB=>?_;refine go ?_;refine p2 ?_;exact⟨rfl,hB⟩
theorem E6(hb:bH w gb #[.slice none 0 0] t)(a b:Int):CB 221 #[.pointer (some ⟨gb,0,none⟩),.int .i64 a,.int .i64 b] w (.tuple #[.int .i64 0,.bool false]):=by have hp:=(Hp.nil w).cons hb (by simp);have hB:=Below.refl w.heap.size w;refine fe Tryz.func221 Tryz.ntmps221 ?_;refine go ?_;refine ak (.agg #[i6 a,i6 b]) kr ?_;refine cC (afm a b) fun w1 er hp hB=>?_;refine p2 ?_;exact⟨rfl,hB⟩
theorem Z3(hb:bH w gb #[.slice (some ⟨r,0,none⟩) L.length cap] t)(hr:bH w r arr t')(row:bE arr 3 jf L)(nh:L.length<999999)(a b:Int)(fC:gb≠r)(v:Nat)(hg:gh L a b=true):CP 176 #[.pointer (some ⟨gb,0,none⟩),.int .i64 a,.int .i64 b,pA v 0] w fun e w'=>e=.returned (.tuple #[])∧bq w' gb (fun r=>w.heap.size≤r) 3 jf (ej L a b v)∧au (fun b=>b=gb) w w':=by
 have hlen:L.length<1000000:=by omega
 have wv:=hb.lt;obtain⟨p,gL⟩:∃p,gi L a b=p:=⟨_,rfl⟩;have lB:p≤L.length:=gL▸j4 L a b;have zf:gb≠r:=fC;have hp:=Hp.two hb hr fC;have hT:=au.refl (fun b=>b=gb) w;obtain⟨v0,hx⟩:=fo hg;rw[gL]at hx;have vn:p<L.length:=(ays.1 hx).1;refine fe Tryz.func176 Tryz.ntmps176 ?_;refine go ?_;refine tK ((by have q:=vu (hp.at 0) (hp.at 1) row hlen a b;rw[gL,hg]at q;exact q)) fun w1 er hp=>?_;have hT:=hT.step er;have gB:=hT.size;have rf:=hp;refine ce (Ju (cap:=cap) (hp.at 1) row hlen) ?_;rintro _ w3 ⟨r2,c2,cW,rfl,gE,qZ,iq⟩;refine⟨_,rfl,ab ?_⟩;have hp:=hp.below iq;have hT:=hT.step iq;have hp:=hp.cons gE.fA (fun hm=>by obtain⟨x,hx,ex⟩:=ayM.1 hm;have h8:=(rf.2 x hx).lt;have ED:x.1=r2:=ex;omega);have yJ:=gE.size;have jZ:=gE.fit;have yK:=gE.row.fit;have eB:=gE.row;have bI:w.heap.size≤r2:=ayo gB qZ;refine go ?_;refine ak (pA r2 (p*3)) (cX (l:=L.length) (j:=(p:Int)) (off:=0) (sz:=3) U248 kr rfl rfl om om (by simp)) ?_;refine aU (i:=p*3+2) (v:=pA v 0) (hp.at 0) rfl rfl kr (by show p*3+2+1≤_;omega) (by simp[Value.oneCell',Value.cells]) (fun w5 p4=>ab ?_);obtain⟨gX,e3⟩:∃z,z=bt cW (p*3+2) (Value.cells (pA v 0)).toList:=⟨_,rfl⟩;have l3:(Value.cells (pA v 0)).toList.length=1:=rfl;rw[←e3]at p4;have f3:p*3+2+(Value.cells (pA v 0)).toList.length≤cW.size:=by omega
 have s3:gX.size=cW.size:=by rw[e3];exact bp f3
 have hp:=(hp.put 0 p4).nf;have hT:=hT.put p4 (.inr bI);refine go ?_;refine tJ fun w7 p6 hp=>?_;have hT:=hT.put p6 (.inl rfl);refine cK ?_;refine⟨rfl,bq.tM (n:=L.length) (by rw[jz v gL hg];simp) bI (hp.at 1) (hp.at 0) om ?_ jZ hlen,hT⟩;rw[jz v gL hg];refine rs wt.size eB vn (fun j hj=>?_) (fun j hj=>?_) om;·rw[e3,aV om f3]
 ·rcases ayQ j 2 with h2|h2
  ·rw[e3,aV (.inl om) f3,eB.get hx hj];match j,h2 with
   |0,_=>rw[wt.x,wt.x]
   |1,_=>rw[wt.y,wt.y]
  ·rw[e3,cy (k:=j-2) om om om];have q:=afl (a,b) v (j-2) om;rwa[show j-2+2=j by omega]at q
theorem Z4(hb:bH w gb #[.slice (some ⟨r,0,none⟩) L.length cap] t)(hr:bH w r arr t')(row:bE arr 3 jf L)(nh:L.length<999999)(a b:Int)(fC:gb≠r)(v:Nat)(hg:gh L a b=false):CP 176 #[.pointer (some ⟨gb,0,none⟩),.int .i64 a,.int .i64 b,pA v 0] w fun e w'=>e=.returned (.tuple #[])∧bq w' gb (fun r=>w.heap.size≤r) 3 jf (ej L a b v)∧au (fun b=>b=gb) w w':=by
 have hlen:L.length<1000000:=by omega
 have wv:=hb.lt;obtain⟨p,gL⟩:∃p,gi L a b=p:=⟨_,rfl⟩;have lB:p≤L.length:=gL▸j4 L a b;have zf:gb≠r:=fC;have hp:=Hp.two hb hr fC;have hT:=au.refl (fun b=>b=gb) w;refine fe Tryz.func176 Tryz.ntmps176 ?_;refine go ?_;refine tK ((by have q:=vu (hp.at 0) (hp.at 1) row hlen a b;rw[gL,hg]at q;exact q)) fun w1 er hp=>?_;have hT:=hT.step er;have gB:=hT.size;have rf:=hp;refine ce (Ju (cap:=cap) (hp.at 1) row hlen) ?_;rintro _ w3 ⟨r2,c2,cW,rfl,gE,qZ,iq⟩;refine⟨_,rfl,ab ?_⟩;have hp:=hp.below iq;have hT:=hT.step iq;have hp:=hp.cons gE.fA (fun hm=>by obtain⟨x,hx,ex⟩:=ayM.1 hm;have h8:=(rf.2 x hx).lt;have ED:x.1=r2:=ex;omega);have yJ:=gE.size;have jZ:=gE.fit;have yK:=gE.row.fit;have eB:=gE.row;have bI:w.heap.size≤r2:=ayo gB qZ;refine go ?_;refine ak (.agg #[i6 a,i6 b]) kr ?_;refine ak (.agg #[i6 a,i6 b,pA v 0]) kr ?_;refine dT (n:=1) (cells:=#[i6 a,i6 b,pA v 0]) (e:=324) kr (fun g4 w5 n6=>ab ?_);have hp:=hp.new n6;have lZ:=ayo hT.size n6.fresh;have hT:=hT.step n6.below;have wx:=hT.size;have Hs:g4≠r2:=fun e=>by have h9:=hp.1;rw[e]at h9;simp at h9
 refine ce (OS (x:=((a,b),v)) ⟨hp.at 1,eB,yJ,jZ⟩ (hp.at 0) Hs lB hlen) ?_;rintro _ w7 ⟨r3,c3,gX,rfl,js,kj,wy,k4,sF⟩;refine⟨_,rfl,ab ?_⟩;have hp:=(hp.erase 1 sF).sub ((.cons _ (.cons_cons _ (.cons _ .slnil))));have hT:=hT.trans (sF.mono fun b _ e=>by subst e;exact .inr bI);have Dn:w.heap.size≤r3:=by rcases k4 with rfl|q;exact bI;exact ayo wx q
 have hp:=hp.cons js (by have:=wv;simp only[ayC,ayB,ayE,ayx,or_false];omega);have gx:=Dn;refine go ?_;refine tJ fun w9 p8 hp=>?_;have hT:=hT.put p8 (.inl rfl);refine cK ?_;exact⟨rfl,bq.tM (n:=L.length+1) (by rw[jK v gL hg];simp;omega) Dn (hp.at 1) (hp.at 0) om (by rw[jK v gL hg];exact kj) wy om,hT⟩
theorem Z5(hb:bH w gb #[.slice none 0 0] t)(a b:Int)(v:Nat):CP 176 #[.pointer (some ⟨gb,0,none⟩),.int .i64 a,.int .i64 b,pA v 0] w fun e w'=>e=.returned (.tuple #[])∧bq w' gb (fun r=>w.heap.size≤r) 3 jf (ej [] a b v)∧au (fun b=>b=gb) w w':=by have wv:=hb.lt;have hp:=(Hp.nil w).cons hb (by simp);have hT:=au.refl (fun b=>b=gb) w;refine fe Tryz.func176 Tryz.ntmps176 ?_;refine go ?_;refine tK (E6 (hp.at 0) a b) fun w1 er hp=>?_;have hT:=hT.step er;refine ce (OR) ?_;rintro _ w3 ⟨rfl,iq⟩;refine⟨_,rfl,ab ?_⟩;have hp:=hp.below iq;have hT:=hT.step iq;refine go ?_;refine ak (.agg #[i6 a,i6 b]) kr ?_;refine ak (.agg #[i6 a,i6 b,pA v 0]) kr ?_;refine dT (n:=1) (cells:=#[i6 a,i6 b,pA v 0]) (e:=324) kr (fun g4 w5 n6=>ab ?_);have hp:=hp.new n6;have lZ:=ayo hT.size n6.fresh;have hT:=hT.step n6.below;refine ce (K7 (x:=((a,b),v)) (hp.at 0)) ?_;rintro _ w7 ⟨r3,c3,gX,rfl,js,kj,wy,k4,Dp⟩;refine⟨_,rfl,ab ?_⟩;have wx:=hT.size;have hp:=hp.below Dp;have hT:=hT.step Dp;have hp:=hp.sub ((.cons _ (.cons_cons _ .slnil)));have Dn:w.heap.size≤r3:=ayo wx k4;have hp:=hp.cons js (by have:=wv;simp only[ayC,ayB,ayE,ayx,or_false];omega);refine go ?_;refine tJ fun w9 p8 hp=>?_;have hT:=hT.put p8 (.inl rfl);refine cK ?_;exact⟨rfl,bq.tM (n:=0+1) (by rw[lU];rfl) Dn (hp.at 1) (hp.at 0) om (by rw[lU];exact kj) wy om,hT⟩
theorem afn(h:bq w gb Z 3 jf L)(nh:L.length<999999)(a b:Int)(v:Nat):CP 176 #[.pointer (some ⟨gb,0,none⟩),.int .i64 a,.int .i64 b,pA v 0] w fun e w'=>e=.returned (.tuple #[])∧bq w' gb (fun r=>w.heap.size≤r) 3 jf (ej L a b v)∧au (fun b=>b=gb) w w':=by
 rcases h with⟨t,r,cap,arr,t',hZ,hp,row,_,_⟩|⟨rfl,t,hp⟩
 ·have fC:gb≠r:=fun e=>by have:=hp.1;simp[e]at this
  cases hg:gh L a b with
  |true=>exact Z3 (hp.at 0) (hp.at 1) row nh a b fC v hg
  |false=>exact Z4 (hp.at 0) (hp.at 1) row nh a b fC v hg
 ·exact Z5 (hp.at 0) a b v
theorem Z6(hb:bH w gb #[.slice (some ⟨r,0,none⟩) L.length cap] t)(hr:bH w r arr t')(row:bE arr 3 jf L)(hlen:L.length<1000000)(a b:Int)(fC:gb≠r){v0:Nat}(hg:gh L a b=true)(hx:L[gi L a b]?=some ((a,b),v0)):CB 175 #[.pointer (some ⟨gb,0,none⟩),.int .i64 a,.int .i64 b] w (.tuple #[pA v0 0,.bool true]):=by obtain⟨p,gL⟩:∃p,gi L a b=p:=⟨_,rfl⟩;have lB:p≤L.length:=gL▸j4 L a b;have hf:=row.fit;have hp:=Hp.two hb hr fC;have hB:=Below.refl w.heap.size w;rw[gL]at hx;have vn:p<L.length:=(ays.1 hx).1;have c0:=row.get hx (j:=2) dd;refine fe Tryz.func175 Tryz.ntmps175 ?_;refine go ?_;refine cC ((by have q:=vu (hp.at 0) (hp.at 1) row hlen a b;rw[gL,hg]at q;exact q)) fun w1 er hp hB=>?_;refine ak (pA r (p*3)) (cX (l:=L.length) (j:=(p:Int)) (off:=0) (sz:=3) U248 kr rfl rfl om om (by simp)) ?_;refine ak (pA v0 0) (ay (hp.at 1) c0 U189 rfl) ?_;refine p2 ?_;exact⟨rfl,hB⟩
theorem Z7(hb:bH w gb #[.slice (some ⟨r,0,none⟩) L.length cap] t)(hr:bH w r arr t')(row:bE arr 3 jf L)(hlen:L.length<1000000)(a b:Int)(fC:gb≠r)(hg:gh L a b=false):CB 175 #[.pointer (some ⟨gb,0,none⟩),.int .i64 a,.int .i64 b] w (.tuple #[.pointer none,.bool false]):=by obtain⟨p,gL⟩:∃p,gi L a b=p:=⟨_,rfl⟩;have lB:p≤L.length:=gL▸j4 L a b;have hf:=row.fit;have hp:=Hp.two hb hr fC;have hB:=Below.refl w.heap.size w;refine fe Tryz.func175 Tryz.ntmps175 ?_;refine go ?_;refine cC ((by have q:=vu (hp.at 0) (hp.at 1) row hlen a b;rw[gL,hg]at q;exact q)) fun w1 er hp hB=>?_;refine p2 ?_;exact⟨rfl,hB⟩
theorem Z8(hb:bH w gb #[.slice none 0 0] t)(a b:Int):CB 175 #[.pointer (some ⟨gb,0,none⟩),.int .i64 a,.int .i64 b] w (.tuple #[.pointer none,.bool false]):=by have hp:=(Hp.nil w).cons hb (by simp);have hB:=Below.refl w.heap.size w;refine fe Tryz.func175 Tryz.ntmps175 ?_;refine go ?_;refine cC (E6 (hp.at 0) a b) fun w1 er hp hB=>?_;refine p2 ?_;exact⟨rfl,hB⟩
theorem afo(h:bq w gb Z 3 jf L)(a b:Int)(hv:bS L a b=some v):CB 175 #[.pointer (some ⟨gb,0,none⟩),.int .i64 a,.int .i64 b] w (.tuple #[pA v 0,.bool true]):=by
 unfold bS at hv;split at hv
 ·rename_i hg;obtain⟨v0,hx⟩:=fo hg;rw[hx]at hv;obtain rfl:v0=v:=by simpa using hv
  rcases h with⟨t,r,cap,arr,t',hZ,hp,row,mB,hlen⟩|⟨rfl,t,hp⟩;·exact Z6 (hp.at 0) (hp.at 1) row hlen a b (fun e=>by have:=hp.1;simp[e]at this) hg hx
  ·rw[uk]at hg;cases hg
 ·cases hv
theorem K8(h:bq w gb Z 3 jf L)(a b:Int)(hv:bS L a b=none):CB 175 #[.pointer (some ⟨gb,0,none⟩),.int .i64 a,.int .i64 b] w (.tuple #[.pointer none,.bool false]):=by
 have hg:gh L a b=false:=by
  cases hg:gh L a b with
  |false=>rfl
  |true=>obtain⟨v0,hx⟩:=fo hg;rw[ph hg hx]at hv;cases hv
 rcases h with⟨t,r,cap,arr,t',hZ,hp,row,mB,hlen⟩|⟨rfl,t,hp⟩;·exact Z7 (hp.at 0) (hp.at 1) row hlen a b (fun e=>by have:=hp.1;simp[e]at this) hg
 ·exact Z8 (hp.at 0) a b
end
end Go.Proofs.YtdkpbpjcbkibiaaGreatDoor.B
