/- Lk Lw -/
import Derived.Test.YtdkpbpjcbkibiaaGreatDoorV50
set_option linter.all false
set_option maxRecDepth 100000
set_option maxHeartbeats 4000000
namespace Go.Proofs.YtdkpbpjcbkibiaaGreatDoor.B
open Go.RowKit
section
open Go.RowKit
variable{n l u now:Int}{T:j3}
def anz:se:=⟨8,4,0,0,0,0,0,cP,db,ky⟩
def aeC:se:=⟨11,4,0,0,0,0,0,cP,db,ky⟩
def aer(n:Int):se:=⟨1,4,5,n,0,0,0,cP,db,ky⟩
def anC(T:j3):Nat→Option cH:=iH (iH (fun _=>none) 0 (some ⟨0,⟨0,0,0⟩,0,0⟩)) 0 (some ⟨0,T,0,0⟩)
def loS(T:j3)(n u now:Int):bM:=stX [((4,0),n)] [] [((4,0),⟨none,⟨0,0⟩,u,n⟩)] (anC T) ⟨0,T,2,3⟩ (adu T 2 3 3) 0 [] now
theorem rz(h:200≤n∧n≤1000):rF [] 4 0 n=[((4,0),n)]:=by show mR [] 4 0 n=_;unfold mR;rw[if_pos dd,if_neg om];rfl
theorem T4e(hl:0≤l∧l≤6)(hn:200≤n∧n≤1000):abT l n=⟨fv n l,0,n⟩:=by have:=afS hl (show 0≤n∧n≤1000 by omega);simp[abT,ke,dU,aI,wrap64];omega
theorem lo1(hl:1≤l∧l≤6)(hn:200≤n∧n≤1000)(hu:wrap64 (3+mZ l 8)=u)(h5:5<u):jF gT (stX [((4,0),n)] [((4,0),⟨1,true,l,n,0,0⟩)] [((4,0),vz)] (anC (abT l n)) ⟨0,abT l n,2,3⟩ (adu (abT l n) 2 3 3) 0 [] 5) anz=(0,loS (abT l n) n u 5):=by
 have e:rD vz u n 5=⟨none,⟨0,0⟩,u,n⟩:=by unfold rD mx vz;rw[if_pos h5,if_pos (show(0:Int)<u by omega),if_pos (show(0:Int)<n by omega)]
 unfold loS;rw[←e,←hu];show _=_;kernel_rfl
theorem lo2(hn:200≤n∧n≤1000)(h:now<u):jF gT (loS T n u now) aeC=(0,loS T n u now):=by
 have e:jF gT (loS T n u now) aeC=(0,(if u≤now then(loS T n u now).nm [((4,0),⟨none,⟨0,0⟩,0,0⟩)]else loS T n u now).FA (if(if u≤now then(⟨none,⟨0,0⟩,0,0⟩:fU)else⟨none,⟨0,0⟩,u,n⟩).n≤0∨1073741824<(if u≤now then(⟨none,⟨0,0⟩,0,0⟩:fU)else⟨none,⟨0,0⟩,u,n⟩).n then nU [((4,0),n)] 4 0 else ej [((4,0),n)] 4 0 (if u≤now then(⟨none,⟨0,0⟩,0,0⟩:fU)else⟨none,⟨0,0⟩,u,n⟩).n)):=by(show _=_;kernel_rfl)
 have h':¬u≤now:=by omega
 rw[e];simp only[if_neg h'];rw[if_neg om];show _=_;kernel_rfl
theorem exT(h:0≤n∧n≤1000):ee (aer n)=true:=by
 have:dn n 0 1073741824=true:=by simp[dn];omega
 simp[ee,aer,du,eJ,this];decide
theorem lo3(hn:200≤n∧n≤1000):jF gT (loS T n u now) (aer (1000-n+1))=(7,loS T n u now):=by
 have hi:dn (1000-n+1) 0 1073741824=true:=by simp[dn];omega
 have hs:dw (loS T n u now).fs (loS T n u now).K 4 (1000-n+1)=7:=by unfold dw;rw[if_pos dd,if_pos hi];show(if(1000:Int)<1000-n+1 then 6 else if 0<1000-n+1 then if wrap64 (1000-(1000-n+1))<mx 0 n then 7 else 0 else 0)=7;rw[if_neg om,if_pos om,if_pos (by unfold mx wrap64;split<;>omega)]
 unfold jF;rw[if_pos (exT om)];show(iu (loS T n u now).fs (loS T n u now).K 4 5 (1000-n+1),(loS T n u now).iP (fg (loS T n u now).fs (loS T n u now).K 4 5 (1000-n+1)))=_;unfold iu fg;rw[hs];kernel_rfl
theorem lo4(h:now<1000):(jj (loS T n u now)).2=loS T n u (now+1):=by unfold jj;rw[if_neg (show ¬1073741824≤(loS T n u now).now by show ¬1073741824≤now;omega)];kernel_rfl
def loE(T:j3)(now:Int):bM:=stX [] [] [((4,0),⟨none,⟨0,0⟩,0,0⟩)] (anC T) ⟨0,T,2,3⟩ (adu T 2 3 3) 0 [] now
theorem lo5(h:u≤now):jF gT (loS T n u now) aeC=(0,loE T now):=by
 have e:jF gT (loS T n u now) aeC=(0,(if u≤now then(loS T n u now).nm [((4,0),⟨none,⟨0,0⟩,0,0⟩)]else loS T n u now).FA (if(if u≤now then(⟨none,⟨0,0⟩,0,0⟩:fU)else⟨none,⟨0,0⟩,u,n⟩).n≤0∨1073741824<(if u≤now then(⟨none,⟨0,0⟩,0,0⟩:fU)else⟨none,⟨0,0⟩,u,n⟩).n then nU [((4,0),n)] 4 0 else ej [((4,0),n)] 4 0 (if u≤now then(⟨none,⟨0,0⟩,0,0⟩:fU)else⟨none,⟨0,0⟩,u,n⟩).n)):=by(show _=_;kernel_rfl)
 rw[e];simp only[if_pos h];show _=_;kernel_rfl
def loF(T:j3)(now:Int):bM:=(jF gT (loE T now) (aer 1000)).2
theorem lo6:jF gT (loE T now) (aer 1000)=(0,loF T now):=Prod.ext kr rfl
theorem lo7:(iU (loF T now).fs 5).1.1=2000:=by kernel_rfl
end
section
open Go.RowKit
variable{w:World}
theorem no0:∀b:Nat,¬own ((fun _=>0) b):=fun _=>kU
section
variable{base:Nat→Nat}{w0 w w2:World}{c:Nat→Nat}{f:CF}{m:CV}{s:bM}{L:List (Nat×Array Value×TypeId)}{g:Nat}{cs cs':Array Value}{t:TypeId}
theorem aa0.arP(S:aa0 base w0 w c f m s L)(n:jr w w2 g cs t):aa0 base w0 w2 (mark c g) f m s ((g,cs,t)::L):=by
 have hg:=n.fresh;have hs:=S.below.size;refine⟨((bV.start (X:=fun _=>False) S.ch).new n).ch,S.ok,U S.below n.below,fun b q=>?_,S.hp.new n,fun x hx=>?_⟩;·rw[cN om];exact S.z b q
 ·rcases ayE.1 hx with q|q;·rw[q,dX];exact fun q=>q.2.1 rfl
  ·rw[cN (by have:=(S.hp.2 x q).lt;omega)];exact S.hz x q
theorem aa0.put(S:aa0 base w0 w c f m s ((g,cs,t)::L))(p:o1 w w2 g cs' t)(h7:c g=7)(hg:w0.heap.size≤g):aa0 base w0 w2 c f m s ((g,cs',t)::L):=⟨((bV.start (X:=fun b=>b=g) S.ch).put p h7 (.inr rfl)).ch,S.ok,aN S.below p hg,S.z,S.hp.put 0 p,fun x hx=>by
 rcases ayE.1 hx with q|q;·rw[q];exact S.hz (g,cs,t) azs
 ·exact S.hz x (ay6 _ q)⟩
end
theorem anN{l:Int}(h:1≤l∧l≤6):CB 24 #[i6 l,i6 8] w (i6 (mZ l 8)):=by have hp:=Hp.nil w;refine fe Tryz.func24 Tryz.ntmps24 ?_;rcases(show l=1∨l=2∨l=3∨l=4∨l=5∨l=6 by omega)with e|e|e|e|e|e<;>subst e<;>(refine wB ?_;refine p1 ?_;exact⟨by(show _=_;kernel_rfl),Below.refl _ _⟩)
theorem aow(ha:Bi w)(n l:Int):CB 6 #[i6 n,i6 l] w (.bool true):=by
 have hp:=Hp.nil w;refine fe Tryz.func6 Tryz.ntmps6 ?_;rcases(show n<200∨¬n<200∧(1000<n∨¬1000<n∧(l<1∨¬l<1∧(6<l∨¬6<l)))by omega)with h|⟨h1,h|⟨h2,h|⟨h3,h|h4⟩⟩⟩;iterate 4 (·refine wB ?_;refine p1 ?_;exact⟨rfl,Below.refl _ _⟩)
 refine wB ?_;refine ak (.agg #[i6 1,i6 0,i6 0,.slice none 0 0]) kr ?_;refine ce (aiG no0 rfl ha) ?_;rintro _ w1 ⟨g,f,c,m,L,rfl,S,_⟩;refine⟨_,rfl,ab ?_⟩;have hp:=S.hp;have hl:0≤l∧l≤6:=by omega
 have wi:1≤l∧l≤6:=by omega
 have hn:200≤n∧n≤1000:=by omega
 have hN:0≤n∧n≤1000:=by omega
 have g1:=afS hl hN;have qG:BK tr0 (abT l n) 10000=true:=by rw[T4e hl hn,ps om om om];exact decide_eq_true om
 obtain⟨u,hu,hu1,hu2⟩:∃u:Nat,wrap64 (3+mZ l 8)=(u:Int)∧5<u∧u<300:=by
  rcases(show l=1∨l=2∨l=3∨l=4∨l=5∨l=6 by omega)with e|e|e|e|e|e<;>subst e;·exact⟨11,by(show _=_;kernel_rfl),by decide,by decide⟩
  ·exact⟨19,by(show _=_;kernel_rfl),by decide,by decide⟩
  ·exact⟨35,by(show _=_;kernel_rfl),by decide,by decide⟩
  ·exact⟨67,by(show _=_;kernel_rfl),by decide,by decide⟩
  ·exact⟨131,by(show _=_;kernel_rfl),by decide,by decide⟩
  ·exact⟨259,by(show _=_;kernel_rfl),by decide,by decide⟩
 refine wB ?_;refine ak (.agg (sS ⟨1,true,l,n,0,0⟩)) kr ?_;refine ak (.agg (ab7 (aem 4 ⟨1,true,l,n,0,0⟩))) kr ?_;refine ae7 ha rfl no0 (aem 4 ⟨1,true,l,n,0,0⟩) ((apV rfl (anu hl hN)).trans (v4 hl hN)) fun w2 c m S hp=>?_;rw[apP hN,rz hn]at S;refine ce (aiF (n:=5) no0 dd S) ?_;rintro _ w3 ⟨c,m,rfl,S⟩;refine⟨_,rfl,ab ?_⟩;rw[aqH qG]at S;have hp:=S.hp;refine wB ?_;refine aep (R1 S.ch) fun w4 S hp=>?_;refine aep (jC (x:=adu (abT l n) 2 3 3) S.ch.ref kr) fun w4 S hp=>?_;have hs:=S.below.size;refine al (fun g8 w5 n8 hp=>?_);have f8:=ayo hs n8.fresh;have S:=S.arP n8;refine wB ?_;refine sf (bL (adu (abT l n) 2 3 3)) (ao _) rfl fun w8 p7 hp=>?_;have S:=S.put p7 dX f8;refine ak (.agg (ab7 anz)) kr ?_;refine ae7 ha rfl no0 anz (lo1 wi hn hu om) fun w2 c m S hp=>?_;refine ak (i6 2) (ay (hp.at 0) (oB _) U3 rfl) ?_;refine wB ?_;refine vZ ?_;refine gq ?_;refine qs (i6 3) (fun w' h'=>ay ((hp.at 0).below h') (Zr (adu (abT l n) 2 3 3)) U3 rfl) ?_;refine gq ?_;refine qc (fun w' hw=>dJ hw (anN wi)) ?_;refine qs (i6 (u:Int)) (fun _ _=>aC rfl rfl hu) ?_;refine gq ?_;refine nl fun w9 hb hp=>?_;have S:=S.step hb;refine wB ?_;refine afH 125 (fun i=>[(0,i6 n),(6,pA f.cp 0),(11,i6 (u:Int))]) (fun i w'=>∃c m anQ,aa0 (fun _=>0) w w' c f m (loS (abT l n) n u ((5+i:Nat):Int)) anQ) (u-5) 0 ⟨_,_,_,S⟩ ?_;rintro i u' w9 hi ⟨c,m,anQ,S⟩;have hp:=S.hp;refine afK ?_;refine wB ?_;refine aep (show CP 25 #[pA f.cp 0] _ fun e w'=>e=.returned (i6 ((5+i:Nat):Int))∧_ from ahn S.ch) fun w9 S hp=>?_;skip;by_cases hc:i<u-5
 ·have c1:((5+i:Nat):Int)<(u:Int):=by omega
  have e5:((5+i:Nat):Int)+1=((5+(i+1):Nat):Int):=by omega
  have e6:((5+(i+1):Nat):Int)=((5+i+1:Nat):Int):=rfl;refine wB ?_;refine ak (.agg (ab7 aeC)) kr ?_;refine ae7 ha rfl no0 aeC (lo2 hn c1) fun w2 c m S hp=>?_;refine ak (i6 (1000-n)) (fH rfl rfl (agm om)) ?_;refine ak (i6 (1000-n+1)) (aC rfl rfl (agm om)) ?_;refine ak (.agg (ab7 (aer (1000-n+1)))) kr ?_;refine ae7 ha rfl no0 (aer (1000-n+1)) (lo3 hn) fun w2 c m S hp=>?_;refine aep (show CP 25 #[pA f.cp 0] _ fun e w'=>e=.returned (i6 ((5+i:Nat):Int))∧_ from ahn S.ch) fun w9 S hp=>?_;refine ce (UT S.ch S.ok.nc S.ok.now) ?_;rintro _ w2 ⟨c2,m2,v,rfl,k,_⟩;refine⟨_,rfl,ab ?_⟩;have S:=S.out no0 k (MM S.ok);rw[lo4 om,e5]at S;have hp:=S.hp;refine wB ?_;refine aep (show CP 25 #[pA f.cp 0] _ fun e w'=>e=.returned (i6 ((5+(i+1):Nat):Int))∧_ from ahn S.ch) fun w9 S hp=>?_;exact⟨hc,FRB,c2,m2,anQ,S⟩
 have c1:¬((5+i:Nat):Int)<(u:Int):=by omega
 have c2:(u:Int)≤((5+i:Nat):Int):=by omega
 refine wB ?_;refine ak (.agg (ab7 aeC)) kr ?_;refine ae7 ha rfl no0 aeC (lo5 c2) fun w2 c m S hp=>?_;refine ak (.agg (ab7 (aer 1000))) kr ?_;refine ae7 ha rfl no0 (aer 1000) (lo6 (T:=abT l n) (now:=((5+i:Nat):Int))) fun w2 c m S hp=>?_;refine aep (qV S.ch) fun w9 S hp=>?_;have h13:=oN S.ch.ij.ij 5;rw[lo7]at h13;refine aep h13 fun w9 S hp=>?_;refine aep AP fun w4 S hp=>?_;refine p1 ?_;exact⟨rfl,S.below⟩
end
end Go.Proofs.YtdkpbpjcbkibiaaGreatDoor.B
