/- Ce -/
import Derived.Test.YtdkpbpjcbkibiaaGreatDoorV0
import Derived.Test.YtdkpbpjcbkibiaaGreatDoorV23
set_option linter.all false
set_option maxRecDepth 100000
set_option maxHeartbeats 4000000
namespace Go.Proofs.YtdkpbpjcbkibiaaGreatDoor.B
open Go.RowKit
section
open Go.RowKit
variable{w:World}{Z Z':Nat→Prop}{b b':Option Addr}{fc kids:List bn}{g' ju QH g off cc:Nat}{bW arr:Array Value}{ty' ty:TypeId}
theorem bw.one{cs:Array Value}{c:bn}(h:bw w Z cs c):∀u∈cs.toList,u.oneCell'=true:=by rcases h.parts with⟨k,t,n,b,rfl,rfl⟩|⟨k,t,n,kids,g,off,cc,arr,ty,rfl,rfl,hk⟩<;>simp[Value.oneCell']
theorem qQ:CB 168 #[.slice b 0 0,.slice b' 0 0,.func (.func 113) #[] #[]] w (.bool (ja [] [])):=by have hp:=Hp.nil w;have hB:=Below.refl w.heap.size w;refine fe Tryz.func168 Tryz.ntmps168 ?_;refine go ?_;refine iR 1 ?_;refine go ?_;refine p1 ?_;exact⟨rfl,hB⟩
theorem qR(pX:gn w Z' g' ju QH bW ty' fc):CB 168 #[.slice b 0 0,.slice (some ⟨g',ju,none⟩) fc.length QH,.func (.func 113) #[] #[]] w (.bool (ja [] fc)):=by
 have hp:=Hp.nil w;have hB:=Below.refl w.heap.size w;have agI:=pX.fit;have anA:=pX.sm;refine fe Tryz.func168 Tryz.ntmps168 ?_;refine go ?_;by_cases c1:(0:Int)=(fc.length:Int);·refine go ?_;refine iR 1 ?_;refine go ?_;refine p1 ?_;exact⟨by rw[show ja [] fc=true from(nJ _ _).2 ⟨by simp only[ayY];omega,fun j x y q r=>by simp at q r⟩],hB⟩
 refine go ?_;refine p1 ?_;exact⟨by rw[show ja [] fc=false from xb (by first|omega|(simp only[ayY];omega))],hB⟩
theorem qS(hk:gn w Z g off cc arr ty kids)(IH:∀x∈kids,SaC x):CB 168 #[.slice (some ⟨g,off,none⟩) kids.length cc,.slice b' 0 0,.func (.func 113) #[] #[]] w (.bool (ja kids [])):=by
 have hp:=Hp.nil w;have hB:=Below.refl w.heap.size w;have mz:=hk.fit;have JC:=hk.sm;refine fe Tryz.func168 Tryz.ntmps168 ?_;refine go ?_;by_cases c1:(kids.length:Int)=0;·refine go ?_;refine iR 1 ?_;refine go ?_;refine ak (.bool false) (tH (m:=0) (n:=(kids.length:Int)) rfl rfl (decide_eq_false om)) ?_;refine p1 ?_;exact⟨by rw[show ja kids []=true from(nJ _ _).2 ⟨by simp only[ayY];omega,fun j x y q r=>by simp at q r⟩],hB⟩
 refine go ?_;refine p1 ?_;exact⟨by rw[show ja kids []=false from xb (by first|omega|(simp only[ayY];omega))],hB⟩
theorem qT(hk:gn w Z g off cc arr ty kids)(IH:∀x∈kids,SaC x)(pX:gn w Z' g' ju QH bW ty' fc):CB 168 #[.slice (some ⟨g,off,none⟩) kids.length cc,.slice (some ⟨g',ju,none⟩) fc.length QH,.func (.func 113) #[] #[]] w (.bool (ja kids fc)):=by
 have hp:=Hp.nil w;have hB:=Below.refl w.heap.size w;have mz:=hk.fit;have JC:=hk.sm;have agI:=pX.fit;have anA:=pX.sm;refine fe Tryz.func168 Tryz.ntmps168 ?_;refine go ?_;by_cases c1:(kids.length:Int)=(fc.length:Int)
 ·refine go ?_;refine cT (fun m' a' w'=>∃(i:Nat) (u6 u7 u8 u9 ig jd je iE iF iG kK k3 nA nC o3 pk qI ru:Value),a'=(fR #[.slice (some ⟨g,off,none⟩) kids.length cc,.slice (some ⟨g',ju,none⟩) fc.length QH,.func (.func 113) #[] #[],undef,undef,undef,u6,u7,u8,u9,.slice (some ⟨g,off,none⟩) kids.length cc,i6 (kids.length:Int),.slice (some ⟨g',ju,none⟩) fc.length QH,i6 (fc.length:Int),.bool false,.slice (some ⟨g,off,none⟩) kids.length cc,i6 (kids.length:Int),i6 (i:Int),ig,jd,je,iE,iF,iG,kK,k3,nA,nC,o3,pk,qI,ru])∧m'=kids.length-i∧Hp w' []∧Bw w w'∧i≤kids.length∧(∀(j:Nat) x y,j<i→kids[j]?=some x→fc[j]?=some y→dx x y=true)) _ ⟨0,.bool false,undef,undef,undef,undef,undef,undef,undef,undef,undef,undef,undef,undef,undef,undef,undef,undef,undef,rfl,rfl,(Hp.nil _),hB,om,(fun _ _ _ q=>absurd q (ay7 _))⟩ ?_;rintro m3 _ w2 ⟨i,u6,u7,u8,u9,ig,jd,je,iE,iF,iG,kK,k3,nA,nC,o3,pk,qI,ru,rfl,rfl,hp,hB,hi,ha⟩;refine go ?_;by_cases c4:(i:Int)<(kids.length:Int)
  ·obtain⟨x,hx⟩:∃x,kids[i]?=some x:=⟨_,ayq om⟩;obtain⟨y,hy⟩:∃y,fc[i]?=some y:=⟨_,ayq om⟩;have F8:=hk.at_ i x hx;have Yi:=pX.at_ i y hy;refine go ?_;refine ak (pA g (off+i*4)) (cX (l:=kids.length) (j:=(i:Int)) (off:=off) (sz:=4) U34 kr rfl rfl om om om) ?_;refine ak (.agg (arr.extract (off+i*4) (off+i*4+4))) (qt (i:=off+i*4) (n:=4) (hk.below hB).fA rfl om U36 kr rfl) ?_;refine jJ fun g5 w6 n7 hp kN hB=>?_;refine aU (i:=0) (v:=.agg (arr.extract (off+i*4) (off+i*4+4))) (hp.at 0) rfl rfl (by show _=some ((arr.extract (off+i*4) (off+i*4+4))).size;rw[F8.size];kernel_rfl) (by show 0+((arr.extract (off+i*4) (off+i*4+4))).size≤_;rw[F8.size];exact ayr rfl) F8.one (fun w9 p8=>ab ?_);have p8:=cz p8 (by show((arr.extract (off+i*4) (off+i*4+4))).size=_;rw[F8.size];kernel_rfl);have hp:=(hp.put 0 p8).nf;have hB:=aN hB p8 kN;refine go ?_;refine ak (pA g' (ju+i*4)) (cX (l:=fc.length) (j:=(i:Int)) (off:=ju) (sz:=4) U34 kr rfl rfl om om om) ?_;refine ak (.agg (bW.extract (ju+i*4) (ju+i*4+4))) (qt (i:=ju+i*4) (n:=4) (pX.below hB).fA rfl om U36 kr rfl) ?_;refine jJ fun g10 ot lS hp fI hB=>?_;refine aU (i:=0) (v:=.agg (bW.extract (ju+i*4) (ju+i*4+4))) (hp.at 0) rfl rfl (by show _=some ((bW.extract (ju+i*4) (ju+i*4+4))).size;rw[Yi.size];kernel_rfl) (by show 0+((bW.extract (ju+i*4) (ju+i*4+4))).size≤_;rw[Yi.size];exact ayr rfl) Yi.one (fun ui BL=>ab ?_);have BL:=cz BL (by show((bW.extract (ju+i*4) (ju+i*4+4))).size=_;rw[Yi.size];kernel_rfl);have hp:=(hp.put 0 BL).nf;have hB:=aN hB BL fI;refine go ?_;refine ak (.agg (arr.extract (off+i*4) (off+i*4+4))) (aQ (i:=0) (n:=4) (hp.at 1) (eR F8.size) (by rw[F8.size];exact ayp _) U36 kr rfl) ?_;refine ak (.agg (bW.extract (ju+i*4) (ju+i*4+4))) (aQ (i:=0) (n:=4) (hp.at 0) (eR Yi.size) (by rw[Yi.size];exact ayp _) U36 kr rfl) ?_;by_cases gJ:(dx x y)=true;·refine il Tryz.func113 #[.agg (arr.extract (off+i*4) (off+i*4+4)),.agg (bW.extract (ju+i*4) (ju+i*4+4))] #[.agg (arr.extract (off+i*4) (off+i*4+4)),.agg (bW.extract (ju+i*4) (ju+i*4+4))] ((mu gJ (IH x (ayw hx) y _ Z Z' _ _ (F8.under hB) (Yi.under hB)))) ?_;rintro _ qf ⟨rfl,ff⟩;refine⟨_,rfl,ab ?_⟩;have hp:=hp.below ff;have hB:=U hB ff;refine go ?_;refine ak (i6 ((i+1:Nat):Int)) (aC (m:=(i:Int)) (n:=1) (s:=((i+1:Nat):Int)) rfl rfl (by unfold wrap64;omega)) ?_;exact⟨_,om,i+1,_,_,_,_,_,_,_,_,_,_,_,_,_,_,_,_,_,_,rfl,rfl,(Hp.nil _),hB,om,(fun j x2 y2 q r r2=>by rcases ayQ j i with e|e;exact ha j x2 y2 e r r2;(have e2:j=i:=by omega);subst e2;rw[hx]at r;rw[hy]at r2;cases r;cases r2;exact gJ)⟩
   replace gJ:=eq_false_of_ne_true gJ;refine il Tryz.func113 #[.agg (arr.extract (off+i*4) (off+i*4+4)),.agg (bW.extract (ju+i*4) (ju+i*4+4))] #[.agg (arr.extract (off+i*4) (off+i*4+4)),.agg (bW.extract (ju+i*4) (ju+i*4+4))] ((mu gJ (IH x (ayw hx) y _ Z Z' _ _ (F8.under hB) (Yi.under hB)))) ?_;rintro _ s7 ⟨rfl,lz⟩;refine⟨_,rfl,ab ?_⟩;have hp:=hp.below lz;have hB:=U hB lz;refine go ?_;refine p1 ?_;exact⟨by rw[QE hx hy gJ],hB⟩
  refine go ?_;refine p1 ?_;exact⟨by rw[show ja kids fc=true from(nJ _ _).2 ⟨by omega,fun j x y q r=>ha j x y (by have:=(ays.1 q).1;omega) q r⟩],hB⟩
 refine go ?_;refine p1 ?_;exact⟨by rw[show ja kids fc=false from xb (by first|omega|(simp only[ayY];omega))],hB⟩
theorem zZ(k t n k' t' n':Int):CB 113 #[.agg #[i6 k,i6 t,i6 n,.slice b 0 0],.agg #[i6 k',i6 t',i6 n',.slice b' 0 0]] w (.bool (dx (.mk k t n []) (.mk k' t' n' []))):=by
 have hp:=Hp.nil w;have hB:=Below.refl w.heap.size w;refine fe Tryz.func113 Tryz.ntmps113 ?_;refine go ?_;refine ic fun g1 w2 n3 hp ai hB=>?_;refine ic fun g4 w5 n6 hp aL hB=>?_;by_cases c7:k=k'
 ·refine go ?_;by_cases c8:t=t'
  ·refine go ?_;by_cases c9:n=n'
   ·refine go ?_;by_cases dv:(ja [] [])=true;·refine cC ((mu dv (qQ))) fun ot fY hp hB=>?_;refine p1 ?_;exact⟨by rw[show dx (.mk k t n []) (.mk k' t' n' [])=true by rw[dx];simp[c7,c8,c9,dv]],hB⟩
    replace dv:=eq_false_of_ne_true dv;refine cC ((mu dv (qQ))) fun oD eI hp hB=>?_;refine p1 ?_;exact⟨by rw[show dx (.mk k t n []) (.mk k' t' n' [])=false by rw[dx];simp[c7,c8,c9,dv]],hB⟩
   refine go ?_;refine p1 ?_;exact⟨by rw[show dx (.mk k t n []) (.mk k' t' n' [])=false by rw[dx];simp[c7,c8,c9]],hB⟩
  refine go ?_;refine p1 ?_;exact⟨by rw[show dx (.mk k t n []) (.mk k' t' n' [])=false by rw[dx];simp[c7,c8]],hB⟩
 refine go ?_;refine p1 ?_;exact⟨by rw[show dx (.mk k t n []) (.mk k' t' n' [])=false by rw[dx];simp[c7]],hB⟩
theorem z6(pX:gn w Z' g' ju QH bW ty' fc)(k t n k' t' n':Int):CB 113 #[.agg #[i6 k,i6 t,i6 n,.slice b 0 0],.agg #[i6 k',i6 t',i6 n',.slice (some ⟨g',ju,none⟩) fc.length QH]] w (.bool (dx (.mk k t n []) (.mk k' t' n' fc))):=by
 have hp:=Hp.nil w;have hB:=Below.refl w.heap.size w;refine fe Tryz.func113 Tryz.ntmps113 ?_;refine go ?_;refine ic fun g1 w2 n3 hp ai hB=>?_;refine ic fun g4 w5 n6 hp aL hB=>?_;by_cases c7:k=k'
 ·refine go ?_;by_cases c8:t=t'
  ·refine go ?_;by_cases c9:n=n'
   ·refine go ?_;by_cases dv:(ja [] fc)=true;·refine cC ((mu dv (qR (pX.below hB)))) fun ot fY hp hB=>?_;refine p1 ?_;exact⟨by rw[show dx (.mk k t n []) (.mk k' t' n' fc)=true by rw[dx];simp[c7,c8,c9,dv]],hB⟩
    replace dv:=eq_false_of_ne_true dv;refine cC ((mu dv (qR (pX.below hB)))) fun oD eI hp hB=>?_;refine p1 ?_;exact⟨by rw[show dx (.mk k t n []) (.mk k' t' n' fc)=false by rw[dx];simp[c7,c8,c9,dv]],hB⟩
   refine go ?_;refine p1 ?_;exact⟨by rw[show dx (.mk k t n []) (.mk k' t' n' fc)=false by rw[dx];simp[c7,c8,c9]],hB⟩
  refine go ?_;refine p1 ?_;exact⟨by rw[show dx (.mk k t n []) (.mk k' t' n' fc)=false by rw[dx];simp[c7,c8]],hB⟩
 refine go ?_;refine p1 ?_;exact⟨by rw[show dx (.mk k t n []) (.mk k' t' n' fc)=false by rw[dx];simp[c7]],hB⟩
theorem z7(hk:gn w Z g off cc arr ty kids)(IH:∀x∈kids,SaC x)(k t n k' t' n':Int):CB 113 #[.agg #[i6 k,i6 t,i6 n,.slice (some ⟨g,off,none⟩) kids.length cc],.agg #[i6 k',i6 t',i6 n',.slice b' 0 0]] w (.bool (dx (.mk k t n kids) (.mk k' t' n' []))):=by
 have hp:=Hp.nil w;have hB:=Below.refl w.heap.size w;refine fe Tryz.func113 Tryz.ntmps113 ?_;refine go ?_;refine ic fun g1 w2 n3 hp ai hB=>?_;refine ic fun g4 w5 n6 hp aL hB=>?_;by_cases c7:k=k'
 ·refine go ?_;by_cases c8:t=t'
  ·refine go ?_;by_cases c9:n=n'
   ·refine go ?_;by_cases dv:(ja kids [])=true;·refine cC ((mu dv (qS (hk.below hB) (fun x hx=>IH x hx)))) fun ot fY hp hB=>?_;refine p1 ?_;exact⟨by rw[show dx (.mk k t n kids) (.mk k' t' n' [])=true by rw[dx];simp[c7,c8,c9,dv]],hB⟩
    replace dv:=eq_false_of_ne_true dv;refine cC ((mu dv (qS (hk.below hB) (fun x hx=>IH x hx)))) fun oD eI hp hB=>?_;refine p1 ?_;exact⟨by rw[show dx (.mk k t n kids) (.mk k' t' n' [])=false by rw[dx];simp[c7,c8,c9,dv]],hB⟩
   refine go ?_;refine p1 ?_;exact⟨by rw[show dx (.mk k t n kids) (.mk k' t' n' [])=false by rw[dx];simp[c7,c8,c9]],hB⟩
  refine go ?_;refine p1 ?_;exact⟨by rw[show dx (.mk k t n kids) (.mk k' t' n' [])=false by rw[dx];simp[c7,c8]],hB⟩
 refine go ?_;refine p1 ?_;exact⟨by rw[show dx (.mk k t n kids) (.mk k' t' n' [])=false by rw[dx];simp[c7]],hB⟩
theorem z8(hk:gn w Z g off cc arr ty kids)(IH:∀x∈kids,SaC x)(pX:gn w Z' g' ju QH bW ty' fc)(k t n k' t' n':Int):CB 113 #[.agg #[i6 k,i6 t,i6 n,.slice (some ⟨g,off,none⟩) kids.length cc],.agg #[i6 k',i6 t',i6 n',.slice (some ⟨g',ju,none⟩) fc.length QH]] w (.bool (dx (.mk k t n kids) (.mk k' t' n' fc))):=by
 have hp:=Hp.nil w;have hB:=Below.refl w.heap.size w;refine fe Tryz.func113 Tryz.ntmps113 ?_;refine go ?_;refine ic fun g1 w2 n3 hp ai hB=>?_;refine ic fun g4 w5 n6 hp aL hB=>?_;by_cases c7:k=k'
 ·refine go ?_;by_cases c8:t=t'
  ·refine go ?_;by_cases c9:n=n'
   ·refine go ?_;by_cases dv:(ja kids fc)=true;·refine cC ((mu dv (qT (hk.below hB) (fun x hx=>IH x hx) (pX.below hB)))) fun ot fY hp hB=>?_;refine p1 ?_;exact⟨by rw[show dx (.mk k t n kids) (.mk k' t' n' fc)=true by rw[dx];simp[c7,c8,c9,dv]],hB⟩
    replace dv:=eq_false_of_ne_true dv;refine cC ((mu dv (qT (hk.below hB) (fun x hx=>IH x hx) (pX.below hB)))) fun oD eI hp hB=>?_;refine p1 ?_;exact⟨by rw[show dx (.mk k t n kids) (.mk k' t' n' fc)=false by rw[dx];simp[c7,c8,c9,dv]],hB⟩
   refine go ?_;refine p1 ?_;exact⟨by rw[show dx (.mk k t n kids) (.mk k' t' n' fc)=false by rw[dx];simp[c7,c8,c9]],hB⟩
  refine go ?_;refine p1 ?_;exact⟨by rw[show dx (.mk k t n kids) (.mk k' t' n' fc)=false by rw[dx];simp[c7,c8]],hB⟩
 refine go ?_;refine p1 ?_;exact⟨by rw[show dx (.mk k t n kids) (.mk k' t' n' fc)=false by rw[dx];simp[c7]],hB⟩
theorem xV(c:bn):SaC c:=by
 refine bn.ind (P:=SaC) (fun c IH=>?_) c;intro y w Z Z' cs cs' hc hy;rcases hc.parts with⟨k,t,n,b,rfl,rfl⟩|⟨k,t,n,kids,g,off,cc,arr,ty,rfl,rfl,hk⟩<;>rcases hy.parts with⟨k',t',n',b',rfl,rfl⟩|⟨k',t',n',fc,g',ju,QH,bW,ty',rfl,rfl,pX⟩;·exact zZ k t n k' t' n'
 ·exact z6 pX k t n k' t' n'
 ·exact z7 hk IH k t n k' t' n'
 ·exact z8 hk IH pX k t n k' t' n'
end
end Go.Proofs.YtdkpbpjcbkibiaaGreatDoor.B
