/- Model Leaf Conv Per -/
import Derived.Test.YtdkpbpjcbkibiaaGreatDoorV0
import Derived.Test.YtdkpbpjcbkibiaaGreatDoorV1
set_option linter.all false
set_option maxRecDepth 100000
set_option maxHeartbeats 4000000
namespace Go.Proofs.YtdkpbpjcbkibiaaGreatDoor.B
open Go.RowKit
section
open Go.RowKit
structure cZ where
 kind:Int
 jP:Bool
 level:Int
 a:Int
 n:Int
 s:Int
structure j3 where
 cI:Int
 da:Int
 support:Int
structure bU where
 bs:List UInt8
 len:bs.length=32
structure aY where
 state:Int
 aa:Int
 sum:bU
 after:Int
 aq:Int
 eo:Int
 put:Bool
 aP:Int
 since:Int
 aZ:Int
 end_:Int
 av:j3
def i64(n:Int):Value:=.int .i64 n
def eT(h:bU):List Value:=h.bs.map fun b=>.int .u8 b.toNat
theorem bK(h:bU):(eT h).length=32:=by simp[eT,h.len]
def ks(v:cZ):List Value:=[.int .i64 v.kind,.bool v.jP,.int .i64 v.level,.int .i64 v.a,.int .i64 v.n,.int .i64 v.s]
def ae(r:aY):Array Value:=(([.int .i64 r.state,.int .i64 r.aa]:List Value)++eT r.sum++([.int .i64 r.after,.int .i64 r.aq,.int .i64 r.eo,.bool r.put,.int .i64 r.aP,.int .i64 r.since,.int .i64 r.aZ,.int .i64 r.end_,.int .i64 r.av.cI,.int .i64 r.av.da,.int .i64 r.av.support]:List Value)).toArray
theorem ao(r:aY):(ae r).size=45:=by simp[ae,bK]
def fT(e:(Int×Int)×Int):Array Value:=#[.int .i64 e.1.1,.int .i64 e.1.2,.int .i64 e.2]
def fm(e:(Int×Int)×cZ):Array Value:=#[.int .i64 e.1.1,.int .i64 e.1.2,.int .i64 e.2.kind,.bool e.2.jP,.int .i64 e.2.level,.int .i64 e.2.a,.int .i64 e.2.n,.int .i64 e.2.s]
def ep(e:(Int×Int)×aY):Array Value:=(#[.int .i64 e.1.1,.int .i64 e.1.2]:Array Value)++ae e.2
theorem nz(e:(Int×Int)×aY):(ep e).size=47:=by simp[ep,ao]
theorem KR(e:(Int×Int)×aY):(ep e).extract 0 (0+2)=#[.int .i64 e.1.1,.int .i64 e.1.2]:=by simp[ep]
theorem BH(e:(Int×Int)×aY):(ep e).extract 2 (2+45)=ae e.2:=by simp[ep,Array.extract_append,ao]
theorem oL(h:bU):∀u∈eT h,u.oneCell'=true:=by intro u hu;obtain⟨b,_,rfl⟩:=ayM.1 hu;rfl
theorem bL(r:aY):∀u∈(ae r).toList,u.oneCell'=true:=by
 intro u hu;simp only[ae,azk]at hu;rcases hu with(hu|hu)|hu;·revert u;simp[Value.oneCell']
 ·exact oL _ u hu
 ·revert u;simp[Value.oneCell']
theorem OA(e:(Int×Int)×aY):∀u∈(ep e).toList,u.oneCell'=true:=by
 intro u hu;simp only[ep,aAg,azk]at hu;rcases hu with hu|hu;·revert u;simp[Value.oneCell']
 ·exact bL _ u hu
theorem oB(r:aY):(ae r)[0]?=some (.int .i64 r.state):=by simp[ae,bK,ay2]
theorem rk(r:aY):(ae r)[1]?=some (.int .i64 r.aa):=by simp[ae,bK,ay2]
theorem OB(r:aY):(ae r)[34]?=some (.int .i64 r.after):=by simp[ae,bK,ay2]
theorem Ha(r:aY):(ae r)[35]?=some (.int .i64 r.aq):=by simp[ae,bK,ay2]
theorem Hb(r:aY):(ae r)[36]?=some (.int .i64 r.eo):=by simp[ae,bK,ay2]
theorem y8(r:aY):(ae r)[37]?=some (.bool r.put):=by simp[ae,bK,ay2]
theorem lv(r:aY):(ae r)[38]?=some (.int .i64 r.aP):=by simp[ae,bK,ay2]
theorem wk(r:aY):(ae r)[39]?=some (.int .i64 r.since):=by simp[ae,bK,ay2]
theorem nP(r:aY):(ae r)[40]?=some (.int .i64 r.aZ):=by simp[ae,bK,ay2]
theorem Zr(r:aY):(ae r)[41]?=some (.int .i64 r.end_):=by simp[ae,bK,ay2]
theorem Zs(r:aY):(ae r)[42]?=some (.int .i64 r.av.cI):=by simp[ae,bK,ay2]
theorem Zt(r:aY):(ae r)[43]?=some (.int .i64 r.av.da):=by simp[ae,bK,ay2]
theorem Zu(r:aY):(ae r)[44]?=some (.int .i64 r.av.support):=by simp[ae,bK,ay2]
theorem bF(r:aY):(ae r).extract 0 (0+45)=ae r:=by have h:=ao r;simp only[ayR];rw[←h];simp
def aJ(h:bU):Array Value:=(eT h).toArray
theorem bd(h:bU):(aJ h).size=32:=by simp[aJ,bK]
theorem iJ(h:bU):∀u∈(aJ h).toList,u.oneCell'=true:=oL h
theorem uY(r:aY):(ae r).extract 2 (2+32)=aJ r.sum:=by have h:=bK r.sum;apply aAE;simp[ae,aJ,azP,azQ,h]
end
section
open Go.RowKit
variable{n low high:Int}
attribute [local go_sem] uL yS C1 C2
def dn(n low high:Int):Bool:=decide (low≤n∧n≤high)
theorem BI(h:¬(low≤n∧n≤high)):dn n low high=false:=decide_eq_false h
theorem dC:dn n low high=true↔low≤n∧n≤high:=decide_eq_true_iff
theorem wm(h:low≤n):dn n low high=decide (n≤high):=by unfold dn;rw[decide_eq_decide];exact⟨fun h=>h.2,fun q=>⟨h,q⟩⟩
theorem bY(n low high:Int):fq 63 #[.int .i64 n,.int .i64 low,.int .i64 high] (.bool (dn n low high)):=fun w=>by
 by_cases h:low≤n;·have e:=As.mk (wm (high:=high) h);rw[e.out];go_enter Tryz.func63,Tryz.ntmps63;go_wp2;go_ret;exact⟨rfl,Below.refl _ _⟩
 ·have e:=As.mk (BI (n:=n) (low:=low) (high:=high) fun q=>h q.1);rw[e.out];go_enter Tryz.func63,Tryz.ntmps63;go_wp2;go_ret;exact⟨rfl,Below.refl _ _⟩
theorem kL(n low high:Int):fq 82 #[.int .i64 n,.int .i64 low,.int .i64 high] (.bool (dn n low high)):=fun w=>by
 by_cases h:low≤n;·have e:=As.mk (wm (high:=high) h);rw[e.out];go_enter Tryz.func82,Tryz.ntmps82;go_wp2;go_ret;exact⟨rfl,Below.refl _ _⟩
 ·have e:=As.mk (BI (n:=n) (low:=low) (high:=high) fun q=>h q.1);rw[e.out];go_enter Tryz.func82,Tryz.ntmps82;go_wp2;go_ret;exact⟨rfl,Below.refl _ _⟩
theorem oC(n low high:Int):fq 115 #[.int .i64 n,.int .i64 low,.int .i64 high] (.bool (dn n low high)):=fun w=>by
 by_cases h:low≤n;·have e:=As.mk (wm (high:=high) h);rw[e.out];go_enter Tryz.func115,Tryz.ntmps115;go_wp2;go_ret;exact⟨rfl,Below.refl _ _⟩
 ·have e:=As.mk (BI (n:=n) (low:=low) (high:=high) fun q=>h q.1);rw[e.out];go_enter Tryz.func115,Tryz.ntmps115;go_wp2;go_ret;exact⟨rfl,Below.refl _ _⟩
theorem ie(n low high:Int):fq 153 #[.int .i64 n,.int .i64 low,.int .i64 high] (.bool (dn n low high)):=fun w=>by
 by_cases h:low≤n;·have e:=As.mk (wm (high:=high) h);rw[e.out];go_enter Tryz.func153,Tryz.ntmps153;go_wp2;go_ret;exact⟨rfl,Below.refl _ _⟩
 ·have e:=As.mk (BI (n:=n) (low:=low) (high:=high) fun q=>h q.1);rw[e.out];go_enter Tryz.func153,Tryz.ntmps153;go_wp2;go_ret;exact⟨rfl,Below.refl _ _⟩
theorem sG(n low high:Int):fq 197 #[.int .i64 n,.int .i64 low,.int .i64 high] (.bool (dn n low high)):=fun w=>by
 by_cases h:low≤n;·have e:=As.mk (wm (high:=high) h);rw[e.out];go_enter Tryz.func197,Tryz.ntmps197;go_wp2;go_ret;exact⟨rfl,Below.refl _ _⟩
 ·have e:=As.mk (BI (n:=n) (low:=low) (high:=high) fun q=>h q.1);rw[e.out];go_enter Tryz.func197,Tryz.ntmps197;go_wp2;go_ret;exact⟨rfl,Below.refl _ _⟩
theorem jX(n:Int):fq 66 #[.int .i64 n] (.bool (dn n 0 9)):=fun w=>by have H:=As.mk (bY n 0 9);obtain⟨r,hr⟩:∃r,dn n 0 9=r:=⟨_,rfl⟩;rw[hr]at H ⊢;clear hr;go_enter Tryz.func66,Tryz.ntmps66;go_wp2_with (go_at_call 63;refine(H.out _).mono ?_;rintro e w1 ⟨rfl,hb⟩;have HB:=As.mk hb;clear hb);go_ret;exact⟨rfl,HB.out⟩
theorem jm(n:Int):fq 126 #[.int .i64 n] (.bool (dn n 0 9)):=fun w=>by have H:=As.mk (kL n 0 9);obtain⟨r,hr⟩:∃r,dn n 0 9=r:=⟨_,rfl⟩;rw[hr]at H ⊢;clear hr;go_enter Tryz.func126,Tryz.ntmps126;go_wp2_with (go_at_call 82;refine(H.out _).mono ?_;rintro e w1 ⟨rfl,hb⟩;have HB:=As.mk hb;clear hb);go_ret;exact⟨rfl,HB.out⟩
theorem lO(n:Int):fq 138 #[.int .i64 n] (.bool (dn n 0 3)):=fun w=>by have H:=As.mk (kL n 0 3);obtain⟨r,hr⟩:∃r,dn n 0 3=r:=⟨_,rfl⟩;rw[hr]at H ⊢;clear hr;go_enter Tryz.func138,Tryz.ntmps138;go_wp2_with (go_at_call 82;refine(H.out _).mono ?_;rintro e w1 ⟨rfl,hb⟩;have HB:=As.mk hb;clear hb);go_ret;exact⟨rfl,HB.out⟩
theorem fO(n:Int):fq 94 #[.int .i64 n] (.bool (dn n 0 1073741824)):=fun w=>by
 by_cases h:0≤n;·have e:=As.mk (wm (high:=1073741824) h);rw[e.out];go_enter Tryz.func94,Tryz.ntmps94;go_wp2;go_ret;exact⟨rfl,Below.refl _ _⟩
 ·have e:=As.mk (BI (n:=n) (low:=0) (high:=1073741824) fun q=>h q.1);rw[e.out];go_enter Tryz.func94,Tryz.ntmps94;go_wp2;go_ret;exact⟨rfl,Below.refl _ _⟩
def fv(n level:Int):Int:=if level=0 then wrap64 (Int.tdiv n 10)else wrap64 (n*level)
theorem rm(n level:Int):fq 140 #[.int .i64 n,.int .i64 level] (.int .i64 (fv n level)):=fun w=>by
 by_cases h:level=0;·have e:As (fv n level=wrap64 (Int.tdiv n 10)):=⟨if_pos h⟩;have t:(level==0)=true:=beq_iff_eq.2 h;rw[e.out];clear h e;go_enter Tryz.func140,Tryz.ntmps140;go_wp2;go_ret;exact⟨by simp[uM],Below.refl _ _⟩
 ·have e:As (fv n level=wrap64 (n*level)):=⟨if_neg h⟩;have t:(level==0)=false:=beq_eq_false_iff_ne.2 h;rw[e.out];clear h e;go_enter Tryz.func140,Tryz.ntmps140;go_wp2;go_ret;exact⟨by simp[uM],Below.refl _ _⟩
end
section
open Go.RowKit
variable{w:World}{g:Nat}{t:TypeId}
structure Wt where
 dm:Int
 ds:Int
def qe(t:j3):Value:=.agg #[.int .i64 t.cI,.int .i64 t.da,.int .i64 t.support]
def dU(t g:j3):j3:=⟨wrap64 (t.cI+g.cI),wrap64 (t.da+g.da),wrap64 (t.support+g.support)⟩
def cE(t g:j3):j3:=⟨wrap64 (t.cI+wrap64 (-g.cI)),wrap64 (t.da+wrap64 (-g.da)),wrap64 (t.support+wrap64 (-g.support))⟩
def uf(v:cZ):Int:=wrap64 (wrap64 (v.a+v.n)+v.s)
def aI(v:cZ)(w:Wt):j3:=
 if v.kind=1 then(if v.jP=true then⟨wrap64 (fv v.a v.level+w.dm),0,wrap64 (v.a+w.ds)⟩else⟨0,wrap64 (fv v.a v.level+w.dm),0⟩)
 else⟨fv v.a 0,fv v.n 0,wrap64 (v.a+v.s)⟩
def rn(v:cZ):Bool:=dn v.a 0 1073741824&&dn v.n 0 1073741824&&dn v.s 0 1073741824&&decide (wrap64 (wrap64 (wrap64 v.a+v.n)+v.s)≤1073741824)
def eE(v:cZ):Bool:=rn v&&(if v.kind=1 then dn v.level 0 6&&decide (v.n=0)&&decide (v.s=0)else if v.kind=2 then !v.jP&&decide (v.level=0)&&decide (v.s=0)else if v.kind=3 then !v.jP&&decide (v.level=0)else false)
def mZ(level p:Int):Int:=if level=0 then 0 else wrap64 (p*2^(level-1).toNat)
theorem ly(v:cZ):CB 129 #[.agg #[i6 v.kind,.bool v.jP,i6 v.level,i6 v.a,i6 v.n,i6 v.s]] w (.int .i64 (uf v)):=by have hp:=Hp.nil w;have hB:=Below.refl w.heap.size w;refine fe Tryz.func129 Tryz.ntmps129 ?_;refine go ?_;refine ic fun g1 w2 n3 hp ai hB=>?_;refine ak (i6 (wrap64 (v.a+v.n))) (aC rfl rfl rfl) ?_;refine ak (i6 (wrap64 ((wrap64 (v.a+v.n))+v.s))) (aC rfl rfl rfl) ?_;refine p1 ?_;exact⟨by simp[uf],hB⟩
theorem sH(v:cZ)(g:Wt):CB 108 #[.agg #[i6 v.kind,.bool v.jP,i6 v.level,i6 v.a,i6 v.n,i6 v.s],.agg #[i6 g.dm,i6 g.ds]] w (qe (aI v g)):=by
 have hp:=Hp.nil w;have hB:=Below.refl w.heap.size w;refine fe Tryz.func108 Tryz.ntmps108 ?_;refine go ?_;refine ic fun g1 w2 n3 hp ai hB=>?_;refine ic fun g4 w5 n6 hp aL hB=>?_;refine jJ fun g7 w8 n9 hp bj hB=>?_;by_cases dv:v.kind=1
 ·refine go ?_;refine vZ ?_;refine gq ?_;refine qc (bQ (rm v.a v.level)) ?_;refine gq ?_;refine qs (i6 (wrap64 ((fv v.a v.level)+g.dm))) (fun w' h'=>aC rfl rfl rfl) ?_;refine gq ?_;refine nB fun ot fY hp hB=>?_;refine go ?_;by_cases ng:v.jP=true;·refine ak (.bool true) (ob ng (ay (hp.at 2) rfl U4 rfl)) ?_;refine ak (i6 (wrap64 (v.a+g.ds))) (aC rfl rfl rfl) ?_;refine ak (.agg #[i6 (wrap64 ((fv v.a v.level)+g.dm)),i6 0,i6 (wrap64 (v.a+g.ds))]) kr ?_;refine gG bj fun pb ov hp hB=>?_;refine kh (el (s:=4) (ty:=56) (cs:=#[i6 (wrap64 ((fv v.a v.level)+g.dm)),i6 0,i6 (wrap64 (v.a+g.ds))]) (hp.at 0) U56 kr) ?_;exact⟨by simp[aI,qe,dv,ng],hB⟩
  replace ng:=eq_false_of_ne_true ng;refine ak (.bool false) (ob ng (ay (hp.at 2) rfl U4 rfl)) ?_;refine ak (.agg #[i6 0,i6 (wrap64 ((fv v.a v.level)+g.dm)),i6 0]) kr ?_;refine gG bj fun s6 NR hp hB=>?_;refine kh (el (s:=4) (ty:=56) (cs:=#[i6 0,i6 (wrap64 ((fv v.a v.level)+g.dm)),i6 0]) (hp.at 0) U56 kr) ?_;exact⟨by simp[aI,qe,dv,ng],hB⟩
 refine go ?_;refine gu 12 ?_;refine gq ?_;refine qc (bQ (rm v.a 0)) ?_;refine gq ?_;refine qc (bQ (rm v.n 0)) ?_;refine gq ?_;refine qs (i6 (wrap64 (v.a+v.s))) (fun w' h'=>aC rfl rfl rfl) ?_;refine qs (.agg #[i6 (fv v.a 0),i6 (fv v.n 0),i6 (wrap64 (v.a+v.s))]) (fun w' h'=>by kernel_rfl) ?_;refine nB fun s7 lz hp hB=>?_;refine gG bj fun uG p20 hp hB=>?_;refine kh (el (s:=4) (ty:=56) (cs:=#[i6 (fv v.a 0),i6 (fv v.n 0),i6 (wrap64 (v.a+v.s))]) (hp.at 0) U56 kr) ?_;exact⟨by simp[aI,qe,dv],hB⟩
theorem uZ(v:cZ)(hb:bH w g #[.int .i64 v.a,.int .i64 v.n,.int .i64 v.s] t):CB 114 #[.slice (some ⟨g,0,none⟩) 3 3] w (.bool (rn v)):=by
 have hp:=(Hp.nil w).cons hb (by simp);have hB:=Below.refl w.heap.size w;refine fe Tryz.func114 Tryz.ntmps114 ?_;refine go ?_;refine iR 4 ?_;refine go ?_;refine ak (pA g 0) (cX (l:=3) (j:=0) (off:=0) (sz:=1) U74 kr rfl rfl dd dd rfl) ?_;by_cases c1:(dn v.a 0 1073741824)=true
 ·refine cC ((eW c1 (oC v.a 0 1073741824)) _) fun w2 js hp hB=>?_;refine ak (i6 (wrap64 v.a)) (aC (m:=0) (n:=v.a) (s:=wrap64 v.a) rfl rfl (by rw[Int.zero_add])) ?_;refine ak (i6 1) (aC (m:=0) (n:=1) (s:=1) rfl rfl kr) ?_;refine ak (pA g 1) (cX (l:=3) (j:=1) (off:=0) (sz:=1) U74 kr rfl rfl dd dd rfl) ?_;by_cases c4:(dn v.n 0 1073741824)=true
  ·refine cC ((eW c4 (oC v.n 0 1073741824)) _) fun w5 nQ hp hB=>?_;refine ak (i6 (wrap64 ((wrap64 v.a)+v.n))) (aC rfl rfl rfl) ?_;refine ak (i6 2) (aC (m:=1) (n:=1) (s:=2) rfl rfl kr) ?_;refine ak (pA g 2) (cX (l:=3) (j:=2) (off:=0) (sz:=1) U74 kr rfl rfl dd dd rfl) ?_;by_cases c7:(dn v.s 0 1073741824)=true
   ·refine cC ((eW c7 (oC v.s 0 1073741824)) _) fun w8 fD hp hB=>?_;refine ak (i6 (wrap64 ((wrap64 ((wrap64 v.a)+v.n))+v.s))) (aC rfl rfl rfl) ?_;refine ak (i6 3) (aC (m:=2) (n:=1) (s:=3) rfl rfl kr) ?_;by_cases dv:wrap64 ((wrap64 ((wrap64 v.a)+v.n))+v.s)≤1073741824;·refine go ?_;refine p1 ?_;exact⟨by simp[rn,c1,c4,c7,dv],hB⟩
    refine go ?_;refine p1 ?_;exact⟨by simp[rn,c1,c4,c7,dv],hB⟩
   replace c7:=eq_false_of_ne_true c7;refine cC ((eW c7 (oC v.s 0 1073741824)) _) fun ot fY hp hB=>?_;refine p1 ?_;exact⟨by simp[rn,c1,c4,c7],hB⟩
  replace c4:=eq_false_of_ne_true c4;refine cC ((eW c4 (oC v.n 0 1073741824)) _) fun oD eI hp hB=>?_;refine p1 ?_;exact⟨by simp[rn,c1,c4],hB⟩
 replace c1:=eq_false_of_ne_true c1;refine cC ((eW c1 (oC v.a 0 1073741824)) _) fun pb jx hp hB=>?_;refine p1 ?_;exact⟨by simp[rn,c1],hB⟩
theorem pd(v:cZ):CB 67 #[.agg #[i6 v.kind,.bool v.jP,i6 v.level,i6 v.a,i6 v.n,i6 v.s]] w (.bool (eE v)):=by
 have hp:=Hp.nil w;have hB:=Below.refl w.heap.size w;refine fe Tryz.func67 Tryz.ntmps67 ?_;refine go ?_;refine ic fun g1 w2 n3 hp ai hB=>?_;refine dT (n:=3) (cells:=#[i6 v.a,i6 v.n,i6 v.s]) (e:=3) kr (fun g4 w5 n6=>ab ?_);have hp:=hp.new n6;have aL:=ayo hB.size n6.fresh;have hB:=U hB n6.below;by_cases c7:(rn v)=true
 ·refine cC ((mu c7 (uZ v (hp.at 0)))) fun w8 fD hp hB=>?_;by_cases dv:v.kind=1
  ·refine go ?_;by_cases gA:(dn v.level 0 6)=true
   ·refine cC ((eW gA (oC v.level 0 6)) _) fun pW kZ hp hB=>?_;by_cases oE:v.n=0
    ·refine go ?_;by_cases gJ:v.s=0;·refine go ?_;refine p1 ?_;exact⟨by simp[eE,c7,dv,gA,oE,gJ],hB⟩
     refine go ?_;refine p1 ?_;exact⟨by simp[eE,c7,dv,gA,oE,gJ],hB⟩
    refine go ?_;refine p1 ?_;exact⟨by simp[eE,c7,dv,gA,oE],hB⟩
   replace gA:=eq_false_of_ne_true gA;refine cC ((eW gA (oC v.level 0 6)) _) fun qf ff hp hB=>?_;refine p1 ?_;exact⟨by simp[eE,c7,dv,gA],hB⟩
  refine go ?_;by_cases OC:v.kind=2
  ·refine go ?_;by_cases im:v.jP=true;·refine ak (.bool true) (ob im (ay (hp.at 1) rfl U4 rfl)) ?_;refine p1 ?_;exact⟨by simp[eE,c7,dv,OC,im],hB⟩
   replace im:=eq_false_of_ne_true im;refine ak (.bool false) (ob im (ay (hp.at 1) rfl U4 rfl)) ?_;by_cases KS:v.level=0
   ·refine go ?_;by_cases EW:v.s=0;·refine go ?_;refine p1 ?_;exact⟨by simp[eE,c7,dv,OC,im,KS,EW],hB⟩
    refine go ?_;refine p1 ?_;exact⟨by simp[eE,c7,dv,OC,im,KS,EW],hB⟩
   refine go ?_;refine p1 ?_;exact⟨by simp[eE,c7,dv,OC,im,KS],hB⟩
  refine go ?_;by_cases c22:v.kind=3
  ·refine go ?_;by_cases S8:v.jP=true;·refine ak (.bool true) (ob S8 (ay (hp.at 1) rfl U4 rfl)) ?_;refine p1 ?_;exact⟨by simp[eE,c7,dv,OC,c22,S8],hB⟩
   replace S8:=eq_false_of_ne_true S8;refine ak (.bool false) (ob S8 (ay (hp.at 1) rfl U4 rfl)) ?_;by_cases KT:v.level=0;·refine go ?_;refine p1 ?_;exact⟨by simp[eE,c7,dv,OC,c22,S8,KT],hB⟩
   refine go ?_;refine p1 ?_;exact⟨by simp[eE,c7,dv,OC,c22,S8,KT],hB⟩
  refine go ?_;refine p1 ?_;exact⟨by simp[eE,c7,dv,OC,c22],hB⟩
 replace c7:=eq_false_of_ne_true c7;refine cC ((mu c7 (uZ v (hp.at 0)))) fun Hc qY hp hB=>?_;refine p1 ?_;exact⟨by simp[eE,c7],hB⟩
theorem Dc(y x:j3)(hb:bH w g #[.int .i64 x.cI,.int .i64 x.da,.int .i64 x.support] t):CB 107 #[.agg #[i6 y.cI,i6 y.da,i6 y.support],.slice (some ⟨g,0,none⟩) 1 1] w (qe (dU y x)):=by have hp:=(Hp.nil w).cons hb (by simp);have hB:=Below.refl w.heap.size w;refine fe Tryz.func107 Tryz.ntmps107 ?_;refine go ?_;refine ic fun g1 w2 n3 hp ai hB=>?_;refine jJ fun g4 w5 n6 hp aL hB=>?_;refine iR 2 ?_;refine go ?_;refine ak (pA g 0) (cX (l:=1) (j:=0) (off:=0) (sz:=3) U264 kr rfl rfl dd dd rfl) ?_;refine jJ fun g7 w8 n9 hp bj hB=>?_;refine gG bj fun ot KU hp hB=>?_;refine ak (i6 (wrap64 (y.cI+x.cI))) (aC rfl rfl rfl) ?_;refine gG ai fun oD s8 hp hB=>?_;refine ak (i6 (wrap64 (y.da+x.da))) (aC rfl rfl rfl) ?_;refine gG ai fun pb ov hp hB=>?_;refine ak (i6 (wrap64 (y.support+x.support))) (aC rfl rfl rfl) ?_;refine gG ai fun s6 NR hp hB=>?_;refine ak (i6 1) (aC (m:=0) (n:=1) (s:=1) rfl rfl kr) ?_;refine gG aL fun uH ug hp hB=>?_;refine kh (el (s:=4) (ty:=56) (cs:=#[i6 (wrap64 (y.cI+x.cI)),i6 (wrap64 (y.da+x.da)),i6 (wrap64 (y.support+x.support))]) (hp.at 1) U56 kr) ?_;exact⟨by simp[dU,qe],hB⟩
theorem He(y x:j3):CB 131 #[.agg #[i6 y.cI,i6 y.da,i6 y.support],.agg #[i6 x.cI,i6 x.da,i6 x.support]] w (qe (cE y x)):=by have hp:=Hp.nil w;have hB:=Below.refl w.heap.size w;refine fe Tryz.func131 Tryz.ntmps131 ?_;refine go ?_;refine ic fun g1 w2 n3 hp ai hB=>?_;refine ic fun g4 w5 n6 hp aL hB=>?_;refine jJ fun g7 w8 n9 hp bj hB=>?_;refine ak (i6 (wrap64 (-x.cI))) (ES (m:=x.cI) rfl) ?_;refine ak (i6 (wrap64 (-x.da))) (ES (m:=x.da) rfl) ?_;refine ak (i6 (wrap64 (-x.support))) (ES (m:=x.support) rfl) ?_;refine ak (.agg #[i6 (wrap64 (-x.cI)),i6 (wrap64 (-x.da)),i6 (wrap64 (-x.support))]) kr ?_;refine dT (n:=1) (cells:=#[i6 (wrap64 (-x.cI)),i6 (wrap64 (-x.da)),i6 (wrap64 (-x.support))]) (e:=56) kr (fun g10 ot lS=>ab ?_);have hp:=hp.new lS;have fI:=ayo hB.size lS.fresh;have hB:=U hB lS.below;refine ce (Dc y ⟨_,_,_⟩ (hp.at 0)) ?_;rintro _ oD ⟨rfl,lT⟩;refine⟨_,rfl,ab ?_⟩;have hp:=hp.below lT;have hB:=U hB lT;refine gG bj fun pb ov hp hB=>?_;refine kh (el (s:=4) (ty:=56) (cs:=#[i6 (wrap64 (y.cI+wrap64 (-x.cI))),i6 (wrap64 (y.da+wrap64 (-x.da))),i6 (wrap64 (y.support+wrap64 (-x.support)))]) (hp.at 1) U56 kr) ?_;exact⟨by simp[cE,qe,dU],hB⟩
theorem BJ(level p:Int)(hl:0≤level∧level≤6):CB 137 #[i6 level,i6 p] w (.int .i64 (mZ level p)):=by
 have hp:=Hp.nil w;have hB:=Below.refl w.heap.size w;refine fe Tryz.func137 Tryz.ntmps137 ?_;refine go ?_;by_cases c1:level=0;·refine go ?_;refine p1 ?_;exact⟨by simp[mZ,c1],hB⟩
 refine go ?_;refine ak (i6 (level-1)) (fH (m:=level) (n:=1) (s:=level-1) rfl rfl (by unfold wrap64;omega)) ?_;refine ak (i6 (wrap64 (p*2^((level-1).toNat)))) (aeB (m:=p) (n:=level-1) (k:=(level-1).toNat) rfl rfl om om) ?_;refine p1 ?_;exact⟨by simp[mZ,c1],hB⟩
end
section
open Go.RowKit
variable{w:World}
section
variable{a:Act}{w:World}{o:Oper}{x y:Operand}{t t':TypeId}{m n:Int}
theorem pf(hx:a.eval x=.int .i64 m)(hy:a.eval y=.int .i64 n){s:Int}(hn:n≠0)(h:wrap64 (Int.tdiv m n)=s)(ho:o.op=.binOp .quo t x y t':=by rfl):(execOp a.eval o).run Tryz.prog w=.ok (.value (.int .i64 s)) w:=by subst h;refine gK ho hx hy rfl ?_;simp[binOp,Op.intDiv,hn,uM]
end
def nR(a b:Int):Int:=if b=0 then 0 else mn (wrap64 (Int.tdiv (wrap64 (a*1000000000)) b)) 1000000000
structure jY where
 oM:Int
 cU:Int
 kc:Int
 decision:Int
 cm:Int
 mQ:Int
 dz:Int
 support:Int
 cap:Int
 uh:Int
def lA(t:jY):Array Value:=#[.int .i64 t.oM,.int .i64 t.cU,.int .i64 t.kc,.int .i64 t.decision,.int .i64 t.cm,.int .i64 t.mQ,.int .i64 1,.int .i64 t.dz,.int .i64 t.dz,.int .i64 1,.int .i64 0,.int .i64 1,.int .i64 t.support,.int .i64 t.support,.int .i64 1,.int .i64 0,.int .i64 t.cap,.int .i64 t.uh]
def BK(t:jY)(y:j3)(dR:Int):Bool:=decide (t.dz≤nR y.cI (wrap64 (y.cI+y.da)))&&decide (t.support≤nR y.support dR)
theorem TA(n lo hi:Int):CB 237 #[i6 n,i6 lo,i6 hi] w (.int .i64 (mn (mx n lo) hi)):=by have hp:=Hp.nil w;have hB:=Below.refl w.heap.size w;refine fe Tryz.func237 Tryz.ntmps237 ?_;refine go ?_;refine ak (i6 (mx n lo)) (qF rfl rfl) ?_;refine ak (i6 (mn (mx n lo) hi)) (xG rfl rfl) ?_;refine p1 ?_;exact⟨rfl,hB⟩
theorem y9(a b:Int):CB 194 #[i6 a,i6 b] w (.int .i64 (nR a b)):=by
 have hp:=Hp.nil w;have hB:=Below.refl w.heap.size w;refine fe Tryz.func194 Tryz.ntmps194 ?_;refine go ?_;by_cases c1:b=0;·refine go ?_;refine p1 ?_;exact⟨by simp[nR,c1],hB⟩
 refine go ?_;refine ak (i6 (wrap64 (a*1000000000))) (dZ rfl rfl rfl) ?_;refine ak (i6 (wrap64 (Int.tdiv (wrap64 (a*1000000000)) b))) (pf (m:=wrap64 (a*1000000000)) (n:=b) (s:=wrap64 (Int.tdiv (wrap64 (a*1000000000)) b)) rfl rfl c1 rfl) ?_;refine ak (i6 (mn (wrap64 (Int.tdiv (wrap64 (a*1000000000)) b)) 1000000000)) (xG rfl rfl) ?_;refine p1 ?_;exact⟨by simp[nR,c1],hB⟩
theorem Xt(c x:Int)(hc:0≤c∧c≤1000000000):CB 196 #[.agg #[i6 1,i6 c,i6 c,i6 1,i6 0],i6 x] w (.int .i64 c):=by
 have hp:=Hp.nil w;have hB:=Below.refl w.heap.size w;refine fe Tryz.func196 Tryz.ntmps196 ?_;refine go ?_;refine ic fun g1 w2 n3 hp ai hB=>?_;refine cC (TA x 0 1000000000) fun w4 qH hp hB=>?_;by_cases c6:(1:Int)≤mn (mx x 0) 1000000000;·refine go ?_;refine p1 ?_;exact⟨rfl,hB⟩
 refine go ?_;refine vZ ?_;refine gq ?_;refine qs (i6 0) (fun w' h'=>fH (m:=c) (n:=c) (s:=0) rfl rfl (by rw[Int.sub_self];kernel_rfl)) ?_;refine gq ?_;refine qs (i6 0) (fun w' h'=>dZ (m:=0) (n:=mn (mx x 0) 1000000000) (s:=0) rfl rfl (by rw[Int.zero_mul];kernel_rfl)) ?_;refine gq ?_;refine qs (i6 0) (fun w' h'=>pf (m:=0) (n:=1) (s:=0) rfl rfl dd kr) ?_;refine qs (i6 c) (fun w' h'=>fH (m:=c) (n:=0) (s:=c) rfl rfl (by unfold wrap64;omega)) ?_;refine gq ?_;refine nB fun w7 gU hp hB=>?_;refine go ?_;refine p1 ?_;exact⟨rfl,hB⟩
theorem KV(y:j3)(n:Int):CB 195 #[.agg #[i6 y.cI,i6 y.da,i6 y.support],i6 n] w (.tuple #[.int .i64 (nR y.cI (wrap64 (y.cI+y.da))),.int .i64 (nR y.support n)]):=by have hp:=Hp.nil w;have hB:=Below.refl w.heap.size w;refine fe Tryz.func195 Tryz.ntmps195 ?_;refine go ?_;refine ic fun g1 w2 n3 hp ai hB=>?_;refine vZ ?_;refine gq ?_;refine qs (i6 (wrap64 (y.cI+y.da))) (fun w' h'=>aC rfl rfl rfl) ?_;refine qc (fun w' h'=>dJ h' (y9 y.cI (wrap64 (y.cI+y.da)))) ?_;refine gq ?_;refine qc (fun w' h'=>dJ h' (y9 y.support n)) ?_;refine gq ?_;refine nB fun w4 qH hp hB=>?_;refine go ?_;refine p2 ?_;exact⟨rfl,hB⟩
theorem za(t:jY)(y:j3)(n d:Int)(ht:(0≤t.dz∧t.dz≤1000000000)∧0≤t.support∧t.support≤1000000000):CB 152 #[.agg #[i6 t.oM,i6 t.cU,i6 t.kc,i6 t.decision,i6 t.cm,i6 t.mQ,i6 1,i6 t.dz,i6 t.dz,i6 1,i6 0,i6 1,i6 t.support,i6 t.support,i6 1,i6 0,i6 t.cap,i6 t.uh],.agg #[i6 y.cI,i6 y.da,i6 y.support],i6 n,i6 d] w (.bool (BK t y n)):=by
 have hp:=Hp.nil w;have hB:=Below.refl w.heap.size w;refine fe Tryz.func152 Tryz.ntmps152 ?_;refine go ?_;refine ic fun g1 w2 n3 hp ai hB=>?_;refine ic fun g4 w5 n6 hp aL hB=>?_;refine ak (i6 (mn d t.decision)) (xG rfl rfl) ?_;refine cC (y9 (mn d t.decision) t.decision) fun w7 gU hp hB=>?_;refine cC (KV y n) fun w9 nS hp hB=>?_;refine cC (Xt t.dz (nR (mn d t.decision) t.decision) om) fun ot fY hp hB=>?_;by_cases ng:t.dz≤nR y.cI (wrap64 (y.cI+y.da))
 ·refine go ?_;refine cC (Xt t.support (nR (mn d t.decision) t.decision) om) fun ui kM hp hB=>?_;by_cases pg:t.support≤nR y.support n;·refine go ?_;refine p1 ?_;exact⟨by simp[BK,ng,pg],hB⟩
  refine go ?_;refine p1 ?_;exact⟨by simp[BK,ng,pg],hB⟩
 refine go ?_;refine p1 ?_;exact⟨by simp[BK,ng],hB⟩
end
end Go.Proofs.YtdkpbpjcbkibiaaGreatDoor.B
