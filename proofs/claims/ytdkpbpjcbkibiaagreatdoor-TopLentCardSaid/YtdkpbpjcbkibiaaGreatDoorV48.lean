/- Rg Ri -/
import Derived.Test.YtdkpbpjcbkibiaaGreatDoorV46
import Derived.Test.YtdkpbpjcbkibiaaGreatDoorV44
set_option linter.all false
set_option maxRecDepth 100000
set_option maxHeartbeats 4000000
namespace Go.Proofs.YtdkpbpjcbkibiaaGreatDoor.B
open Go.RowKit
section
open Go.RowKit
variable{w:World}{g:Nat}
theorem apM(n:Int):CP 247 #[i6 n,i6 1] w fun e w'=>∃v,e=.returned v∧BS w w' v [IntKind.u8.wrap (fF .i64 n 0)]∧Bw w w':=by have hp:=Hp.nil w;refine fe Tryz.func247 Tryz.ntmps247 ?_;refine wB ?_;refine iR 2 ?_;refine wB ?_;refine dT (n:=1) (cells:=#[.int .u8 (IntKind.u8.wrap (fF .i64 n 0))]) (e:=5) kr (fun g1 w1 q=>ab ?_);have hB:=q.below;refine xv (w0:=w) BS.nil (BS.one q rfl (ayp _)) hB.size (by simp) rfl rfl (fun v w2 bo=>ab ?_) U131;have hB:=BO.below hB BS.nil bo;have hp:=Hp.nil w2;refine wB ?_;refine p1 ?_;exact⟨v,rfl,bo.bs,hB⟩
def nuR(n:Int):List Int:=[IntKind.u8.wrap (fF .i64 (nZ .i64 n 2) 0)]
theorem am5{n:Int}(hn:n=0∨n=1):CP 209 #[i6 n] w fun e w'=>∃v,e=.returned v∧BS w w' v (nuR n)∧Bw w w':=by
 have hp:=Hp.nil w;refine fe Tryz.func209 Tryz.ntmps209 ?_;have e:mn (mx n 0) 4611686018427387904=n:=by rcases hn with e|e<;>subst e<;>rfl
 have h64:n<64:=by omega
 refine wB ?_;refine ak (i6 (mx n 0)) (qF rfl rfl) ?_;refine ak (i6 (mn (mx n 0) 4611686018427387904)) (xG rfl rfl) ?_;rw[e];refine wB ?_;refine ce (apM _) ?_;rintro _ w1 ⟨v,rfl,bs,hB⟩;refine⟨_,rfl,ab ?_⟩;have hp:=Hp.nil w1;refine wB ?_;refine p1 ?_;exact⟨v,rfl,bs,hB⟩
theorem aqu{C:World→Prop}{a:Act}{o:Oper}{x y:Operand}{m:Nat}{l c:Nat}{p:Int}(ho:o.op=.indexAddr 74 x y)(hx:a.eval x=.slice (some ⟨g,0,none⟩) l c)(hy:a.eval y=i6 p)(e1:p=(m:Int))(h:m<l):aaP C a o (pA g m):=fun w _=>by subst e1;exact cX (sz:=1) U74 kr hx hy om om (by simp) ho
theorem an9(hb:bH w g #[i6 1,i6 0,i6 0,i6 0] 3):CP 164 #[.slice (some ⟨g,0,none⟩) 4 4] w fun e w'=>∃v,e=.returned v∧BS w w' v (nuR 1++nuR 0++nuR 0++nuR 0)∧Bw w w':=by
 have hl:=hb.lt;have hp:=(Hp.nil w).cons hb (by simp);have hB:=Below.refl w.heap.size w;refine fe Tryz.func164 Tryz.ntmps164 ?_;refine wB ?_;refine iR 5 ?_;refine wB ?_;have bs:BS w w (.slice none 0 0) []:=BS.nil;refine ajm ?_ (by exact aqu rfl rfl rfl abc om);refine wB ?_;refine ce (am5 (n:=1) dd) ?_;rintro _ w1 ⟨v,rfl,b2,hb⟩;refine⟨_,rfl,ab ?_⟩;have hp:=hp.below hb;have bs:=bs.below hb;have hB:=U hB hb;refine xv bs b2 hB.size (by simp[nuR]) rfl rfl (fun v w2 bo=>ab ?_) U131;have hp:=BO.hp hp bs bo (by simpa using hl);have hB:=BO.below hB bs bo;have bs:=bo.bs;refine wB ?_;iterate 3 (refine ajm ?_ (by exact aqu rfl rfl rfl abc om);refine wB ?_;refine ce (am5 (n:=0) dd) ?_;rintro _ w1 ⟨v,rfl,b2,hb⟩;refine⟨_,rfl,ab ?_⟩;have hp:=hp.below hb;have bs:=bs.below hb;have hB:=U hB hb;refine xv bs b2 hB.size (by simp[nuR]) rfl rfl (fun v w2 bo=>ab ?_) U131;have hp:=BO.hp hp bs bo (by simpa using hl);have hB:=BO.below hB bs bo;have bs:=bo.bs;refine wB ?_)
 refine p1 ?_;exact⟨_,rfl,bs,hB⟩
end
section
open Go.RowKit
variable{w:World}
theorem aqw:CB 208 #[i6 0,i6 0,i6 1073741824] w (.bool true):=by have hp:=Hp.nil w;refine fe Tryz.func208 Tryz.ntmps208 ?_;refine wB ?_;refine p1 ?_;exact⟨rfl,Below.refl _ _⟩
theorem call163:CB 163 #[.agg #[i6 1,i6 0,i6 0,.slice none 0 0],i6 0] w (.bool true):=by have hp:=Hp.nil w;have hT:=au.refl (fun _=>False) w;refine fe Tryz.func163 Tryz.ntmps163 ?_;refine wB ?_;refine aiQ fun g w1 hp f1 hT=>?_;refine ae6 aqw fun w1 hp hT=>?_;refine p1 ?_;exact⟨rfl,adE hT⟩
theorem aqx:CB 110 #[.agg #[i6 1,i6 0,i6 0,.slice none 0 0]] w (.bool true):=by have hp:=Hp.nil w;have hT:=au.refl (fun _=>False) w;refine fe Tryz.func110 Tryz.ntmps110 ?_;refine wB ?_;refine aiQ fun g w1 hp f1 hT=>?_;refine ae6 call163 fun w1 hp hT=>?_;refine p1 ?_;exact⟨rfl,adE hT⟩
theorem apN:CP 111 #[.agg #[i6 1,i6 0,i6 0,.slice none 0 0]] w fun e w'=>∃v,e=.returned v∧BS w w' v (nuR 1++nuR 0++nuR 0++nuR 0)∧Bw w w':=by have hp:=Hp.nil w;have hT:=au.refl (fun _=>False) w;refine fe Tryz.func111 Tryz.ntmps111 ?_;refine wB ?_;refine aiQ fun g w1 hp f1 hT=>?_;refine dT (n:=4) (cells:=#[i6 1,i6 0,i6 0,i6 0]) (e:=3) kr (fun g1 w1 q=>ab ?_);have hp:=hp.new q;have hT:=hT.step q.below;have hs:=hT.size;refine ce (an9 (hp.at 0)) ?_;rintro _ w2 ⟨v,rfl,bs,hb⟩;refine⟨_,rfl,ab ?_⟩;have hp:=hp.below hb;have hT:=hT.step hb;refine wB ?_;refine iR 1 ?_;refine wB ?_;refine p1 ?_;exact⟨v,rfl,bs.since hs,adE hT⟩
theorem aqz:CP 61 #[.agg #[i6 1,i6 0,i6 0,.slice none 0 0]] w fun e w'=>∃v,e=.returned (.tuple #[v,i6 0])∧BS w w' v (nuR 1++nuR 0++nuR 0++nuR 0)∧Bw w w':=by have hp:=Hp.nil w;have hT:=au.refl (fun _=>False) w;refine fe Tryz.func61 Tryz.ntmps61 ?_;refine wB ?_;refine aiQ fun g w1 hp f1 hT=>?_;refine ae6 aqx fun w1 hp hT=>?_;have hs:=hT.size;refine ce apN ?_;rintro _ w2 ⟨v,rfl,bs,hb⟩;refine⟨_,rfl,ab ?_⟩;have hp:=hp.below hb;have hT:=hT.step hb;refine wB ?_;refine p2 ?_;exact⟨v,rfl,bs.since hs,adE hT⟩
end
end Go.Proofs.YtdkpbpjcbkibiaaGreatDoor.B
