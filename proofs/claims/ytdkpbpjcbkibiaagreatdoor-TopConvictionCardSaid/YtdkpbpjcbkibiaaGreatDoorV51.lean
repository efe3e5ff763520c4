/- Cn -/
import Derived.Test.YtdkpbpjcbkibiaaGreatDoorV50
set_option linter.all false
set_option maxRecDepth 100000
set_option maxHeartbeats 4000000
namespace Go.Proofs.YtdkpbpjcbkibiaaGreatDoor.B
open Go.RowKit
section
open Go.RowKit
theorem no0:∀b:Nat,¬own ((fun _=>0) b):=fun _=>kU
theorem aqJ{w:World}(ha:Bi w)(a la b lb:Int):CB 4 #[i6 a,i6 la,i6 b,i6 lb] w (.bool true):=by
 have hp:=Hp.nil w;refine fe Tryz.func4 Tryz.ntmps4 ?_;rcases(show a<200∨¬a<200∧(1000<a∨¬1000<a∧(la<0∨¬la<0∧(6<la∨¬6<la∧(b<0∨¬b<0∧(1000<b∨¬1000<b∧(lb<0∨¬lb<0∧(6<lb∨¬6<lb)))))))by omega)with h|⟨h1,h|⟨h2,h|⟨h3,h|⟨h4,h|⟨h5,h|⟨h6,h|⟨h7,h|h8⟩⟩⟩⟩⟩⟩⟩;iterate 8 (·refine wB ?_;refine p1 ?_;exact⟨rfl,Below.refl _ _⟩)
 refine wB ?_;refine ak (.agg #[i6 1,i6 0,i6 0,.slice none 0 0]) kr ?_;refine ce (aiG no0 rfl ha) ?_;rintro _ w1 ⟨g,f,c,m,L,rfl,S,_⟩;refine⟨_,rfl,ab ?_⟩;have hp:=S.hp;have hla:0≤la∧la≤6:=by omega
 have hA:0≤a∧a≤1000:=by omega
 have hlb:0≤lb∧lb≤6:=by omega
 have hB:0≤b∧b≤1000:=by omega
 have hT5:=T5e hla hA hlb hB;have g1:=afS hla hA;have g2:=afS hlb hB;have qG:BK tr0 (ai0 la a lb b) 10000=decide (fv b lb≤fv a la):=by rw[hT5];exact ps om om om
 refine wB ?_;refine ak (.agg (sS ⟨1,true,la,a,0,0⟩)) kr ?_;refine ak (.agg (ab7 (aem 4 ⟨1,true,la,a,0,0⟩))) kr ?_;refine ae7 ha rfl no0 (aem 4 ⟨1,true,la,a,0,0⟩) ((apV rfl (anu hla hA)).trans (v4 hla hA)) fun w2 c m S hp=>?_;refine ak (.agg (sS ⟨1,false,lb,b,0,0⟩)) kr ?_;refine ak (.agg (ab7 (aem 5 ⟨1,false,lb,b,0,0⟩))) kr ?_;refine ae7 ha rfl no0 (aem 5 ⟨1,false,lb,b,0,0⟩) ((apV rfl (anu hlb hB)).trans (v5 hlb hB)) fun w2 c m S hp=>?_;refine ce (aiF (n:=8) no0 dd S) ?_;rintro _ w3 ⟨c,m,rfl,S⟩;refine⟨_,rfl,ab ?_⟩;have hp:=S.hp;refine wB ?_;refine aep ai2 fun w4 S hp=>?_;refine aep ai2 fun w4 S hp=>?_;by_cases hv:fv b lb≤fv a la;·refine wB ?_;refine aep (show CP 19 #[pA g 0] _ fun e w'=>e=.returned (i6 2)∧_ from ai1 S (runT (qG.trans (decide_eq_true hv)))) fun w4 S hp=>?_;refine aep AP fun w4 S hp=>?_;refine p1 ?_;exact⟨rfl,S.below⟩
 refine wB ?_;refine aep (show CP 19 #[pA g 0] _ fun e w'=>e=.returned (i6 3)∧_ from ai1 S (arL (qG.trans (decide_eq_false hv)))) fun w4 S hp=>?_;refine aep AP fun w4 S hp=>?_;refine p1 ?_;exact⟨rfl,S.below⟩
end
end Go.Proofs.YtdkpbpjcbkibiaaGreatDoor.B
