/- RowLent5 -/
import Derived.Test.YtdkpbpjcbkibiaaGreatDoorV28
import Derived.Test.YtdkpbpjcbkibiaaGreatDoorV55
set_option linter.all false
set_option maxRecDepth 100000
set_option maxHeartbeats 4000000
namespace Go.Proofs.YtdkpbpjcbkibiaaGreatDoor.B
open Go.RowKit
section
open Go.ChangeShapes Go.WideShapes Go.ChangeAt Go.RowKit
theorem aas:laidOutB Tryz.prog=true:=by kernel_rfl
theorem ad9:mapsRowed Tryz.prog=true:=by kernel_rfl
theorem aea:(Rows.topLentRow.inPlace==Tryz.prog.inPlace 5)=true:=by kernel_rfl
theorem aeb:(Rows.topLentRow.unfollowed==Tryz.prog.unfollowed 5)=true:=by kernel_rfl
theorem aed:(Rows.topLentRow.recurses==Tryz.prog.recurses 5)=true:=by kernel_rfl
theorem aeg:(Rows.topLentRow.named==Tryz.prog.varsNamed 5)=true:=by kernel_rfl
theorem aeh:Tryz.prog.stopsHeard=true:=by kernel_rfl
theorem aej:Tryz.prog.mayEnter=true:=by kernel_rfl
theorem aau:joinedFacts Tryz.prog 5 Tryz.f5 Rows.topLentSpec Rows.topLentRow=true:=by simp only[joinedFacts,ayF];and_intros;all_goals first|with_reducible exact aas|with_reducible exact ad9|with_reducible exact aea|with_reducible exact aeb|with_reducible exact aed|with_reducible exact aeg|with_reducible exact aeh|with_reducible exact aej|kernel_rfl
theorem ar9:ownKnob Tryz.prog.godebug=none:=by kernel_rfl
theorem Qb(os:Os)(started:os.Started)(H:Type)(enc:TypeId×Value→H):ReturnsInHanded {} Tryz.checked os 5 .any (fun w args=>(Rows.topLentSpec.pre enc Tryz.prog Tryz.f5 [] false w args∧laidMetH Tryz.prog aaE w)∧sizedMet enc Tryz.prog Tryz.f5 (OpenSpec.ofChange Rows.topLentSpec) false w args) (Rows.topLentSpec.post enc Tryz.prog Tryz.f5 false true false false):=by
 refine returnsInHanded_of_change_and (C:=Tryz.checked) (X:=fun w _=>laidMetH Tryz.prog aaE w) (fun _ _ _ hh h=>h.of_heap hh) ar9 started kr Tryz.func5 (ChangeSpec.witness_shaped (enc:=enc) (C:=Tryz.checked) (os:=os) (X:=fun w _=>laidMetH Tryz.prog aaE w) false (adJ os) #[.int .i64 0,.int .i64 0,.int .i64 0] 8 (World.laidAll_os _ _ _) (aa1 os _) kr kr kr (abm os _)) ?_;intro W base args ds gs before ani hW _ _ hL _;have agn:∀(j:Nat) t v,Tryz.f5.params[j]?=some t→args[j]?=some v→Value.okWide Tryz.prog W .any base t v:=ani;have hW':=hW;obtain⟨p,q,hA0,hV,rfl,hfz,Tb⟩:=hW;have hA:DataW.TrodAll enc Tryz.prog W 0 (fun _=>true) true Tryz.f5.params.toList args.toList ds p:=hA0;rw[Tryz.params5]at hA agn;obtain⟨v0,vs0,d0,ds0,p0,q0,ft,rfl,rfl,h0,r0⟩:=trodAll_cons hA;obtain⟨v1,vs1,d1,ds1,p1,q1,rfl,rfl,rfl,h1,r1⟩:=trodAll_cons r0;obtain⟨v2,vs2,d2,ds2,p2,q2,rfl,rfl,rfl,h2,r2⟩:=trodAll_cons r1;obtain⟨rfl,rfl,rfl⟩:=trodAll_nil r2;obtain rfl:args=#[v0,v1,v2]:=by cases args;simp_all
 obtain⟨rfl,rfl⟩:=trodVars_none hV;obtain⟨a0,rfl,rfl,rfl,w0⟩:=open_int U3 (agn 0 3 v0 rfl rfl) h0;obtain⟨a1,rfl,rfl,rfl,w1⟩:=open_int U3 (agn 1 3 v1 rfl rfl) h1;obtain⟨a2,rfl,rfl,rfl,w2⟩:=open_int U3 (agn 2 3 v2 rfl rfl) h2;refine(S3 (abk hL) a0 a1 a2).mono fun e W' ⟨he,hb⟩=>?_;subst he;exact⟨_,rfl,_,_,_,[],_,[],hW',trodAll_mk1 (shut_bool U4 _),(trodAll_cons_mk (shut_int U3 w0) (trodAll_cons_mk (shut_int U3 w1) (trodAll_cons_mk (shut_int U3 w2) trodAll_mk0))),rfl,hb.frame _,fun h=>by cases h⟩
theorem Xf:Rows.topLentRow.holds Tryz.pinned (OpenSpec.ofChange Rows.topLentSpec):=OpenClaim.holds_of_wide 5 Tryz.f5 rfl rfl rfl rfl rfl rfl rfl ⟨rfl,rfl,rfl,rfl,rfl⟩ rfl rfl rfl rfl rfl kr Tryz.func5 aau (of_decide_eq_true kr) (by unfold Func.isWrapper;first|(rw[if_pos (by decide+kernel)];kernel_rfl)|(rw[if_neg (by decide+kernel)];exact⟨rfl,rfl⟩)) (fun os started H enc _=>Qb os started H enc)
end
end Go.Proofs.YtdkpbpjcbkibiaaGreatDoor.B
