/- RowSpends -/
import Derived.Test.YtdkpbpjcbkibiaaGreatDoorV28
import Derived.Test.YtdkpbpjcbkibiaaGreatDoorV46
set_option linter.all false
set_option maxRecDepth 100000
set_option maxHeartbeats 4000000
namespace Go.Proofs.YtdkpbpjcbkibiaaGreatDoor.B
open Go.RowKit
section
open Go.ChangeShapes Go.WideShapes Go.ChangeAt Go.RowKit
theorem aas:laidOutB Tryz.prog=true:=by kernel_rfl
theorem ad9:mapsRowed Tryz.prog=true:=by kernel_rfl
theorem aea:(Rows.topSpendsRow.inPlace==Tryz.prog.inPlace 7)=true:=by kernel_rfl
theorem aeb:(Rows.topSpendsRow.unfollowed==Tryz.prog.unfollowed 7)=true:=by kernel_rfl
theorem aed:(Rows.topSpendsRow.recurses==Tryz.prog.recurses 7)=true:=by kernel_rfl
theorem aeg:(Rows.topSpendsRow.named==Tryz.prog.varsNamed 7)=true:=by kernel_rfl
theorem aeh:Tryz.prog.stopsHeard=true:=by kernel_rfl
theorem aej:Tryz.prog.mayEnter=true:=by kernel_rfl
theorem aau:joinedFacts Tryz.prog 7 Tryz.f7 Rows.topSpendsSpec Rows.topSpendsRow=true:=by simp only[joinedFacts,ayF];and_intros;all_goals first|with_reducible exact aas|with_reducible exact ad9|with_reducible exact aea|with_reducible exact aeb|with_reducible exact aed|with_reducible exact aeg|with_reducible exact aeh|with_reducible exact aej|kernel_rfl
theorem aiT:Fair dH.fs:=by
 have h:∀i,acc dH.fs i=if i<10 then(1000,0)else(0,0):=fun i=>by
  by_cases hi:i<10
  ·rw[if_pos hi];match i,hi with
   |0,_|1,_|2,_|3,_|4,_|5,_|6,_|7,_|8,_|9,_=>rfl
  ·rw[if_neg hi];unfold acc;rw[ay5,azW (by show 10≤i;omega)];rfl
 exact⟨rfl,fun i=>by rw[h i];split<;>decide,fun i=>by rw[h i];split<;>decide,by decide⟩
theorem ar9:ownKnob Tryz.prog.godebug=none:=by kernel_rfl
theorem afS(os:Os)(started:os.Started)(H:Type)(enc:TypeId×Value→H):ReturnsInHanded {} Tryz.checked os 7 .any (fun w args=>(Rows.topSpendsSpec.pre enc Tryz.prog Tryz.f7 [] false w args∧laidMetH Tryz.prog aaE w)∧sizedMet enc Tryz.prog Tryz.f7 (OpenSpec.ofChange Rows.topSpendsSpec) false w args) (Rows.topSpendsSpec.post enc Tryz.prog Tryz.f7 false true false false):=by
 refine returnsInHanded_of_change_and (C:=Tryz.checked) (X:=fun w _=>laidMetH Tryz.prog aaE w) (fun _ _ _ hh h=>h.of_heap hh) ar9 started kr Tryz.func7 (ChangeSpec.witness_shaped (enc:=enc) (C:=Tryz.checked) (os:=os) (X:=fun w _=>laidMetH Tryz.prog aaE w) false (adJ os) #[.slice none 0 0] 8 (World.laidAll_os _ _ _) (aa1 os _) kr kr kr (abm os _)) ?_;intro W base args ds gs before ani hW _ _ hL _;have hW':=hW;obtain⟨p,q,hA0,hV,rfl,hfz,Tb⟩:=hW;have gD:=DataW.TrodAll.lt hA0;have hA:DataW.TrodAll enc Tryz.prog W 0 (fun _=>true) true Tryz.f7.params.toList args.toList ds p:=hA0;rw[Tryz.params7]at hA;obtain⟨v0,vs0,d0,ds0,p0,q0,ft,rfl,rfl,h0,r0⟩:=trodAll_cons hA;obtain⟨rfl,rfl,rfl⟩:=trodAll_nil r0;obtain rfl:args=#[v0]:=by cases args;simp_all
 obtain⟨rfl,rfl⟩:=trodVars_none hV;have ha:=abk hL;have fin:∀(e:Ending) (W':World),(e=.returned (.bool true)∧Bw W W')→∃v,e=.returned v∧Rows.topSpendsSpec.post enc Tryz.prog Tryz.f7 false true false false W #[v0] v W':=fun e W' h=>by obtain⟨he,hb⟩:=h;subst he;exact⟨_,rfl,_,_,_,[],_,[],hW',trodAll_mk1 (shut_bool U4 _),trodAll_cons_mk (Below.trod aas kr (ayr kr) h0 hb (fun x hx=>gD x (by simp[hx]))) trodAll_mk0,rfl,hb.frame _,fun h=>by cases h⟩
 have hf:=(ani 0 22 v0 rfl rfl);obtain⟨n,hn⟩:=h0
 have one:∀v,v0.cells.toList=[v]→(∃b c d,v=.slice b c d)→v0=v:=fun v h ⟨b,c,d,e⟩=>by
  subst e;cases v0 with
  |agg xs=>exfalso;have hf:Value.okWide Tryz.prog W .any base 22 (.agg xs):=hf;unfold Value.okWide at hf;rw[U22]at hf;simp[Cell.okWide,Cell.ok,U22]at hf
  |_=>simp_all [Value.cells]
 rcases aeq hn with⟨b,e⟩|⟨g,off,c,arr,ty,l,e,hl⟩;·obtain rfl:=one _ e ⟨_,_,_,rfl⟩;exact(afG ha).mono fun e W' h=>fin e W' h
 ·obtain rfl:=one _ e ⟨_,_,_,rfl⟩;exact(afQ hl ha fun i x _=>(ae4 (aeZ aiT l i) x).1).mono fun e W' h=>fin e W' h
theorem over7:Rows.topSpendsRow.holds Tryz.pinned (OpenSpec.ofChange Rows.topSpendsSpec):=OpenClaim.holds_of_wide 7 Tryz.f7 rfl rfl rfl rfl rfl rfl rfl ⟨rfl,rfl,rfl,rfl,rfl⟩ rfl rfl rfl rfl rfl kr Tryz.func7 aau (of_decide_eq_true kr) (by unfold Func.isWrapper;first|(rw[if_pos (by decide+kernel)];kernel_rfl)|(rw[if_neg (by decide+kernel)];exact⟨rfl,rfl⟩)) (fun os started H enc _=>afS os started H enc)
end
end Go.Proofs.YtdkpbpjcbkibiaaGreatDoor.B
