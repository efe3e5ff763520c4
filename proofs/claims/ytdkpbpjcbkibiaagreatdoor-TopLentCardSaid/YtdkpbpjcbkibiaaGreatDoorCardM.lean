/- What is lent decides as if its owner had voted so, for every input, the listed tables being as the text lays them. -/
import Derived.Test.YtdkpbpjcbkibiaaGreatDoorV56
import Derived.Test.YtdkpbpjcbkibiaaGreatDoorCards
import Derived.LaidByTextLater
import Derived.SevenTiedAt
import Derived.LaidSub
import Derived.LaidOnce
namespace Go.Proofs.YtdkpbpjcbkibiaaGreatDoor
open Go
set_option maxRecDepth 100000
theorem tie:Tryz.prog.laidByTextLater [("unicode.White_Space", Rows.laid_unicode_White_Space), ("strings.asciiSpace", Rows.laid_strings_asciiSpace)] [.listed,.data] true:=Program.laidByTextLater_by_one 33 8 257 (by kernel_rfl) (by kernel_rfl) (by kernel_rfl) (by kernel_rfl) (by kernel_rfl) (by kernel_rfl) (fun _ _=>by kernel_rfl)
theorem rowTie:Rows.topLentRow.laidByTextAt .later Tryz.pinned [.listed,.data] true:=OpenClaim.laidByTextAt_later rfl rfl (Program.laidByTextLater.sub tie ["unicode.White_Space", "strings.asciiSpace"] (by kernel_rfl) (by kernel_rfl)) (by kernel_rfl)
theorem topLent_holds:Rows.TopLentCardSaid:=Claim7.holds_tied_plain_at .later [] [.listed,.data] true (true, "373ae14b24c5d43aedab65e775661dd650c1a14a7485f5cef4dcfe198572e515") true B.Xf (fun _ h=>by cases h) (by kernel_rfl) (fun _ h=>by cases h) rowTie rfl ⟨rfl,rfl⟩ (by kernel_rfl) rfl (fun f fn hf hfn=>by
 obtain rfl:f=5:=Option.some.inj ((show Tryz.prog.funcNamed "althing/althingtop.TopLent"=some 5 by kernel_rfl).symm.trans hf) |>.symm;obtain rfl:fn=Tryz.f5:=(Option.some.inj (Tryz.func5.symm.trans hfn)).symm
 exact⟨by kernel_rfl,fun j t ht=>by
  rw[Tryz.params5]at ht
  have h3:t=3:=by
   rcases j with _|_|_|j;iterate 3 (·simpa using ht.symm)
   ·simp at ht
  subst h3;exact(show Tryz.prog.wantsStandIn 3=false by kernel_rfl)⟩) (by kernel_rfl)
end Go.Proofs.YtdkpbpjcbkibiaaGreatDoor
