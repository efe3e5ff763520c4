/- The treasury pays only what approved referenda say, for every list of acts, the listed tables being as the text lays them. -/
import Derived.Test.YtdkpbpjcbkibiaaGreatDoorV47
import Derived.Test.YtdkpbpjcbkibiaaGreatDoorCards
import Derived.Test.YtdkpbpjcbkibiaaGreatDoorTie
import Derived.SevenTiedAt
namespace Go.Proofs.YtdkpbpjcbkibiaaGreatDoor
open Go
set_option maxRecDepth 100000
theorem topSpends_holds:Rows.TopSpendsCardSaid:=Claim7.holds_tied_plain_at .later [] [.listed,.data] true (true, "373ae14b24c5d43aedab65e775661dd650c1a14a7485f5cef4dcfe198572e515") true B.over7 (fun _ h=>by cases h) (by kernel_rfl) (fun _ h=>by cases h) topSpends_row_tie rfl ⟨rfl,rfl⟩ (by kernel_rfl) rfl (fun f fn hf hfn=>by
 obtain rfl:f=7:=Option.some.inj ((show Tryz.prog.funcNamed "althing/althingtop.TopSpends"=some 7 by kernel_rfl).symm.trans hf) |>.symm;obtain rfl:fn=Tryz.f7:=(Option.some.inj (Tryz.func7.symm.trans hfn)).symm
 exact⟨by kernel_rfl,fun j t ht=>by
  rw[Tryz.params7]at ht
  have h3:t=22:=by
   rcases j with _|j;·simpa using ht.symm
   ·simp at ht
  subst h3;exact(show Tryz.prog.wantsStandIn 22=false by kernel_rfl)⟩) (by kernel_rfl)
end Go.Proofs.YtdkpbpjcbkibiaaGreatDoor
