/-
  NARROWER THAN 'FOR EVERY INPUT', by the rows' own cells (each row's printed sentence says how): TopTwins: loops, laid · TopConviction: laid · TopLent: laid · TopLocked: laid · TopSpends: loops, laid.
  DERIVED. THE GIVEN ROWS OF THIS SEAT. 5 by the template 'for every input the law returns true; each argument reads behind the call as it read before'; 0 by the template 'total and deterministic' (their statements: YtdkpbpjcbkibiaaGreatDoorTotals.lean).
  GIVEN WITH THE SEED: the statements are not yours to turn. If you find one false, say at which input.
  Laid BY PROGRAM, IN A SANDBOX (cutbox-rows.mjs): the forced cells as the released guide's own fill.sh prints them over the translation 19a78b62f5f281c8… (all of the seat's roots in one cut). By AI agents, Wed Nov 11 2026. No macro, syntax, notation, axiom, sorry.
-/
import Derived.Test.YtdkpbpjcbkibiaaGreatDoorChecked
import GoSem.Claim
import GoSem.ClaimJoined
import GoSem.ClaimMapViews
import Derived.JoinedTies
import Derived.KernelRfl
namespace Go.Proofs.YtdkpbpjcbkibiaaGreatDoor
/- THE CELL 'sum', in the pinned program and in every row, IS THE sha256 OF THE DUMP (.gsa) THAT YtdkpbpjcbkibiaaGreatDoorProg.lean LOADS. Nothing in Lean hashes anything: it is a label: what it is worth is what the hold of that sum in a sandbox is worth. -/
noncomputable def Tryz.pinned : Pinned := { name := "ytdkpbpjcbkibiaagreatdoor", sum := "19a78b62f5f281c8469ff06bc0cbe91cbcd0d82b2252d415b4c3981b669404be", checked := Tryz.checked }
namespace Rows
def none {H : Type} : Left H := { results := [], args := [] }

/- WHAT THE LISTED PACKAGE-LEVEL VARIABLES READ AS WHEN THE CALL BEGINS. Each datum BY PROGRAM (the guide's laid-datum.mjs) off the statement by which the dump's own 'gosem.cut.vars' lays the variable. In a bare row this is a premise. The card (YtdkpbpjcbkibiaaGreatDoorCards.lean) ties it to the program's text. -/
def laid_unicode_White_Space {H : Type} : DataW H := .ptr (.agg [.slice [.agg [.lit (.int .u16 9), .lit (.int .u16 13), .lit (.int .u16 1)], .agg [.lit (.int .u16 32), .lit (.int .u16 133), .lit (.int .u16 101)], .agg [.lit (.int .u16 160), .lit (.int .u16 5760), .lit (.int .u16 5600)], .agg [.lit (.int .u16 8192), .lit (.int .u16 8202), .lit (.int .u16 1)], .agg [.lit (.int .u16 8232), .lit (.int .u16 8233), .lit (.int .u16 1)], .agg [.lit (.int .u16 8239), .lit (.int .u16 8287), .lit (.int .u16 48)], .agg [.lit (.int .u16 12288), .lit (.int .u16 12288), .lit (.int .u16 1)]] [], .nil, .lit (.int .i64 2)])
def laid_strings_asciiSpace {H : Type} : DataW H := .agg [.lit (.int .u8 0), .lit (.int .u8 0), .lit (.int .u8 0), .lit (.int .u8 0), .lit (.int .u8 0), .lit (.int .u8 0), .lit (.int .u8 0), .lit (.int .u8 0), .lit (.int .u8 0), .lit (.int .u8 1), .lit (.int .u8 1), .lit (.int .u8 1), .lit (.int .u8 1), .lit (.int .u8 1), .lit (.int .u8 0), .lit (.int .u8 0), .lit (.int .u8 0), .lit (.int .u8 0), .lit (.int .u8 0), .lit (.int .u8 0), .lit (.int .u8 0), .lit (.int .u8 0), .lit (.int .u8 0), .lit (.int .u8 0), .lit (.int .u8 0), .lit (.int .u8 0), .lit (.int .u8 0), .lit (.int .u8 0), .lit (.int .u8 0), .lit (.int .u8 0), .lit (.int .u8 0), .lit (.int .u8 0), .lit (.int .u8 1), .lit (.int .u8 0), .lit (.int .u8 0), .lit (.int .u8 0), .lit (.int .u8 0), .lit (.int .u8 0), .lit (.int .u8 0), .lit (.int .u8 0), .lit (.int .u8 0), .lit (.int .u8 0), .lit (.int .u8 0), .lit (.int .u8 0), .lit (.int .u8 0), .lit (.int .u8 0), .lit (.int .u8 0), .lit (.int .u8 0), .lit (.int .u8 0), .lit (.int .u8 0), .lit (.int .u8 0), .lit (.int .u8 0), .lit (.int .u8 0), .lit (.int .u8 0), .lit (.int .u8 0), .lit (.int .u8 0), .lit (.int .u8 0), .lit (.int .u8 0), .lit (.int .u8 0), .lit (.int .u8 0), .lit (.int .u8 0), .lit (.int .u8 0), .lit (.int .u8 0), .lit (.int .u8 0), .lit (.int .u8 0), .lit (.int .u8 0), .lit (.int .u8 0), .lit (.int .u8 0), .lit (.int .u8 0), .lit (.int .u8 0), .lit (.int .u8 0), .lit (.int .u8 0), .lit (.int .u8 0), .lit (.int .u8 0), .lit (.int .u8 0), .lit (.int .u8 0), .lit (.int .u8 0), .lit (.int .u8 0), .lit (.int .u8 0), .lit (.int .u8 0), .lit (.int .u8 0), .lit (.int .u8 0), .lit (.int .u8 0), .lit (.int .u8 0), .lit (.int .u8 0), .lit (.int .u8 0), .lit (.int .u8 0), .lit (.int .u8 0), .lit (.int .u8 0), .lit (.int .u8 0), .lit (.int .u8 0), .lit (.int .u8 0), .lit (.int .u8 0), .lit (.int .u8 0), .lit (.int .u8 0), .lit (.int .u8 0), .lit (.int .u8 0), .lit (.int .u8 0), .lit (.int .u8 0), .lit (.int .u8 0), .lit (.int .u8 0), .lit (.int .u8 0), .lit (.int .u8 0), .lit (.int .u8 0), .lit (.int .u8 0), .lit (.int .u8 0), .lit (.int .u8 0), .lit (.int .u8 0), .lit (.int .u8 0), .lit (.int .u8 0), .lit (.int .u8 0), .lit (.int .u8 0), .lit (.int .u8 0), .lit (.int .u8 0), .lit (.int .u8 0), .lit (.int .u8 0), .lit (.int .u8 0), .lit (.int .u8 0), .lit (.int .u8 0), .lit (.int .u8 0), .lit (.int .u8 0), .lit (.int .u8 0), .lit (.int .u8 0), .lit (.int .u8 0), .lit (.int .u8 0), .lit (.int .u8 0), .lit (.int .u8 0), .lit (.int .u8 0), .lit (.int .u8 0), .lit (.int .u8 0), .lit (.int .u8 0), .lit (.int .u8 0), .lit (.int .u8 0), .lit (.int .u8 0), .lit (.int .u8 0), .lit (.int .u8 0), .lit (.int .u8 0), .lit (.int .u8 0), .lit (.int .u8 0), .lit (.int .u8 0), .lit (.int .u8 0), .lit (.int .u8 0), .lit (.int .u8 0), .lit (.int .u8 0), .lit (.int .u8 0), .lit (.int .u8 0), .lit (.int .u8 0), .lit (.int .u8 0), .lit (.int .u8 0), .lit (.int .u8 0), .lit (.int .u8 0), .lit (.int .u8 0), .lit (.int .u8 0), .lit (.int .u8 0), .lit (.int .u8 0), .lit (.int .u8 0), .lit (.int .u8 0), .lit (.int .u8 0), .lit (.int .u8 0), .lit (.int .u8 0), .lit (.int .u8 0), .lit (.int .u8 0), .lit (.int .u8 0), .lit (.int .u8 0), .lit (.int .u8 0), .lit (.int .u8 0), .lit (.int .u8 0), .lit (.int .u8 0), .lit (.int .u8 0), .lit (.int .u8 0), .lit (.int .u8 0), .lit (.int .u8 0), .lit (.int .u8 0), .lit (.int .u8 0), .lit (.int .u8 0), .lit (.int .u8 0), .lit (.int .u8 0), .lit (.int .u8 0), .lit (.int .u8 0), .lit (.int .u8 0), .lit (.int .u8 0), .lit (.int .u8 0), .lit (.int .u8 0), .lit (.int .u8 0), .lit (.int .u8 0), .lit (.int .u8 0), .lit (.int .u8 0), .lit (.int .u8 0), .lit (.int .u8 0), .lit (.int .u8 0), .lit (.int .u8 0), .lit (.int .u8 0), .lit (.int .u8 0), .lit (.int .u8 0), .lit (.int .u8 0), .lit (.int .u8 0), .lit (.int .u8 0), .lit (.int .u8 0), .lit (.int .u8 0), .lit (.int .u8 0), .lit (.int .u8 0), .lit (.int .u8 0), .lit (.int .u8 0), .lit (.int .u8 0), .lit (.int .u8 0), .lit (.int .u8 0), .lit (.int .u8 0), .lit (.int .u8 0), .lit (.int .u8 0), .lit (.int .u8 0), .lit (.int .u8 0), .lit (.int .u8 0), .lit (.int .u8 0), .lit (.int .u8 0), .lit (.int .u8 0), .lit (.int .u8 0), .lit (.int .u8 0), .lit (.int .u8 0), .lit (.int .u8 0), .lit (.int .u8 0), .lit (.int .u8 0), .lit (.int .u8 0), .lit (.int .u8 0), .lit (.int .u8 0), .lit (.int .u8 0), .lit (.int .u8 0), .lit (.int .u8 0), .lit (.int .u8 0), .lit (.int .u8 0), .lit (.int .u8 0), .lit (.int .u8 0), .lit (.int .u8 0), .lit (.int .u8 0), .lit (.int .u8 0), .lit (.int .u8 0), .lit (.int .u8 0), .lit (.int .u8 0), .lit (.int .u8 0), .lit (.int .u8 0), .lit (.int .u8 0), .lit (.int .u8 0), .lit (.int .u8 0), .lit (.int .u8 0), .lit (.int .u8 0), .lit (.int .u8 0), .lit (.int .u8 0), .lit (.int .u8 0), .lit (.int .u8 0), .lit (.int .u8 0), .lit (.int .u8 0), .lit (.int .u8 0), .lit (.int .u8 0), .lit (.int .u8 0), .lit (.int .u8 0), .lit (.int .u8 0), .lit (.int .u8 0)]

/-- 'althingtop.TopTwins': WHATEVER THE INPUT: true; the input reads as it did. -/
def topTwinsSpec : ChangeSpec := { name := "topTwins", fn := fun _ => fun
  | [d] => { results := [.lit (.bool true)], args := [d] }
  | _ => none }
def topTwinsRow : OpenClaim := { program := "ytdkpbpjcbkibiaagreatdoor", sum := "19a78b62f5f281c8469ff06bc0cbe91cbcd0d82b2252d415b4c3981b669404be", func := "althing/althingtop.TopTwins", spec := "topTwins", inPlace := ["internal/bytealg.IndexByteString", "slices.overlaps[althing/grid.cell[althing/api.Referendum]]", "slices.overlaps[althing/grid.cell[*althing/voting.record]]", "slices.overlaps[althing/grid.cell[althing/api.Vote]]", "slices.overlaps[althing/grid.cell[int]]", "slices.overlaps[althing/api.Task]", "maps.clone", "internal/bytealg.Compare"], unfollowed := true, recurses := true, named := ["strings.asciiSpace", "unicode.White_Space"], loops := true, plainKeys := false, apart := false, laid := [("unicode.White_Space", laid_unicode_White_Space), ("strings.asciiSpace", laid_strings_asciiSpace)] }
def TopTwinsSaid : Prop := topTwinsRow.holds Tryz.pinned (OpenSpec.ofChange topTwinsSpec)

/-- ITS FALSE NEIGHBOUR: 'it returns false'. Refute it at one input. -/
def topTwinsWrong : ChangeSpec := { name := "topTwins", fn := fun _ => fun
  | [d] => { results := [.lit (.bool false)], args := [d] }
  | _ => none }
def TopTwinsWrongFalsely : Prop := topTwinsRow.holds Tryz.pinned (OpenSpec.ofChange topTwinsWrong)

/-- 'althingtop.TopConviction': WHATEVER THE INPUT: true; the input reads as it did. -/
def topConvictionSpec : ChangeSpec := { name := "topConviction", fn := fun _ => fun
  | [d1, d2, d3, d4] => { results := [.lit (.bool true)], args := [d1, d2, d3, d4] }
  | _ => none }
def topConvictionRow : OpenClaim := { program := "ytdkpbpjcbkibiaagreatdoor", sum := "19a78b62f5f281c8469ff06bc0cbe91cbcd0d82b2252d415b4c3981b669404be", func := "althing/althingtop.TopConviction", spec := "topConviction", inPlace := ["internal/bytealg.IndexByteString", "slices.overlaps[althing/grid.cell[althing/api.Referendum]]", "slices.overlaps[althing/grid.cell[*althing/voting.record]]", "slices.overlaps[althing/grid.cell[althing/api.Vote]]", "slices.overlaps[althing/grid.cell[int]]", "slices.overlaps[althing/api.Task]", "maps.clone", "internal/bytealg.Compare"], unfollowed := true, recurses := true, named := ["strings.asciiSpace", "unicode.White_Space"], plainKeys := false, apart := false, laid := [("unicode.White_Space", laid_unicode_White_Space), ("strings.asciiSpace", laid_strings_asciiSpace)] }
def TopConvictionSaid : Prop := topConvictionRow.holds Tryz.pinned (OpenSpec.ofChange topConvictionSpec)

/-- ITS FALSE NEIGHBOUR: 'it returns false'. Refute it at one input. -/
def topConvictionWrong : ChangeSpec := { name := "topConviction", fn := fun _ => fun
  | [d1, d2, d3, d4] => { results := [.lit (.bool false)], args := [d1, d2, d3, d4] }
  | _ => none }
def TopConvictionWrongFalsely : Prop := topConvictionRow.holds Tryz.pinned (OpenSpec.ofChange topConvictionWrong)

/-- 'althingtop.TopLent': WHATEVER THE INPUT: true; the input reads as it did. -/
def topLentSpec : ChangeSpec := { name := "topLent", fn := fun _ => fun
  | [d1, d2, d3] => { results := [.lit (.bool true)], args := [d1, d2, d3] }
  | _ => none }
def topLentRow : OpenClaim := { program := "ytdkpbpjcbkibiaagreatdoor", sum := "19a78b62f5f281c8469ff06bc0cbe91cbcd0d82b2252d415b4c3981b669404be", func := "althing/althingtop.TopLent", spec := "topLent", inPlace := ["internal/bytealg.IndexByteString", "slices.overlaps[althing/grid.cell[althing/api.Referendum]]", "slices.overlaps[althing/grid.cell[*althing/voting.record]]", "slices.overlaps[althing/grid.cell[althing/api.Vote]]", "slices.overlaps[althing/grid.cell[int]]", "slices.overlaps[althing/api.Task]", "maps.clone", "internal/bytealg.Compare"], unfollowed := true, recurses := true, named := ["strings.asciiSpace", "unicode.White_Space"], plainKeys := false, apart := false, laid := [("unicode.White_Space", laid_unicode_White_Space), ("strings.asciiSpace", laid_strings_asciiSpace)] }
def TopLentSaid : Prop := topLentRow.holds Tryz.pinned (OpenSpec.ofChange topLentSpec)

/-- ITS FALSE NEIGHBOUR: 'it returns false'. Refute it at one input. -/
def topLentWrong : ChangeSpec := { name := "topLent", fn := fun _ => fun
  | [d1, d2, d3] => { results := [.lit (.bool false)], args := [d1, d2, d3] }
  | _ => none }
def TopLentWrongFalsely : Prop := topLentRow.holds Tryz.pinned (OpenSpec.ofChange topLentWrong)

/-- 'althingtop.TopLocked': WHATEVER THE INPUT: true; the input reads as it did. -/
def topLockedSpec : ChangeSpec := { name := "topLocked", fn := fun _ => fun
  | [d1, d2] => { results := [.lit (.bool true)], args := [d1, d2] }
  | _ => none }
def topLockedRow : OpenClaim := { program := "ytdkpbpjcbkibiaagreatdoor", sum := "19a78b62f5f281c8469ff06bc0cbe91cbcd0d82b2252d415b4c3981b669404be", func := "althing/althingtop.TopLocked", spec := "topLocked", inPlace := ["internal/bytealg.IndexByteString", "slices.overlaps[althing/grid.cell[althing/api.Referendum]]", "slices.overlaps[althing/grid.cell[*althing/voting.record]]", "slices.overlaps[althing/grid.cell[althing/api.Vote]]", "slices.overlaps[althing/grid.cell[int]]", "slices.overlaps[althing/api.Task]", "maps.clone", "internal/bytealg.Compare"], unfollowed := true, recurses := true, named := ["strings.asciiSpace", "unicode.White_Space"], plainKeys := false, apart := false, laid := [("unicode.White_Space", laid_unicode_White_Space), ("strings.asciiSpace", laid_strings_asciiSpace)] }
def TopLockedSaid : Prop := topLockedRow.holds Tryz.pinned (OpenSpec.ofChange topLockedSpec)

/-- ITS FALSE NEIGHBOUR: 'it returns false'. Refute it at one input. -/
def topLockedWrong : ChangeSpec := { name := "topLocked", fn := fun _ => fun
  | [d1, d2] => { results := [.lit (.bool false)], args := [d1, d2] }
  | _ => none }
def TopLockedWrongFalsely : Prop := topLockedRow.holds Tryz.pinned (OpenSpec.ofChange topLockedWrong)

/-- 'althingtop.TopSpends': WHATEVER THE INPUT: true; the input reads as it did. -/
def topSpendsSpec : ChangeSpec := { name := "topSpends", fn := fun _ => fun
  | [d] => { results := [.lit (.bool true)], args := [d] }
  | _ => none }
def topSpendsRow : OpenClaim := { program := "ytdkpbpjcbkibiaagreatdoor", sum := "19a78b62f5f281c8469ff06bc0cbe91cbcd0d82b2252d415b4c3981b669404be", func := "althing/althingtop.TopSpends", spec := "topSpends", inPlace := ["internal/bytealg.IndexByteString", "slices.overlaps[althing/grid.cell[althing/api.Referendum]]", "slices.overlaps[althing/grid.cell[*althing/voting.record]]", "slices.overlaps[althing/grid.cell[althing/api.Vote]]", "slices.overlaps[althing/grid.cell[int]]", "slices.overlaps[althing/api.Task]", "maps.clone", "internal/bytealg.Compare"], unfollowed := true, recurses := true, named := ["strings.asciiSpace", "unicode.White_Space"], loops := true, plainKeys := false, apart := false, laid := [("unicode.White_Space", laid_unicode_White_Space), ("strings.asciiSpace", laid_strings_asciiSpace)] }
def TopSpendsSaid : Prop := topSpendsRow.holds Tryz.pinned (OpenSpec.ofChange topSpendsSpec)

/-- ITS FALSE NEIGHBOUR: 'it returns false'. Refute it at one input. -/
def topSpendsWrong : ChangeSpec := { name := "topSpends", fn := fun _ => fun
  | [d] => { results := [.lit (.bool false)], args := [d] }
  | _ => none }
def TopSpendsWrongFalsely : Prop := topSpendsRow.holds Tryz.pinned (OpenSpec.ofChange topSpendsWrong)

/- THE SECOND FORM. 'bulk': how many values and letters a reading holds, each counted each time it is reached (what is shared counts as often as it is met; a slice's spare places count too). A statement '..UptoSaid' is the law's where the arguments, and the package variables that the reading takes, are together of bulk at most 1048576: NARROWER than '..Said'. Prove '..Said' where nothing that the law and all that it calls make is longer than what came in: it says more and counts as full. Else prove '..UptoSaid'. A law counts once. -/
mutual
def uptoBulk {H : Type} : DataW H → Nat
  | .lit (.string bytes) => bytes.length + 1
  | .lit _ => 1
  | .nil => 1
  | .ptr d => uptoBulk d + 1
  | .slice elems spare => uptoBulkAll elems + uptoBulkAll spare + 1
  | .agg parts => uptoBulkAll parts + 1
  | .iface _ d => uptoBulk d + 1
  | .map entries => uptoBulkEntries entries + 1
  | .held _ => 1
def uptoBulkAll {H : Type} : List (DataW H) → Nat
  | [] => 0
  | d :: r => uptoBulk d + uptoBulkAll r
def uptoBulkEntries {H : Type} : List (Lit × DataW H) → Nat
  | [] => 0
  | x :: r => uptoBulkEntry x + uptoBulkEntries r
def uptoBulkEntry {H : Type} : Lit × DataW H → Nat
  | (.string bytes, d) => bytes.length + uptoBulk d + 1
  | (_, d) => uptoBulk d + 1
 end
def uptoSmall : (H : Type) → List (DataW H) → Bool := fun _ ds => decide (uptoBulkAll ds ≤ 1048576)
def OpenSpec.upto (s : _root_.Go.ChangeSpec) : _root_.Go.OpenSpec := { _root_.Go.OpenSpec.ofChange s with cond := some uptoSmall }

/-- 'althingtop.TopTwins', WHERE WHAT IT READS IS OF BULK AT MOST 1048576: true; the input reads as it did. -/
def topTwinsUptoRow : OpenClaim := { program := "ytdkpbpjcbkibiaagreatdoor", sum := "19a78b62f5f281c8469ff06bc0cbe91cbcd0d82b2252d415b4c3981b669404be", func := "althing/althingtop.TopTwins", spec := "topTwins", inPlace := ["internal/bytealg.IndexByteString", "slices.overlaps[althing/grid.cell[althing/api.Referendum]]", "slices.overlaps[althing/grid.cell[*althing/voting.record]]", "slices.overlaps[althing/grid.cell[althing/api.Vote]]", "slices.overlaps[althing/grid.cell[int]]", "slices.overlaps[althing/api.Task]", "maps.clone", "internal/bytealg.Compare"], unfollowed := true, recurses := true, named := ["strings.asciiSpace", "unicode.White_Space"], loops := true, plainKeys := false, apart := false, laid := [("unicode.White_Space", laid_unicode_White_Space), ("strings.asciiSpace", laid_strings_asciiSpace)], narrowed := true }
def TopTwinsUptoSaid : Prop := topTwinsUptoRow.holds Tryz.pinned (OpenSpec.upto topTwinsSpec)

/-- 'althingtop.TopConviction', WHERE WHAT IT READS IS OF BULK AT MOST 1048576: true; the input reads as it did. -/
def topConvictionUptoRow : OpenClaim := { program := "ytdkpbpjcbkibiaagreatdoor", sum := "19a78b62f5f281c8469ff06bc0cbe91cbcd0d82b2252d415b4c3981b669404be", func := "althing/althingtop.TopConviction", spec := "topConviction", inPlace := ["internal/bytealg.IndexByteString", "slices.overlaps[althing/grid.cell[althing/api.Referendum]]", "slices.overlaps[althing/grid.cell[*althing/voting.record]]", "slices.overlaps[althing/grid.cell[althing/api.Vote]]", "slices.overlaps[althing/grid.cell[int]]", "slices.overlaps[althing/api.Task]", "maps.clone", "internal/bytealg.Compare"], unfollowed := true, recurses := true, named := ["strings.asciiSpace", "unicode.White_Space"], plainKeys := false, apart := false, laid := [("unicode.White_Space", laid_unicode_White_Space), ("strings.asciiSpace", laid_strings_asciiSpace)], narrowed := true }
def TopConvictionUptoSaid : Prop := topConvictionUptoRow.holds Tryz.pinned (OpenSpec.upto topConvictionSpec)

/-- 'althingtop.TopLent', WHERE WHAT IT READS IS OF BULK AT MOST 1048576: true; the input reads as it did. -/
def topLentUptoRow : OpenClaim := { program := "ytdkpbpjcbkibiaagreatdoor", sum := "19a78b62f5f281c8469ff06bc0cbe91cbcd0d82b2252d415b4c3981b669404be", func := "althing/althingtop.TopLent", spec := "topLent", inPlace := ["internal/bytealg.IndexByteString", "slices.overlaps[althing/grid.cell[althing/api.Referendum]]", "slices.overlaps[althing/grid.cell[*althing/voting.record]]", "slices.overlaps[althing/grid.cell[althing/api.Vote]]", "slices.overlaps[althing/grid.cell[int]]", "slices.overlaps[althing/api.Task]", "maps.clone", "internal/bytealg.Compare"], unfollowed := true, recurses := true, named := ["strings.asciiSpace", "unicode.White_Space"], plainKeys := false, apart := false, laid := [("unicode.White_Space", laid_unicode_White_Space), ("strings.asciiSpace", laid_strings_asciiSpace)], narrowed := true }
def TopLentUptoSaid : Prop := topLentUptoRow.holds Tryz.pinned (OpenSpec.upto topLentSpec)

/-- 'althingtop.TopLocked', WHERE WHAT IT READS IS OF BULK AT MOST 1048576: true; the input reads as it did. -/
def topLockedUptoRow : OpenClaim := { program := "ytdkpbpjcbkibiaagreatdoor", sum := "19a78b62f5f281c8469ff06bc0cbe91cbcd0d82b2252d415b4c3981b669404be", func := "althing/althingtop.TopLocked", spec := "topLocked", inPlace := ["internal/bytealg.IndexByteString", "slices.overlaps[althing/grid.cell[althing/api.Referendum]]", "slices.overlaps[althing/grid.cell[*althing/voting.record]]", "slices.overlaps[althing/grid.cell[althing/api.Vote]]", "slices.overlaps[althing/grid.cell[int]]", "slices.overlaps[althing/api.Task]", "maps.clone", "internal/bytealg.Compare"], unfollowed := true, recurses := true, named := ["strings.asciiSpace", "unicode.White_Space"], plainKeys := false, apart := false, laid := [("unicode.White_Space", laid_unicode_White_Space), ("strings.asciiSpace", laid_strings_asciiSpace)], narrowed := true }
def TopLockedUptoSaid : Prop := topLockedUptoRow.holds Tryz.pinned (OpenSpec.upto topLockedSpec)

/-- 'althingtop.TopSpends', WHERE WHAT IT READS IS OF BULK AT MOST 1048576: true; the input reads as it did. -/
def topSpendsUptoRow : OpenClaim := { program := "ytdkpbpjcbkibiaagreatdoor", sum := "19a78b62f5f281c8469ff06bc0cbe91cbcd0d82b2252d415b4c3981b669404be", func := "althing/althingtop.TopSpends", spec := "topSpends", inPlace := ["internal/bytealg.IndexByteString", "slices.overlaps[althing/grid.cell[althing/api.Referendum]]", "slices.overlaps[althing/grid.cell[*althing/voting.record]]", "slices.overlaps[althing/grid.cell[althing/api.Vote]]", "slices.overlaps[althing/grid.cell[int]]", "slices.overlaps[althing/api.Task]", "maps.clone", "internal/bytealg.Compare"], unfollowed := true, recurses := true, named := ["strings.asciiSpace", "unicode.White_Space"], loops := true, plainKeys := false, apart := false, laid := [("unicode.White_Space", laid_unicode_White_Space), ("strings.asciiSpace", laid_strings_asciiSpace)], narrowed := true }
def TopSpendsUptoSaid : Prop := topSpendsUptoRow.holds Tryz.pinned (OpenSpec.upto topSpendsSpec)

end Rows
end Go.Proofs.YtdkpbpjcbkibiaaGreatDoor
