/-
  No cell of these rows narrows 'for every input' (looked for: loops, veiled, ifaces, maps, wideKeys, modest, calm, conditions, laid).
  DERIVED. THE GIVEN ROWS OF THIS SEAT. 18 by the template 'for every input the law returns true; each argument reads behind the call as it read before'; 0 by the template 'total and deterministic' (their statements: YtpnjddolboahoaaTotals.lean).
  GIVEN WITH THE SEED: the statements are not yours to turn. If you find one false, say at which input.
  Laid BY PROGRAM, IN A SANDBOX (cutbox-rows.mjs): the forced cells as the released guide's own fill.sh prints them over the translation c2c2ecb52b791a71… (all of the seat's roots in one cut). By AI agents, Wed Nov 11 2026. No macro, syntax, notation, axiom, sorry.
-/
import Derived.Test.YtpnjddolboahoaaChecked
import GoSem.Claim
import GoSem.ClaimJoined
import GoSem.ClaimMapViews
import Derived.JoinedTies
import Derived.KernelRfl
namespace Go.Proofs.Ytpnjddolboahoaa
/- THE CELL 'sum', in the pinned program and in every row, IS THE sha256 OF THE DUMP (.gsa) THAT YtpnjddolboahoaaProg.lean LOADS. Nothing in Lean hashes anything: it is a label: what it is worth is what the hold of that sum in a sandbox is worth. -/
noncomputable def Try.pinned : Pinned := { name := "ytpnjddolboahoaa", sum := "c2c2ecb52b791a718c096bec60a5032394f8ae6c7222dbe1f91b7db4ba8dff6c", checked := Try.checked }
namespace Rows
def none {H : Type} : Left H := { results := [], args := [] }

/-- 'althinglaw10.TrackMay': WHATEVER THE INPUT: true; the input reads as it did. -/
def trackMaySpec : ChangeSpec := { name := "trackMay", fn := fun _ => fun
  | [d] => { results := [.lit (.bool true)], args := [d] }
  | _ => none }
def trackMayRow : OpenClaim := { program := "ytpnjddolboahoaa", sum := "c2c2ecb52b791a718c096bec60a5032394f8ae6c7222dbe1f91b7db4ba8dff6c", func := "althing/althinglaw10.TrackMay", spec := "trackMay", apart := false }
def TrackMaySaid : Prop := trackMayRow.holds Try.pinned (OpenSpec.ofChange trackMaySpec)

/-- ITS FALSE NEIGHBOUR: 'it returns false'. Refute it at one input. -/
def trackMayWrong : ChangeSpec := { name := "trackMay", fn := fun _ => fun
  | [d] => { results := [.lit (.bool false)], args := [d] }
  | _ => none }
def TrackMayWrongFalsely : Prop := trackMayRow.holds Try.pinned (OpenSpec.ofChange trackMayWrong)

/-- 'althinglaw10.TrackTells': WHATEVER THE INPUT: true; the input reads as it did. -/
def trackTellsSpec : ChangeSpec := { name := "trackTells", fn := fun _ => fun
  | [d1, d2, d3, d4] => { results := [.lit (.bool true)], args := [d1, d2, d3, d4] }
  | _ => none }
def trackTellsRow : OpenClaim := { program := "ytpnjddolboahoaa", sum := "c2c2ecb52b791a718c096bec60a5032394f8ae6c7222dbe1f91b7db4ba8dff6c", func := "althing/althinglaw10.TrackTells", spec := "trackTells", apart := false }
def TrackTellsSaid : Prop := trackTellsRow.holds Try.pinned (OpenSpec.ofChange trackTellsSpec)

/-- ITS FALSE NEIGHBOUR: 'it returns false'. Refute it at one input. -/
def trackTellsWrong : ChangeSpec := { name := "trackTells", fn := fun _ => fun
  | [d1, d2, d3, d4] => { results := [.lit (.bool false)], args := [d1, d2, d3, d4] }
  | _ => none }
def TrackTellsWrongFalsely : Prop := trackTellsRow.holds Try.pinned (OpenSpec.ofChange trackTellsWrong)

/-- 'althinglaw10.TrackMore': WHATEVER THE INPUT: true; the input reads as it did. -/
def trackMoreSpec : ChangeSpec := { name := "trackMore", fn := fun _ => fun
  | [d1, d2, d3, d4, d5, d6, d7, d8] => { results := [.lit (.bool true)], args := [d1, d2, d3, d4, d5, d6, d7, d8] }
  | _ => none }
def trackMoreRow : OpenClaim := { program := "ytpnjddolboahoaa", sum := "c2c2ecb52b791a718c096bec60a5032394f8ae6c7222dbe1f91b7db4ba8dff6c", func := "althing/althinglaw10.TrackMore", spec := "trackMore", apart := false }
def TrackMoreSaid : Prop := trackMoreRow.holds Try.pinned (OpenSpec.ofChange trackMoreSpec)

/-- ITS FALSE NEIGHBOUR: 'it returns false'. Refute it at one input. -/
def trackMoreWrong : ChangeSpec := { name := "trackMore", fn := fun _ => fun
  | [d1, d2, d3, d4, d5, d6, d7, d8] => { results := [.lit (.bool false)], args := [d1, d2, d3, d4, d5, d6, d7, d8] }
  | _ => none }
def TrackMoreWrongFalsely : Prop := trackMoreRow.holds Try.pinned (OpenSpec.ofChange trackMoreWrong)

/-- 'althinglaw10.TrackExact': WHATEVER THE INPUT: true; the input reads as it did. -/
def trackExactSpec : ChangeSpec := { name := "trackExact", fn := fun _ => fun
  | [d1, d2, d3, d4] => { results := [.lit (.bool true)], args := [d1, d2, d3, d4] }
  | _ => none }
def trackExactRow : OpenClaim := { program := "ytpnjddolboahoaa", sum := "c2c2ecb52b791a718c096bec60a5032394f8ae6c7222dbe1f91b7db4ba8dff6c", func := "althing/althinglaw10.TrackExact", spec := "trackExact", apart := false }
def TrackExactSaid : Prop := trackExactRow.holds Try.pinned (OpenSpec.ofChange trackExactSpec)

/-- ITS FALSE NEIGHBOUR: 'it returns false'. Refute it at one input. -/
def trackExactWrong : ChangeSpec := { name := "trackExact", fn := fun _ => fun
  | [d1, d2, d3, d4] => { results := [.lit (.bool false)], args := [d1, d2, d3, d4] }
  | _ => none }
def TrackExactWrongFalsely : Prop := trackExactRow.holds Try.pinned (OpenSpec.ofChange trackExactWrong)

/-- 'althinglaw10.TrackNobody': WHATEVER THE INPUT: true; the input reads as it did. -/
def trackNobodySpec : ChangeSpec := { name := "trackNobody", fn := fun _ => fun
  | [d1, d2, d3] => { results := [.lit (.bool true)], args := [d1, d2, d3] }
  | _ => none }
def trackNobodyRow : OpenClaim := { program := "ytpnjddolboahoaa", sum := "c2c2ecb52b791a718c096bec60a5032394f8ae6c7222dbe1f91b7db4ba8dff6c", func := "althing/althinglaw10.TrackNobody", spec := "trackNobody", apart := false }
def TrackNobodySaid : Prop := trackNobodyRow.holds Try.pinned (OpenSpec.ofChange trackNobodySpec)

/-- ITS FALSE NEIGHBOUR: 'it returns false'. Refute it at one input. -/
def trackNobodyWrong : ChangeSpec := { name := "trackNobody", fn := fun _ => fun
  | [d1, d2, d3] => { results := [.lit (.bool false)], args := [d1, d2, d3] }
  | _ => none }
def TrackNobodyWrongFalsely : Prop := trackNobodyRow.holds Try.pinned (OpenSpec.ofChange trackNobodyWrong)

/-- 'althinglaw10.TrackStill': WHATEVER THE INPUT: true; the input reads as it did. -/
def trackStillSpec : ChangeSpec := { name := "trackStill", fn := fun _ => fun
  | [d1, d2, d3, d4] => { results := [.lit (.bool true)], args := [d1, d2, d3, d4] }
  | _ => none }
def trackStillRow : OpenClaim := { program := "ytpnjddolboahoaa", sum := "c2c2ecb52b791a718c096bec60a5032394f8ae6c7222dbe1f91b7db4ba8dff6c", func := "althing/althinglaw10.TrackStill", spec := "trackStill", apart := false }
def TrackStillSaid : Prop := trackStillRow.holds Try.pinned (OpenSpec.ofChange trackStillSpec)

/-- ITS FALSE NEIGHBOUR: 'it returns false'. Refute it at one input. -/
def trackStillWrong : ChangeSpec := { name := "trackStill", fn := fun _ => fun
  | [d1, d2, d3, d4] => { results := [.lit (.bool false)], args := [d1, d2, d3, d4] }
  | _ => none }
def TrackStillWrongFalsely : Prop := trackStillRow.holds Try.pinned (OpenSpec.ofChange trackStillWrong)

/-- 'althinglaw10.TrackHalf': WHATEVER THE INPUT: true; the input reads as it did. -/
def trackHalfSpec : ChangeSpec := { name := "trackHalf", fn := fun _ => fun
  | [d1, d2, d3] => { results := [.lit (.bool true)], args := [d1, d2, d3] }
  | _ => none }
def trackHalfRow : OpenClaim := { program := "ytpnjddolboahoaa", sum := "c2c2ecb52b791a718c096bec60a5032394f8ae6c7222dbe1f91b7db4ba8dff6c", func := "althing/althinglaw10.TrackHalf", spec := "trackHalf", apart := false }
def TrackHalfSaid : Prop := trackHalfRow.holds Try.pinned (OpenSpec.ofChange trackHalfSpec)

/-- ITS FALSE NEIGHBOUR: 'it returns false'. Refute it at one input. -/
def trackHalfWrong : ChangeSpec := { name := "trackHalf", fn := fun _ => fun
  | [d1, d2, d3] => { results := [.lit (.bool false)], args := [d1, d2, d3] }
  | _ => none }
def TrackHalfWrongFalsely : Prop := trackHalfRow.holds Try.pinned (OpenSpec.ofChange trackHalfWrong)

/-- 'althinglaw4.PerTells': WHATEVER THE INPUT: true; the input reads as it did. -/
def perTellsSpec : ChangeSpec := { name := "perTells", fn := fun _ => fun
  | [d1, d2, d3, d4] => { results := [.lit (.bool true)], args := [d1, d2, d3, d4] }
  | _ => none }
def perTellsRow : OpenClaim := { program := "ytpnjddolboahoaa", sum := "c2c2ecb52b791a718c096bec60a5032394f8ae6c7222dbe1f91b7db4ba8dff6c", func := "althing/althinglaw4.PerTells", spec := "perTells", apart := false }
def PerTellsSaid : Prop := perTellsRow.holds Try.pinned (OpenSpec.ofChange perTellsSpec)

/-- ITS FALSE NEIGHBOUR: 'it returns false'. Refute it at one input. -/
def perTellsWrong : ChangeSpec := { name := "perTells", fn := fun _ => fun
  | [d1, d2, d3, d4] => { results := [.lit (.bool false)], args := [d1, d2, d3, d4] }
  | _ => none }
def PerTellsWrongFalsely : Prop := perTellsRow.holds Try.pinned (OpenSpec.ofChange perTellsWrong)

/-- 'althinglaw4.PerParts': WHATEVER THE INPUT: true; the input reads as it did. -/
def perPartsSpec : ChangeSpec := { name := "perParts", fn := fun _ => fun
  | [d1, d2] => { results := [.lit (.bool true)], args := [d1, d2] }
  | _ => none }
def perPartsRow : OpenClaim := { program := "ytpnjddolboahoaa", sum := "c2c2ecb52b791a718c096bec60a5032394f8ae6c7222dbe1f91b7db4ba8dff6c", func := "althing/althinglaw4.PerParts", spec := "perParts", apart := false }
def PerPartsSaid : Prop := perPartsRow.holds Try.pinned (OpenSpec.ofChange perPartsSpec)

/-- ITS FALSE NEIGHBOUR: 'it returns false'. Refute it at one input. -/
def perPartsWrong : ChangeSpec := { name := "perParts", fn := fun _ => fun
  | [d1, d2] => { results := [.lit (.bool false)], args := [d1, d2] }
  | _ => none }
def PerPartsWrongFalsely : Prop := perPartsRow.holds Try.pinned (OpenSpec.ofChange perPartsWrong)

/-- 'althinglaw4.PerRatios': WHATEVER THE INPUT: true; the input reads as it did. -/
def perRatiosSpec : ChangeSpec := { name := "perRatios", fn := fun _ => fun
  | [d1, d2, d3] => { results := [.lit (.bool true)], args := [d1, d2, d3] }
  | _ => none }
def perRatiosRow : OpenClaim := { program := "ytpnjddolboahoaa", sum := "c2c2ecb52b791a718c096bec60a5032394f8ae6c7222dbe1f91b7db4ba8dff6c", func := "althing/althinglaw4.PerRatios", spec := "perRatios", apart := false }
def PerRatiosSaid : Prop := perRatiosRow.holds Try.pinned (OpenSpec.ofChange perRatiosSpec)

/-- ITS FALSE NEIGHBOUR: 'it returns false'. Refute it at one input. -/
def perRatiosWrong : ChangeSpec := { name := "perRatios", fn := fun _ => fun
  | [d1, d2, d3] => { results := [.lit (.bool false)], args := [d1, d2, d3] }
  | _ => none }
def PerRatiosWrongFalsely : Prop := perRatiosRow.holds Try.pinned (OpenSpec.ofChange perRatiosWrong)

/-- 'althinglaw4.PerFalls': WHATEVER THE INPUT: true; the input reads as it did. -/
def perFallsSpec : ChangeSpec := { name := "perFalls", fn := fun _ => fun
  | [d1, d2, d3] => { results := [.lit (.bool true)], args := [d1, d2, d3] }
  | _ => none }
def perFallsRow : OpenClaim := { program := "ytpnjddolboahoaa", sum := "c2c2ecb52b791a718c096bec60a5032394f8ae6c7222dbe1f91b7db4ba8dff6c", func := "althing/althinglaw4.PerFalls", spec := "perFalls", apart := false }
def PerFallsSaid : Prop := perFallsRow.holds Try.pinned (OpenSpec.ofChange perFallsSpec)

/-- ITS FALSE NEIGHBOUR: 'it returns false'. Refute it at one input. -/
def perFallsWrong : ChangeSpec := { name := "perFalls", fn := fun _ => fun
  | [d1, d2, d3] => { results := [.lit (.bool false)], args := [d1, d2, d3] }
  | _ => none }
def PerFallsWrongFalsely : Prop := perFallsRow.holds Try.pinned (OpenSpec.ofChange perFallsWrong)

/-- 'althinglaw4.PerEnds': WHATEVER THE INPUT: true; the input reads as it did. -/
def perEndsSpec : ChangeSpec := { name := "perEnds", fn := fun _ => fun
  | [d] => { results := [.lit (.bool true)], args := [d] }
  | _ => none }
def perEndsRow : OpenClaim := { program := "ytpnjddolboahoaa", sum := "c2c2ecb52b791a718c096bec60a5032394f8ae6c7222dbe1f91b7db4ba8dff6c", func := "althing/althinglaw4.PerEnds", spec := "perEnds", apart := false }
def PerEndsSaid : Prop := perEndsRow.holds Try.pinned (OpenSpec.ofChange perEndsSpec)

/-- ITS FALSE NEIGHBOUR: 'it returns false'. Refute it at one input. -/
def perEndsWrong : ChangeSpec := { name := "perEnds", fn := fun _ => fun
  | [d] => { results := [.lit (.bool false)], args := [d] }
  | _ => none }
def PerEndsWrongFalsely : Prop := perEndsRow.holds Try.pinned (OpenSpec.ofChange perEndsWrong)

/-- 'althinglaw4.PerWhole': WHATEVER THE INPUT: true; the input reads as it did. -/
def perWholeSpec : ChangeSpec := { name := "perWhole", fn := fun _ => fun
  | [d1, d2] => { results := [.lit (.bool true)], args := [d1, d2] }
  | _ => none }
def perWholeRow : OpenClaim := { program := "ytpnjddolboahoaa", sum := "c2c2ecb52b791a718c096bec60a5032394f8ae6c7222dbe1f91b7db4ba8dff6c", func := "althing/althinglaw4.PerWhole", spec := "perWhole", apart := false }
def PerWholeSaid : Prop := perWholeRow.holds Try.pinned (OpenSpec.ofChange perWholeSpec)

/-- ITS FALSE NEIGHBOUR: 'it returns false'. Refute it at one input. -/
def perWholeWrong : ChangeSpec := { name := "perWhole", fn := fun _ => fun
  | [d1, d2] => { results := [.lit (.bool false)], args := [d1, d2] }
  | _ => none }
def PerWholeWrongFalsely : Prop := perWholeRow.holds Try.pinned (OpenSpec.ofChange perWholeWrong)

/-- 'althinglaw4.PerSteps': WHATEVER THE INPUT: true; the input reads as it did. -/
def perStepsSpec : ChangeSpec := { name := "perSteps", fn := fun _ => fun
  | [d1, d2, d3, d4, d5, d6] => { results := [.lit (.bool true)], args := [d1, d2, d3, d4, d5, d6] }
  | _ => none }
def perStepsRow : OpenClaim := { program := "ytpnjddolboahoaa", sum := "c2c2ecb52b791a718c096bec60a5032394f8ae6c7222dbe1f91b7db4ba8dff6c", func := "althing/althinglaw4.PerSteps", spec := "perSteps", apart := false }
def PerStepsSaid : Prop := perStepsRow.holds Try.pinned (OpenSpec.ofChange perStepsSpec)

/-- ITS FALSE NEIGHBOUR: 'it returns false'. Refute it at one input. -/
def perStepsWrong : ChangeSpec := { name := "perSteps", fn := fun _ => fun
  | [d1, d2, d3, d4, d5, d6] => { results := [.lit (.bool false)], args := [d1, d2, d3, d4, d5, d6] }
  | _ => none }
def PerStepsWrongFalsely : Prop := perStepsRow.holds Try.pinned (OpenSpec.ofChange perStepsWrong)

/-- 'althinglaw4.PerRecips': WHATEVER THE INPUT: true; the input reads as it did. -/
def perRecipsSpec : ChangeSpec := { name := "perRecips", fn := fun _ => fun
  | [d1, d2, d3, d4] => { results := [.lit (.bool true)], args := [d1, d2, d3, d4] }
  | _ => none }
def perRecipsRow : OpenClaim := { program := "ytpnjddolboahoaa", sum := "c2c2ecb52b791a718c096bec60a5032394f8ae6c7222dbe1f91b7db4ba8dff6c", func := "althing/althinglaw4.PerRecips", spec := "perRecips", apart := false }
def PerRecipsSaid : Prop := perRecipsRow.holds Try.pinned (OpenSpec.ofChange perRecipsSpec)

/-- ITS FALSE NEIGHBOUR: 'it returns false'. Refute it at one input. -/
def perRecipsWrong : ChangeSpec := { name := "perRecips", fn := fun _ => fun
  | [d1, d2, d3, d4] => { results := [.lit (.bool false)], args := [d1, d2, d3, d4] }
  | _ => none }
def PerRecipsWrongFalsely : Prop := perRecipsRow.holds Try.pinned (OpenSpec.ofChange perRecipsWrong)

/-- 'althinglaw4.PerMiddles': WHATEVER THE INPUT: true; the input reads as it did. -/
def perMiddlesSpec : ChangeSpec := { name := "perMiddles", fn := fun _ => fun
  | [d1, d2, d3, d4] => { results := [.lit (.bool true)], args := [d1, d2, d3, d4] }
  | _ => none }
def perMiddlesRow : OpenClaim := { program := "ytpnjddolboahoaa", sum := "c2c2ecb52b791a718c096bec60a5032394f8ae6c7222dbe1f91b7db4ba8dff6c", func := "althing/althinglaw4.PerMiddles", spec := "perMiddles", apart := false }
def PerMiddlesSaid : Prop := perMiddlesRow.holds Try.pinned (OpenSpec.ofChange perMiddlesSpec)

/-- ITS FALSE NEIGHBOUR: 'it returns false'. Refute it at one input. -/
def perMiddlesWrong : ChangeSpec := { name := "perMiddles", fn := fun _ => fun
  | [d1, d2, d3, d4] => { results := [.lit (.bool false)], args := [d1, d2, d3, d4] }
  | _ => none }
def PerMiddlesWrongFalsely : Prop := perMiddlesRow.holds Try.pinned (OpenSpec.ofChange perMiddlesWrong)

/-- 'althinglaw4.PerCurves': WHATEVER THE INPUT: true; the input reads as it did. -/
def perCurvesSpec : ChangeSpec := { name := "perCurves", fn := fun _ => fun
  | [d1, d2, d3] => { results := [.lit (.bool true)], args := [d1, d2, d3] }
  | _ => none }
def perCurvesRow : OpenClaim := { program := "ytpnjddolboahoaa", sum := "c2c2ecb52b791a718c096bec60a5032394f8ae6c7222dbe1f91b7db4ba8dff6c", func := "althing/althinglaw4.PerCurves", spec := "perCurves", unfollowed := true, recurses := true, apart := false }
def PerCurvesSaid : Prop := perCurvesRow.holds Try.pinned (OpenSpec.ofChange perCurvesSpec)

/-- ITS FALSE NEIGHBOUR: 'it returns false'. Refute it at one input. -/
def perCurvesWrong : ChangeSpec := { name := "perCurves", fn := fun _ => fun
  | [d1, d2, d3] => { results := [.lit (.bool false)], args := [d1, d2, d3] }
  | _ => none }
def PerCurvesWrongFalsely : Prop := perCurvesRow.holds Try.pinned (OpenSpec.ofChange perCurvesWrong)

/-- 'althinglaw4.PerDelays': WHATEVER THE INPUT: true; the input reads as it did. -/
def perDelaysSpec : ChangeSpec := { name := "perDelays", fn := fun _ => fun
  | [d1, d2, d3] => { results := [.lit (.bool true)], args := [d1, d2, d3] }
  | _ => none }
def perDelaysRow : OpenClaim := { program := "ytpnjddolboahoaa", sum := "c2c2ecb52b791a718c096bec60a5032394f8ae6c7222dbe1f91b7db4ba8dff6c", func := "althing/althinglaw4.PerDelays", spec := "perDelays", unfollowed := true, recurses := true, apart := false }
def PerDelaysSaid : Prop := perDelaysRow.holds Try.pinned (OpenSpec.ofChange perDelaysSpec)

/-- ITS FALSE NEIGHBOUR: 'it returns false'. Refute it at one input. -/
def perDelaysWrong : ChangeSpec := { name := "perDelays", fn := fun _ => fun
  | [d1, d2, d3] => { results := [.lit (.bool false)], args := [d1, d2, d3] }
  | _ => none }
def PerDelaysWrongFalsely : Prop := perDelaysRow.holds Try.pinned (OpenSpec.ofChange perDelaysWrong)

/- THE SECOND FORM. 'bulk': how many values and letters a reading holds, each counted each time it is reached (what is shared counts as often as it is met; a slice's spare places count too). A statement '..UptoSaid' is the law's where the arguments, and the package variables that the reading takes, are together of bulk at most 1048576: NARROWER than '..Said'. Prove '..Said' where nothing that the law and all that it calls make is longer than what came in: it says more and counts as full. Else prove '..UptoSaid'. A law counts once. -/
mutual
def uptoBulk {H : Type} : DataW H → Nat
  | .lit (.string bytes) => bytes.length + 1
  | .lit _ => 1
  | .nil => 1
  | .ptr d => uptoBulk d + 1
  | .slice elems spare => uptoBulkAll elems + uptoBulkAll spare + 1
  | .agg parts => uptoBulkAll parts + 1
  | .iface _ d => uptoBulk d + 1
  | .map entries => uptoBulkEntries entries + 1
  | .held _ => 1
def uptoBulkAll {H : Type} : List (DataW H) → Nat
  | [] => 0
  | d :: r => uptoBulk d + uptoBulkAll r
def uptoBulkEntries {H : Type} : List (Lit × DataW H) → Nat
  | [] => 0
  | x :: r => uptoBulkEntry x + uptoBulkEntries r
def uptoBulkEntry {H : Type} : Lit × DataW H → Nat
  | (.string bytes, d) => bytes.length + uptoBulk d + 1
  | (_, d) => uptoBulk d + 1
 end
def uptoSmall : (H : Type) → List (DataW H) → Bool := fun _ ds => decide (uptoBulkAll ds ≤ 1048576)
def OpenSpec.upto (s : _root_.Go.ChangeSpec) : _root_.Go.OpenSpec := { _root_.Go.OpenSpec.ofChange s with cond := some uptoSmall }

/-- 'althinglaw10.TrackMay', WHERE WHAT IT READS IS OF BULK AT MOST 1048576: true; the input reads as it did. -/
def trackMayUptoRow : OpenClaim := { program := "ytpnjddolboahoaa", sum := "c2c2ecb52b791a718c096bec60a5032394f8ae6c7222dbe1f91b7db4ba8dff6c", func := "althing/althinglaw10.TrackMay", spec := "trackMay", apart := false, narrowed := true }
def TrackMayUptoSaid : Prop := trackMayUptoRow.holds Try.pinned (OpenSpec.upto trackMaySpec)

/-- 'althinglaw10.TrackTells', WHERE WHAT IT READS IS OF BULK AT MOST 1048576: true; the input reads as it did. -/
def trackTellsUptoRow : OpenClaim := { program := "ytpnjddolboahoaa", sum := "c2c2ecb52b791a718c096bec60a5032394f8ae6c7222dbe1f91b7db4ba8dff6c", func := "althing/althinglaw10.TrackTells", spec := "trackTells", apart := false, narrowed := true }
def TrackTellsUptoSaid : Prop := trackTellsUptoRow.holds Try.pinned (OpenSpec.upto trackTellsSpec)

/-- 'althinglaw10.TrackMore', WHERE WHAT IT READS IS OF BULK AT MOST 1048576: true; the input reads as it did. -/
def trackMoreUptoRow : OpenClaim := { program := "ytpnjddolboahoaa", sum := "c2c2ecb52b791a718c096bec60a5032394f8ae6c7222dbe1f91b7db4ba8dff6c", func := "althing/althinglaw10.TrackMore", spec := "trackMore", apart := false, narrowed := true }
def TrackMoreUptoSaid : Prop := trackMoreUptoRow.holds Try.pinned (OpenSpec.upto trackMoreSpec)

/-- 'althinglaw10.TrackExact', WHERE WHAT IT READS IS OF BULK AT MOST 1048576: true; the input reads as it did. -/
def trackExactUptoRow : OpenClaim := { program := "ytpnjddolboahoaa", sum := "c2c2ecb52b791a718c096bec60a5032394f8ae6c7222dbe1f91b7db4ba8dff6c", func := "althing/althinglaw10.TrackExact", spec := "trackExact", apart := false, narrowed := true }
def TrackExactUptoSaid : Prop := trackExactUptoRow.holds Try.pinned (OpenSpec.upto trackExactSpec)

/-- 'althinglaw10.TrackNobody', WHERE WHAT IT READS IS OF BULK AT MOST 1048576: true; the input reads as it did. -/
def trackNobodyUptoRow : OpenClaim := { program := "ytpnjddolboahoaa", sum := "c2c2ecb52b791a718c096bec60a5032394f8ae6c7222dbe1f91b7db4ba8dff6c", func := "althing/althinglaw10.TrackNobody", spec := "trackNobody", apart := false, narrowed := true }
def TrackNobodyUptoSaid : Prop := trackNobodyUptoRow.holds Try.pinned (OpenSpec.upto trackNobodySpec)

/-- 'althinglaw10.TrackStill', WHERE WHAT IT READS IS OF BULK AT MOST 1048576: true; the input reads as it did. -/
def trackStillUptoRow : OpenClaim := { program := "ytpnjddolboahoaa", sum := "c2c2ecb52b791a718c096bec60a5032394f8ae6c7222dbe1f91b7db4ba8dff6c", func := "althing/althinglaw10.TrackStill", spec := "trackStill", apart := false, narrowed := true }
def TrackStillUptoSaid : Prop := trackStillUptoRow.holds Try.pinned (OpenSpec.upto trackStillSpec)

/-- 'althinglaw10.TrackHalf', WHERE WHAT IT READS IS OF BULK AT MOST 1048576: true; the input reads as it did. -/
def trackHalfUptoRow : OpenClaim := { program := "ytpnjddolboahoaa", sum := "c2c2ecb52b791a718c096bec60a5032394f8ae6c7222dbe1f91b7db4ba8dff6c", func := "althing/althinglaw10.TrackHalf", spec := "trackHalf", apart := false, narrowed := true }
def TrackHalfUptoSaid : Prop := trackHalfUptoRow.holds Try.pinned (OpenSpec.upto trackHalfSpec)

/-- 'althinglaw4.PerTells', WHERE WHAT IT READS IS OF BULK AT MOST 1048576: true; the input reads as it did. -/
def perTellsUptoRow : OpenClaim := { program := "ytpnjddolboahoaa", sum := "c2c2ecb52b791a718c096bec60a5032394f8ae6c7222dbe1f91b7db4ba8dff6c", func := "althing/althinglaw4.PerTells", spec := "perTells", apart := false, narrowed := true }
def PerTellsUptoSaid : Prop := perTellsUptoRow.holds Try.pinned (OpenSpec.upto perTellsSpec)

/-- 'althinglaw4.PerParts', WHERE WHAT IT READS IS OF BULK AT MOST 1048576: true; the input reads as it did. -/
def perPartsUptoRow : OpenClaim := { program := "ytpnjddolboahoaa", sum := "c2c2ecb52b791a718c096bec60a5032394f8ae6c7222dbe1f91b7db4ba8dff6c", func := "althing/althinglaw4.PerParts", spec := "perParts", apart := false, narrowed := true }
def PerPartsUptoSaid : Prop := perPartsUptoRow.holds Try.pinned (OpenSpec.upto perPartsSpec)

/-- 'althinglaw4.PerRatios', WHERE WHAT IT READS IS OF BULK AT MOST 1048576: true; the input reads as it did. -/
def perRatiosUptoRow : OpenClaim := { program := "ytpnjddolboahoaa", sum := "c2c2ecb52b791a718c096bec60a5032394f8ae6c7222dbe1f91b7db4ba8dff6c", func := "althing/althinglaw4.PerRatios", spec := "perRatios", apart := false, narrowed := true }
def PerRatiosUptoSaid : Prop := perRatiosUptoRow.holds Try.pinned (OpenSpec.upto perRatiosSpec)

/-- 'althinglaw4.PerFalls', WHERE WHAT IT READS IS OF BULK AT MOST 1048576: true; the input reads as it did. -/
def perFallsUptoRow : OpenClaim := { program := "ytpnjddolboahoaa", sum := "c2c2ecb52b791a718c096bec60a5032394f8ae6c7222dbe1f91b7db4ba8dff6c", func := "althing/althinglaw4.PerFalls", spec := "perFalls", apart := false, narrowed := true }
def PerFallsUptoSaid : Prop := perFallsUptoRow.holds Try.pinned (OpenSpec.upto perFallsSpec)

/-- 'althinglaw4.PerEnds', WHERE WHAT IT READS IS OF BULK AT MOST 1048576: true; the input reads as it did. -/
def perEndsUptoRow : OpenClaim := { program := "ytpnjddolboahoaa", sum := "c2c2ecb52b791a718c096bec60a5032394f8ae6c7222dbe1f91b7db4ba8dff6c", func := "althing/althinglaw4.PerEnds", spec := "perEnds", apart := false, narrowed := true }
def PerEndsUptoSaid : Prop := perEndsUptoRow.holds Try.pinned (OpenSpec.upto perEndsSpec)

/-- 'althinglaw4.PerWhole', WHERE WHAT IT READS IS OF BULK AT MOST 1048576: true; the input reads as it did. -/
def perWholeUptoRow : OpenClaim := { program := "ytpnjddolboahoaa", sum := "c2c2ecb52b791a718c096bec60a5032394f8ae6c7222dbe1f91b7db4ba8dff6c", func := "althing/althinglaw4.PerWhole", spec := "perWhole", apart := false, narrowed := true }
def PerWholeUptoSaid : Prop := perWholeUptoRow.holds Try.pinned (OpenSpec.upto perWholeSpec)

/-- 'althinglaw4.PerSteps', WHERE WHAT IT READS IS OF BULK AT MOST 1048576: true; the input reads as it did. -/
def perStepsUptoRow : OpenClaim := { program := "ytpnjddolboahoaa", sum := "c2c2ecb52b791a718c096bec60a5032394f8ae6c7222dbe1f91b7db4ba8dff6c", func := "althing/althinglaw4.PerSteps", spec := "perSteps", apart := false, narrowed := true }
def PerStepsUptoSaid : Prop := perStepsUptoRow.holds Try.pinned (OpenSpec.upto perStepsSpec)

/-- 'althinglaw4.PerRecips', WHERE WHAT IT READS IS OF BULK AT MOST 1048576: true; the input reads as it did. -/
def perRecipsUptoRow : OpenClaim := { program := "ytpnjddolboahoaa", sum := "c2c2ecb52b791a718c096bec60a5032394f8ae6c7222dbe1f91b7db4ba8dff6c", func := "althing/althinglaw4.PerRecips", spec := "perRecips", apart := false, narrowed := true }
def PerRecipsUptoSaid : Prop := perRecipsUptoRow.holds Try.pinned (OpenSpec.upto perRecipsSpec)

/-- 'althinglaw4.PerMiddles', WHERE WHAT IT READS IS OF BULK AT MOST 1048576: true; the input reads as it did. -/
def perMiddlesUptoRow : OpenClaim := { program := "ytpnjddolboahoaa", sum := "c2c2ecb52b791a718c096bec60a5032394f8ae6c7222dbe1f91b7db4ba8dff6c", func := "althing/althinglaw4.PerMiddles", spec := "perMiddles", apart := false, narrowed := true }
def PerMiddlesUptoSaid : Prop := perMiddlesUptoRow.holds Try.pinned (OpenSpec.upto perMiddlesSpec)

/-- 'althinglaw4.PerCurves', WHERE WHAT IT READS IS OF BULK AT MOST 1048576: true; the input reads as it did. -/
def perCurvesUptoRow : OpenClaim := { program := "ytpnjddolboahoaa", sum := "c2c2ecb52b791a718c096bec60a5032394f8ae6c7222dbe1f91b7db4ba8dff6c", func := "althing/althinglaw4.PerCurves", spec := "perCurves", unfollowed := true, recurses := true, apart := false, narrowed := true }
def PerCurvesUptoSaid : Prop := perCurvesUptoRow.holds Try.pinned (OpenSpec.upto perCurvesSpec)

/-- 'althinglaw4.PerDelays', WHERE WHAT IT READS IS OF BULK AT MOST 1048576: true; the input reads as it did. -/
def perDelaysUptoRow : OpenClaim := { program := "ytpnjddolboahoaa", sum := "c2c2ecb52b791a718c096bec60a5032394f8ae6c7222dbe1f91b7db4ba8dff6c", func := "althing/althinglaw4.PerDelays", spec := "perDelays", unfollowed := true, recurses := true, apart := false, narrowed := true }
def PerDelaysUptoSaid : Prop := perDelaysUptoRow.holds Try.pinned (OpenSpec.upto perDelaysSpec)

end Rows
end Go.Proofs.Ytpnjddolboahoaa
