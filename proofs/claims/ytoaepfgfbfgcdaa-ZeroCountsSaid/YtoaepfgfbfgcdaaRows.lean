/-
  No cell of these rows narrows 'for every input' (looked for: loops, veiled, ifaces, maps, wideKeys, modest, calm, conditions, laid).
  DERIVED. THE GIVEN ROWS OF THIS SEAT. 12 by the template 'for every input the law returns true; each argument reads behind the call as it read before'; 0 by the template 'total and deterministic' (their statements: YtoaepfgfbfgcdaaTotals.lean).
  GIVEN WITH THE SEED: the statements are not yours to turn. If you find one false, say at which input.
  Laid BY PROGRAM, IN A SANDBOX (cutbox-rows.mjs): the forced cells as the released guide's own fill.sh prints them over the translation 1517c5b6e1c42215… (all of the seat's roots in one cut). By AI agents, Wed Nov 11 2026. No macro, syntax, notation, axiom, sorry.
-/
import Derived.Test.YtoaepfgfbfgcdaaChecked
import GoSem.Claim
import GoSem.ClaimJoined
import GoSem.ClaimMapViews
import Derived.JoinedTies
import Derived.KernelRfl
namespace Go.Proofs.Ytoaepfgfbfgcdaa
/- THE CELL 'sum', in the pinned program and in every row, IS THE sha256 OF THE DUMP (.gsa) THAT YtoaepfgfbfgcdaaProg.lean LOADS. Nothing in Lean hashes anything: it is a label: what it is worth is what the hold of that sum in a sandbox is worth. -/
noncomputable def Try.pinned : Pinned := { name := "ytoaepfgfbfgcdaa", sum := "1517c5b6e1c42215ddadde1db82563b6cf75cd95e5e8f583c139b64279823cb0", checked := Try.checked }
namespace Rows
def none {H : Type} : Left H := { results := [], args := [] }

/-- 'steeplelaw27.WitnessWires': WHATEVER THE INPUT: true; the input reads as it did. -/
def witnessWiresSpec : ChangeSpec := { name := "witnessWires", fn := fun _ => fun
  | [d1, d2, d3] => { results := [.lit (.bool true)], args := [d1, d2, d3] }
  | _ => none }
def witnessWiresRow : OpenClaim := { program := "ytoaepfgfbfgcdaa", sum := "1517c5b6e1c42215ddadde1db82563b6cf75cd95e5e8f583c139b64279823cb0", func := "steeple/steeplelaw27.WitnessWires", spec := "witnessWires", unfollowed := true, recurses := true, apart := false }
def WitnessWiresSaid : Prop := witnessWiresRow.holds Try.pinned (OpenSpec.ofChange witnessWiresSpec)

/-- ITS FALSE NEIGHBOUR: 'it returns false'. Refute it at one input. -/
def witnessWiresWrong : ChangeSpec := { name := "witnessWires", fn := fun _ => fun
  | [d1, d2, d3] => { results := [.lit (.bool false)], args := [d1, d2, d3] }
  | _ => none }
def WitnessWiresWrongFalsely : Prop := witnessWiresRow.holds Try.pinned (OpenSpec.ofChange witnessWiresWrong)

/-- 'steeplelaw21.ZeroSums': WHATEVER THE INPUT: true; the input reads as it did. -/
def zeroSumsSpec : ChangeSpec := { name := "zeroSums", fn := fun _ => fun
  | [d1, d2, d3] => { results := [.lit (.bool true)], args := [d1, d2, d3] }
  | _ => none }
def zeroSumsRow : OpenClaim := { program := "ytoaepfgfbfgcdaa", sum := "1517c5b6e1c42215ddadde1db82563b6cf75cd95e5e8f583c139b64279823cb0", func := "steeple/steeplelaw21.ZeroSums", spec := "zeroSums", unfollowed := true, recurses := true, apart := false }
def ZeroSumsSaid : Prop := zeroSumsRow.holds Try.pinned (OpenSpec.ofChange zeroSumsSpec)

/-- ITS FALSE NEIGHBOUR: 'it returns false'. Refute it at one input. -/
def zeroSumsWrong : ChangeSpec := { name := "zeroSums", fn := fun _ => fun
  | [d1, d2, d3] => { results := [.lit (.bool false)], args := [d1, d2, d3] }
  | _ => none }
def ZeroSumsWrongFalsely : Prop := zeroSumsRow.holds Try.pinned (OpenSpec.ofChange zeroSumsWrong)

/-- 'steeplelaw21.ZeroHolds': WHATEVER THE INPUT: true; the input reads as it did. -/
def zeroHoldsSpec : ChangeSpec := { name := "zeroHolds", fn := fun _ => fun
  | [d1, d2, d3] => { results := [.lit (.bool true)], args := [d1, d2, d3] }
  | _ => none }
def zeroHoldsRow : OpenClaim := { program := "ytoaepfgfbfgcdaa", sum := "1517c5b6e1c42215ddadde1db82563b6cf75cd95e5e8f583c139b64279823cb0", func := "steeple/steeplelaw21.ZeroHolds", spec := "zeroHolds", unfollowed := true, recurses := true, apart := false }
def ZeroHoldsSaid : Prop := zeroHoldsRow.holds Try.pinned (OpenSpec.ofChange zeroHoldsSpec)

/-- ITS FALSE NEIGHBOUR: 'it returns false'. Refute it at one input. -/
def zeroHoldsWrong : ChangeSpec := { name := "zeroHolds", fn := fun _ => fun
  | [d1, d2, d3] => { results := [.lit (.bool false)], args := [d1, d2, d3] }
  | _ => none }
def ZeroHoldsWrongFalsely : Prop := zeroHoldsRow.holds Try.pinned (OpenSpec.ofChange zeroHoldsWrong)

/-- 'steeplelaw21.ZeroCounts': WHATEVER THE INPUT: true; the input reads as it did. -/
def zeroCountsSpec : ChangeSpec := { name := "zeroCounts", fn := fun _ => fun
  | [d1, d2] => { results := [.lit (.bool true)], args := [d1, d2] }
  | _ => none }
def zeroCountsRow : OpenClaim := { program := "ytoaepfgfbfgcdaa", sum := "1517c5b6e1c42215ddadde1db82563b6cf75cd95e5e8f583c139b64279823cb0", func := "steeple/steeplelaw21.ZeroCounts", spec := "zeroCounts", unfollowed := true, recurses := true, apart := false }
def ZeroCountsSaid : Prop := zeroCountsRow.holds Try.pinned (OpenSpec.ofChange zeroCountsSpec)

/-- ITS FALSE NEIGHBOUR: 'it returns false'. Refute it at one input. -/
def zeroCountsWrong : ChangeSpec := { name := "zeroCounts", fn := fun _ => fun
  | [d1, d2] => { results := [.lit (.bool false)], args := [d1, d2] }
  | _ => none }
def ZeroCountsWrongFalsely : Prop := zeroCountsRow.holds Try.pinned (OpenSpec.ofChange zeroCountsWrong)

/-- 'steeplelaw21.ZeroMixes': WHATEVER THE INPUT: true; the input reads as it did. -/
def zeroMixesSpec : ChangeSpec := { name := "zeroMixes", fn := fun _ => fun
  | [d1, d2, d3] => { results := [.lit (.bool true)], args := [d1, d2, d3] }
  | _ => none }
def zeroMixesRow : OpenClaim := { program := "ytoaepfgfbfgcdaa", sum := "1517c5b6e1c42215ddadde1db82563b6cf75cd95e5e8f583c139b64279823cb0", func := "steeple/steeplelaw21.ZeroMixes", spec := "zeroMixes", unfollowed := true, recurses := true, apart := false }
def ZeroMixesSaid : Prop := zeroMixesRow.holds Try.pinned (OpenSpec.ofChange zeroMixesSpec)

/-- ITS FALSE NEIGHBOUR: 'it returns false'. Refute it at one input. -/
def zeroMixesWrong : ChangeSpec := { name := "zeroMixes", fn := fun _ => fun
  | [d1, d2, d3] => { results := [.lit (.bool false)], args := [d1, d2, d3] }
  | _ => none }
def ZeroMixesWrongFalsely : Prop := zeroMixesRow.holds Try.pinned (OpenSpec.ofChange zeroMixesWrong)

/-- 'steeplelaw21.ZeroCorners': WHATEVER THE INPUT: true; the input reads as it did. -/
def zeroCornersSpec : ChangeSpec := { name := "zeroCorners", fn := fun _ => fun
  | [d1, d2, d3] => { results := [.lit (.bool true)], args := [d1, d2, d3] }
  | _ => none }
def zeroCornersRow : OpenClaim := { program := "ytoaepfgfbfgcdaa", sum := "1517c5b6e1c42215ddadde1db82563b6cf75cd95e5e8f583c139b64279823cb0", func := "steeple/steeplelaw21.ZeroCorners", spec := "zeroCorners", unfollowed := true, recurses := true, apart := false }
def ZeroCornersSaid : Prop := zeroCornersRow.holds Try.pinned (OpenSpec.ofChange zeroCornersSpec)

/-- ITS FALSE NEIGHBOUR: 'it returns false'. Refute it at one input. -/
def zeroCornersWrong : ChangeSpec := { name := "zeroCorners", fn := fun _ => fun
  | [d1, d2, d3] => { results := [.lit (.bool false)], args := [d1, d2, d3] }
  | _ => none }
def ZeroCornersWrongFalsely : Prop := zeroCornersRow.holds Try.pinned (OpenSpec.ofChange zeroCornersWrong)

/-- 'steeplelaw20.SumcheckVerifies': WHATEVER THE INPUT: true; the input reads as it did. -/
def sumcheckVerifiesSpec : ChangeSpec := { name := "sumcheckVerifies", fn := fun _ => fun
  | [d1, d2, d3] => { results := [.lit (.bool true)], args := [d1, d2, d3] }
  | _ => none }
def sumcheckVerifiesRow : OpenClaim := { program := "ytoaepfgfbfgcdaa", sum := "1517c5b6e1c42215ddadde1db82563b6cf75cd95e5e8f583c139b64279823cb0", func := "steeple/steeplelaw20.SumcheckVerifies", spec := "sumcheckVerifies", unfollowed := true, recurses := true, apart := false }
def SumcheckVerifiesSaid : Prop := sumcheckVerifiesRow.holds Try.pinned (OpenSpec.ofChange sumcheckVerifiesSpec)

/-- ITS FALSE NEIGHBOUR: 'it returns false'. Refute it at one input. -/
def sumcheckVerifiesWrong : ChangeSpec := { name := "sumcheckVerifies", fn := fun _ => fun
  | [d1, d2, d3] => { results := [.lit (.bool false)], args := [d1, d2, d3] }
  | _ => none }
def SumcheckVerifiesWrongFalsely : Prop := sumcheckVerifiesRow.holds Try.pinned (OpenSpec.ofChange sumcheckVerifiesWrong)

/-- 'steeplelaw20.SumcheckSums': WHATEVER THE INPUT: true; the input reads as it did. -/
def sumcheckSumsSpec : ChangeSpec := { name := "sumcheckSums", fn := fun _ => fun
  | [d1, d2, d3] => { results := [.lit (.bool true)], args := [d1, d2, d3] }
  | _ => none }
def sumcheckSumsRow : OpenClaim := { program := "ytoaepfgfbfgcdaa", sum := "1517c5b6e1c42215ddadde1db82563b6cf75cd95e5e8f583c139b64279823cb0", func := "steeple/steeplelaw20.SumcheckSums", spec := "sumcheckSums", unfollowed := true, recurses := true, apart := false }
def SumcheckSumsSaid : Prop := sumcheckSumsRow.holds Try.pinned (OpenSpec.ofChange sumcheckSumsSpec)

/-- ITS FALSE NEIGHBOUR: 'it returns false'. Refute it at one input. -/
def sumcheckSumsWrong : ChangeSpec := { name := "sumcheckSums", fn := fun _ => fun
  | [d1, d2, d3] => { results := [.lit (.bool false)], args := [d1, d2, d3] }
  | _ => none }
def SumcheckSumsWrongFalsely : Prop := sumcheckSumsRow.holds Try.pinned (OpenSpec.ofChange sumcheckSumsWrong)

/-- 'steeplelaw20.SumcheckSplits': WHATEVER THE INPUT: true; the input reads as it did. -/
def sumcheckSplitsSpec : ChangeSpec := { name := "sumcheckSplits", fn := fun _ => fun
  | [d1, d2, d3] => { results := [.lit (.bool true)], args := [d1, d2, d3] }
  | _ => none }
def sumcheckSplitsRow : OpenClaim := { program := "ytoaepfgfbfgcdaa", sum := "1517c5b6e1c42215ddadde1db82563b6cf75cd95e5e8f583c139b64279823cb0", func := "steeple/steeplelaw20.SumcheckSplits", spec := "sumcheckSplits", unfollowed := true, recurses := true, apart := false }
def SumcheckSplitsSaid : Prop := sumcheckSplitsRow.holds Try.pinned (OpenSpec.ofChange sumcheckSplitsSpec)

/-- ITS FALSE NEIGHBOUR: 'it returns false'. Refute it at one input. -/
def sumcheckSplitsWrong : ChangeSpec := { name := "sumcheckSplits", fn := fun _ => fun
  | [d1, d2, d3] => { results := [.lit (.bool false)], args := [d1, d2, d3] }
  | _ => none }
def SumcheckSplitsWrongFalsely : Prop := sumcheckSplitsRow.holds Try.pinned (OpenSpec.ofChange sumcheckSplitsWrong)

/-- 'steeplelaw20.SumcheckProves': WHATEVER THE INPUT: true; the input reads as it did. -/
def sumcheckProvesSpec : ChangeSpec := { name := "sumcheckProves", fn := fun _ => fun
  | [d1, d2, d3] => { results := [.lit (.bool true)], args := [d1, d2, d3] }
  | _ => none }
def sumcheckProvesRow : OpenClaim := { program := "ytoaepfgfbfgcdaa", sum := "1517c5b6e1c42215ddadde1db82563b6cf75cd95e5e8f583c139b64279823cb0", func := "steeple/steeplelaw20.SumcheckProves", spec := "sumcheckProves", unfollowed := true, recurses := true, apart := false }
def SumcheckProvesSaid : Prop := sumcheckProvesRow.holds Try.pinned (OpenSpec.ofChange sumcheckProvesSpec)

/-- ITS FALSE NEIGHBOUR: 'it returns false'. Refute it at one input. -/
def sumcheckProvesWrong : ChangeSpec := { name := "sumcheckProves", fn := fun _ => fun
  | [d1, d2, d3] => { results := [.lit (.bool false)], args := [d1, d2, d3] }
  | _ => none }
def SumcheckProvesWrongFalsely : Prop := sumcheckProvesRow.holds Try.pinned (OpenSpec.ofChange sumcheckProvesWrong)

/-- 'steeplelaw20.SumcheckCounts': WHATEVER THE INPUT: true; the input reads as it did. -/
def sumcheckCountsSpec : ChangeSpec := { name := "sumcheckCounts", fn := fun _ => fun
  | [d1, d2, d3] => { results := [.lit (.bool true)], args := [d1, d2, d3] }
  | _ => none }
def sumcheckCountsRow : OpenClaim := { program := "ytoaepfgfbfgcdaa", sum := "1517c5b6e1c42215ddadde1db82563b6cf75cd95e5e8f583c139b64279823cb0", func := "steeple/steeplelaw20.SumcheckCounts", spec := "sumcheckCounts", unfollowed := true, recurses := true, apart := false }
def SumcheckCountsSaid : Prop := sumcheckCountsRow.holds Try.pinned (OpenSpec.ofChange sumcheckCountsSpec)

/-- ITS FALSE NEIGHBOUR: 'it returns false'. Refute it at one input. -/
def sumcheckCountsWrong : ChangeSpec := { name := "sumcheckCounts", fn := fun _ => fun
  | [d1, d2, d3] => { results := [.lit (.bool false)], args := [d1, d2, d3] }
  | _ => none }
def SumcheckCountsWrongFalsely : Prop := sumcheckCountsRow.holds Try.pinned (OpenSpec.ofChange sumcheckCountsWrong)

/-- 'steeplelaw27.WitnessConds': WHATEVER THE INPUT: true; the input reads as it did. -/
def witnessCondsSpec : ChangeSpec := { name := "witnessConds", fn := fun _ => fun
  | [d1, d2] => { results := [.lit (.bool true)], args := [d1, d2] }
  | _ => none }
def witnessCondsRow : OpenClaim := { program := "ytoaepfgfbfgcdaa", sum := "1517c5b6e1c42215ddadde1db82563b6cf75cd95e5e8f583c139b64279823cb0", func := "steeple/steeplelaw27.WitnessConds", spec := "witnessConds", unfollowed := true, recurses := true, apart := false }
def WitnessCondsSaid : Prop := witnessCondsRow.holds Try.pinned (OpenSpec.ofChange witnessCondsSpec)

/-- ITS FALSE NEIGHBOUR: 'it returns false'. Refute it at one input. -/
def witnessCondsWrong : ChangeSpec := { name := "witnessConds", fn := fun _ => fun
  | [d1, d2] => { results := [.lit (.bool false)], args := [d1, d2] }
  | _ => none }
def WitnessCondsWrongFalsely : Prop := witnessCondsRow.holds Try.pinned (OpenSpec.ofChange witnessCondsWrong)

/- THE SECOND FORM. 'bulk': how many values and letters a reading holds, each counted each time it is reached (what is shared counts as often as it is met; a slice's spare places count too). A statement '..UptoSaid' is the law's where the arguments, and the package variables that the reading takes, are together of bulk at most 1048576: NARROWER than '..Said'. Prove '..Said' where nothing that the law and all that it calls make is longer than what came in: it says more and counts as full. Else prove '..UptoSaid'. A law counts once. -/
mutual
def uptoBulk {H : Type} : DataW H → Nat
  | .lit (.string bytes) => bytes.length + 1
  | .lit _ => 1
  | .nil => 1
  | .ptr d => uptoBulk d + 1
  | .slice elems spare => uptoBulkAll elems + uptoBulkAll spare + 1
  | .agg parts => uptoBulkAll parts + 1
  | .iface _ d => uptoBulk d + 1
  | .map entries => uptoBulkEntries entries + 1
  | .held _ => 1
def uptoBulkAll {H : Type} : List (DataW H) → Nat
  | [] => 0
  | d :: r => uptoBulk d + uptoBulkAll r
def uptoBulkEntries {H : Type} : List (Lit × DataW H) → Nat
  | [] => 0
  | x :: r => uptoBulkEntry x + uptoBulkEntries r
def uptoBulkEntry {H : Type} : Lit × DataW H → Nat
  | (.string bytes, d) => bytes.length + uptoBulk d + 1
  | (_, d) => uptoBulk d + 1
 end
def uptoSmall : (H : Type) → List (DataW H) → Bool := fun _ ds => decide (uptoBulkAll ds ≤ 1048576)
def OpenSpec.upto (s : _root_.Go.ChangeSpec) : _root_.Go.OpenSpec := { _root_.Go.OpenSpec.ofChange s with cond := some uptoSmall }

/-- 'steeplelaw27.WitnessWires', WHERE WHAT IT READS IS OF BULK AT MOST 1048576: true; the input reads as it did. -/
def witnessWiresUptoRow : OpenClaim := { program := "ytoaepfgfbfgcdaa", sum := "1517c5b6e1c42215ddadde1db82563b6cf75cd95e5e8f583c139b64279823cb0", func := "steeple/steeplelaw27.WitnessWires", spec := "witnessWires", unfollowed := true, recurses := true, apart := false, narrowed := true }
def WitnessWiresUptoSaid : Prop := witnessWiresUptoRow.holds Try.pinned (OpenSpec.upto witnessWiresSpec)

/-- 'steeplelaw21.ZeroSums', WHERE WHAT IT READS IS OF BULK AT MOST 1048576: true; the input reads as it did. -/
def zeroSumsUptoRow : OpenClaim := { program := "ytoaepfgfbfgcdaa", sum := "1517c5b6e1c42215ddadde1db82563b6cf75cd95e5e8f583c139b64279823cb0", func := "steeple/steeplelaw21.ZeroSums", spec := "zeroSums", unfollowed := true, recurses := true, apart := false, narrowed := true }
def ZeroSumsUptoSaid : Prop := zeroSumsUptoRow.holds Try.pinned (OpenSpec.upto zeroSumsSpec)

/-- 'steeplelaw21.ZeroHolds', WHERE WHAT IT READS IS OF BULK AT MOST 1048576: true; the input reads as it did. -/
def zeroHoldsUptoRow : OpenClaim := { program := "ytoaepfgfbfgcdaa", sum := "1517c5b6e1c42215ddadde1db82563b6cf75cd95e5e8f583c139b64279823cb0", func := "steeple/steeplelaw21.ZeroHolds", spec := "zeroHolds", unfollowed := true, recurses := true, apart := false, narrowed := true }
def ZeroHoldsUptoSaid : Prop := zeroHoldsUptoRow.holds Try.pinned (OpenSpec.upto zeroHoldsSpec)

/-- 'steeplelaw21.ZeroCounts', WHERE WHAT IT READS IS OF BULK AT MOST 1048576: true; the input reads as it did. -/
def zeroCountsUptoRow : OpenClaim := { program := "ytoaepfgfbfgcdaa", sum := "1517c5b6e1c42215ddadde1db82563b6cf75cd95e5e8f583c139b64279823cb0", func := "steeple/steeplelaw21.ZeroCounts", spec := "zeroCounts", unfollowed := true, recurses := true, apart := false, narrowed := true }
def ZeroCountsUptoSaid : Prop := zeroCountsUptoRow.holds Try.pinned (OpenSpec.upto zeroCountsSpec)

/-- 'steeplelaw21.ZeroMixes', WHERE WHAT IT READS IS OF BULK AT MOST 1048576: true; the input reads as it did. -/
def zeroMixesUptoRow : OpenClaim := { program := "ytoaepfgfbfgcdaa", sum := "1517c5b6e1c42215ddadde1db82563b6cf75cd95e5e8f583c139b64279823cb0", func := "steeple/steeplelaw21.ZeroMixes", spec := "zeroMixes", unfollowed := true, recurses := true, apart := false, narrowed := true }
def ZeroMixesUptoSaid : Prop := zeroMixesUptoRow.holds Try.pinned (OpenSpec.upto zeroMixesSpec)

/-- 'steeplelaw21.ZeroCorners', WHERE WHAT IT READS IS OF BULK AT MOST 1048576: true; the input reads as it did. -/
def zeroCornersUptoRow : OpenClaim := { program := "ytoaepfgfbfgcdaa", sum := "1517c5b6e1c42215ddadde1db82563b6cf75cd95e5e8f583c139b64279823cb0", func := "steeple/steeplelaw21.ZeroCorners", spec := "zeroCorners", unfollowed := true, recurses := true, apart := false, narrowed := true }
def ZeroCornersUptoSaid : Prop := zeroCornersUptoRow.holds Try.pinned (OpenSpec.upto zeroCornersSpec)

/-- 'steeplelaw20.SumcheckVerifies', WHERE WHAT IT READS IS OF BULK AT MOST 1048576: true; the input reads as it did. -/
def sumcheckVerifiesUptoRow : OpenClaim := { program := "ytoaepfgfbfgcdaa", sum := "1517c5b6e1c42215ddadde1db82563b6cf75cd95e5e8f583c139b64279823cb0", func := "steeple/steeplelaw20.SumcheckVerifies", spec := "sumcheckVerifies", unfollowed := true, recurses := true, apart := false, narrowed := true }
def SumcheckVerifiesUptoSaid : Prop := sumcheckVerifiesUptoRow.holds Try.pinned (OpenSpec.upto sumcheckVerifiesSpec)

/-- 'steeplelaw20.SumcheckSums', WHERE WHAT IT READS IS OF BULK AT MOST 1048576: true; the input reads as it did. -/
def sumcheckSumsUptoRow : OpenClaim := { program := "ytoaepfgfbfgcdaa", sum := "1517c5b6e1c42215ddadde1db82563b6cf75cd95e5e8f583c139b64279823cb0", func := "steeple/steeplelaw20.SumcheckSums", spec := "sumcheckSums", unfollowed := true, recurses := true, apart := false, narrowed := true }
def SumcheckSumsUptoSaid : Prop := sumcheckSumsUptoRow.holds Try.pinned (OpenSpec.upto sumcheckSumsSpec)

/-- 'steeplelaw20.SumcheckSplits', WHERE WHAT IT READS IS OF BULK AT MOST 1048576: true; the input reads as it did. -/
def sumcheckSplitsUptoRow : OpenClaim := { program := "ytoaepfgfbfgcdaa", sum := "1517c5b6e1c42215ddadde1db82563b6cf75cd95e5e8f583c139b64279823cb0", func := "steeple/steeplelaw20.SumcheckSplits", spec := "sumcheckSplits", unfollowed := true, recurses := true, apart := false, narrowed := true }
def SumcheckSplitsUptoSaid : Prop := sumcheckSplitsUptoRow.holds Try.pinned (OpenSpec.upto sumcheckSplitsSpec)

/-- 'steeplelaw20.SumcheckProves', WHERE WHAT IT READS IS OF BULK AT MOST 1048576: true; the input reads as it did. -/
def sumcheckProvesUptoRow : OpenClaim := { program := "ytoaepfgfbfgcdaa", sum := "1517c5b6e1c42215ddadde1db82563b6cf75cd95e5e8f583c139b64279823cb0", func := "steeple/steeplelaw20.SumcheckProves", spec := "sumcheckProves", unfollowed := true, recurses := true, apart := false, narrowed := true }
def SumcheckProvesUptoSaid : Prop := sumcheckProvesUptoRow.holds Try.pinned (OpenSpec.upto sumcheckProvesSpec)

/-- 'steeplelaw20.SumcheckCounts', WHERE WHAT IT READS IS OF BULK AT MOST 1048576: true; the input reads as it did. -/
def sumcheckCountsUptoRow : OpenClaim := { program := "ytoaepfgfbfgcdaa", sum := "1517c5b6e1c42215ddadde1db82563b6cf75cd95e5e8f583c139b64279823cb0", func := "steeple/steeplelaw20.SumcheckCounts", spec := "sumcheckCounts", unfollowed := true, recurses := true, apart := false, narrowed := true }
def SumcheckCountsUptoSaid : Prop := sumcheckCountsUptoRow.holds Try.pinned (OpenSpec.upto sumcheckCountsSpec)

/-- 'steeplelaw27.WitnessConds', WHERE WHAT IT READS IS OF BULK AT MOST 1048576: true; the input reads as it did. -/
def witnessCondsUptoRow : OpenClaim := { program := "ytoaepfgfbfgcdaa", sum := "1517c5b6e1c42215ddadde1db82563b6cf75cd95e5e8f583c139b64279823cb0", func := "steeple/steeplelaw27.WitnessConds", spec := "witnessConds", unfollowed := true, recurses := true, apart := false, narrowed := true }
def WitnessCondsUptoSaid : Prop := witnessCondsUptoRow.holds Try.pinned (OpenSpec.upto witnessCondsSpec)

end Rows
end Go.Proofs.Ytoaepfgfbfgcdaa
