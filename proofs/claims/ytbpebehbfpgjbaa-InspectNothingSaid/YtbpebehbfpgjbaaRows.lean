/-
  No cell of these rows narrows 'for every input' (looked for: loops, veiled, ifaces, maps, wideKeys, modest, calm, conditions, laid).
  DERIVED. THE GIVEN ROWS OF THIS SEAT. 7 by the template 'for every input the law returns true; each argument reads behind the call as it read before'; 0 by the template 'total and deterministic' (their statements: YtbpebehbfpgjbaaTotals.lean).
  GIVEN WITH THE SEED: the statements are not yours to turn. If you find one false, say at which input.
  Laid BY PROGRAM, IN A SANDBOX (cutbox-rows.mjs): the forced cells as the released guide's own fill.sh prints them over the translation 3c4465eeb97e3cd7… (all of the seat's roots in one cut). By AI agents, Wed Nov 11 2026. No macro, syntax, notation, axiom, sorry.
-/
import Derived.Test.YtbpebehbfpgjbaaChecked
import GoSem.Claim
import GoSem.ClaimJoined
import GoSem.ClaimMapViews
import Derived.JoinedTies
import Derived.KernelRfl
namespace Go.Proofs.Ytbpebehbfpgjbaa
/- THE CELL 'sum', in the pinned program and in every row, IS THE sha256 OF THE DUMP (.gsa) THAT YtbpebehbfpgjbaaProg.lean LOADS. Nothing in Lean hashes anything: it is a label: what it is worth is what the hold of that sum in a sandbox is worth. -/
noncomputable def Try.pinned : Pinned := { name := "ytbpebehbfpgjbaa", sum := "3c4465eeb97e3cd782f0c5634566e826f38a79b610490f2242eb7c34d26c154f", checked := Try.checked }
namespace Rows
def none {H : Type} : Left H := { results := [], args := [] }

/-- 'culletlaw07.InspectBlocks': WHATEVER THE INPUT: true; the input reads as it did. -/
def inspectBlocksSpec : ChangeSpec := { name := "inspectBlocks", fn := fun _ => fun
  | [d1, d2, d3] => { results := [.lit (.bool true)], args := [d1, d2, d3] }
  | _ => none }
def inspectBlocksRow : OpenClaim := { program := "ytbpebehbfpgjbaa", sum := "3c4465eeb97e3cd782f0c5634566e826f38a79b610490f2242eb7c34d26c154f", func := "cullet/culletlaw07.InspectBlocks", spec := "inspectBlocks", unfollowed := true, recurses := true, plainKeys := false, apart := false }
def InspectBlocksSaid : Prop := inspectBlocksRow.holds Try.pinned (OpenSpec.ofChange inspectBlocksSpec)

/-- ITS FALSE NEIGHBOUR: 'it returns false'. Refute it at one input. -/
def inspectBlocksWrong : ChangeSpec := { name := "inspectBlocks", fn := fun _ => fun
  | [d1, d2, d3] => { results := [.lit (.bool false)], args := [d1, d2, d3] }
  | _ => none }
def InspectBlocksWrongFalsely : Prop := inspectBlocksRow.holds Try.pinned (OpenSpec.ofChange inspectBlocksWrong)

/-- 'culletlaw07.InspectExactly': WHATEVER THE INPUT: true; the input reads as it did. -/
def inspectExactlySpec : ChangeSpec := { name := "inspectExactly", fn := fun _ => fun
  | [d1, d2, d3] => { results := [.lit (.bool true)], args := [d1, d2, d3] }
  | _ => none }
def inspectExactlyRow : OpenClaim := { program := "ytbpebehbfpgjbaa", sum := "3c4465eeb97e3cd782f0c5634566e826f38a79b610490f2242eb7c34d26c154f", func := "cullet/culletlaw07.InspectExactly", spec := "inspectExactly", unfollowed := true, recurses := true, plainKeys := false, apart := false }
def InspectExactlySaid : Prop := inspectExactlyRow.holds Try.pinned (OpenSpec.ofChange inspectExactlySpec)

/-- ITS FALSE NEIGHBOUR: 'it returns false'. Refute it at one input. -/
def inspectExactlyWrong : ChangeSpec := { name := "inspectExactly", fn := fun _ => fun
  | [d1, d2, d3] => { results := [.lit (.bool false)], args := [d1, d2, d3] }
  | _ => none }
def InspectExactlyWrongFalsely : Prop := inspectExactlyRow.holds Try.pinned (OpenSpec.ofChange inspectExactlyWrong)

/-- 'culletlaw07.InspectNothing': WHATEVER THE INPUT: true; the input reads as it did. -/
def inspectNothingSpec : ChangeSpec := { name := "inspectNothing", fn := fun _ => fun
  | [d1, d2] => { results := [.lit (.bool true)], args := [d1, d2] }
  | _ => none }
def inspectNothingRow : OpenClaim := { program := "ytbpebehbfpgjbaa", sum := "3c4465eeb97e3cd782f0c5634566e826f38a79b610490f2242eb7c34d26c154f", func := "cullet/culletlaw07.InspectNothing", spec := "inspectNothing", unfollowed := true, recurses := true, plainKeys := false, apart := false }
def InspectNothingSaid : Prop := inspectNothingRow.holds Try.pinned (OpenSpec.ofChange inspectNothingSpec)

/-- ITS FALSE NEIGHBOUR: 'it returns false'. Refute it at one input. -/
def inspectNothingWrong : ChangeSpec := { name := "inspectNothing", fn := fun _ => fun
  | [d1, d2] => { results := [.lit (.bool false)], args := [d1, d2] }
  | _ => none }
def InspectNothingWrongFalsely : Prop := inspectNothingRow.holds Try.pinned (OpenSpec.ofChange inspectNothingWrong)

/-- 'culletlaw07.InspectLots': WHATEVER THE INPUT: true; the input reads as it did. -/
def inspectLotsSpec : ChangeSpec := { name := "inspectLots", fn := fun _ => fun
  | [d1, d2] => { results := [.lit (.bool true)], args := [d1, d2] }
  | _ => none }
def inspectLotsRow : OpenClaim := { program := "ytbpebehbfpgjbaa", sum := "3c4465eeb97e3cd782f0c5634566e826f38a79b610490f2242eb7c34d26c154f", func := "cullet/culletlaw07.InspectLots", spec := "inspectLots", unfollowed := true, recurses := true, plainKeys := false, apart := false }
def InspectLotsSaid : Prop := inspectLotsRow.holds Try.pinned (OpenSpec.ofChange inspectLotsSpec)

/-- ITS FALSE NEIGHBOUR: 'it returns false'. Refute it at one input. -/
def inspectLotsWrong : ChangeSpec := { name := "inspectLots", fn := fun _ => fun
  | [d1, d2] => { results := [.lit (.bool false)], args := [d1, d2] }
  | _ => none }
def InspectLotsWrongFalsely : Prop := inspectLotsRow.holds Try.pinned (OpenSpec.ofChange inspectLotsWrong)

/-- 'culletlaw07.InspectTrust': WHATEVER THE INPUT: true; the input reads as it did. -/
def inspectTrustSpec : ChangeSpec := { name := "inspectTrust", fn := fun _ => fun
  | [d1, d2, d3, d4, d5] => { results := [.lit (.bool true)], args := [d1, d2, d3, d4, d5] }
  | _ => none }
def inspectTrustRow : OpenClaim := { program := "ytbpebehbfpgjbaa", sum := "3c4465eeb97e3cd782f0c5634566e826f38a79b610490f2242eb7c34d26c154f", func := "cullet/culletlaw07.InspectTrust", spec := "inspectTrust", unfollowed := true, recurses := true, plainKeys := false, apart := false }
def InspectTrustSaid : Prop := inspectTrustRow.holds Try.pinned (OpenSpec.ofChange inspectTrustSpec)

/-- ITS FALSE NEIGHBOUR: 'it returns false'. Refute it at one input. -/
def inspectTrustWrong : ChangeSpec := { name := "inspectTrust", fn := fun _ => fun
  | [d1, d2, d3, d4, d5] => { results := [.lit (.bool false)], args := [d1, d2, d3, d4, d5] }
  | _ => none }
def InspectTrustWrongFalsely : Prop := inspectTrustRow.holds Try.pinned (OpenSpec.ofChange inspectTrustWrong)

/-- 'culletlaw07.InspectStays': WHATEVER THE INPUT: true; the input reads as it did. -/
def inspectStaysSpec : ChangeSpec := { name := "inspectStays", fn := fun _ => fun
  | [d1, d2, d3, d4, d5] => { results := [.lit (.bool true)], args := [d1, d2, d3, d4, d5] }
  | _ => none }
def inspectStaysRow : OpenClaim := { program := "ytbpebehbfpgjbaa", sum := "3c4465eeb97e3cd782f0c5634566e826f38a79b610490f2242eb7c34d26c154f", func := "cullet/culletlaw07.InspectStays", spec := "inspectStays", unfollowed := true, recurses := true, plainKeys := false, apart := false }
def InspectStaysSaid : Prop := inspectStaysRow.holds Try.pinned (OpenSpec.ofChange inspectStaysSpec)

/-- ITS FALSE NEIGHBOUR: 'it returns false'. Refute it at one input. -/
def inspectStaysWrong : ChangeSpec := { name := "inspectStays", fn := fun _ => fun
  | [d1, d2, d3, d4, d5] => { results := [.lit (.bool false)], args := [d1, d2, d3, d4, d5] }
  | _ => none }
def InspectStaysWrongFalsely : Prop := inspectStaysRow.holds Try.pinned (OpenSpec.ofChange inspectStaysWrong)

/-- 'culletlaw07.InspectShare': WHATEVER THE INPUT: true; the input reads as it did. -/
def inspectShareSpec : ChangeSpec := { name := "inspectShare", fn := fun _ => fun
  | [d1, d2, d3, d4] => { results := [.lit (.bool true)], args := [d1, d2, d3, d4] }
  | _ => none }
def inspectShareRow : OpenClaim := { program := "ytbpebehbfpgjbaa", sum := "3c4465eeb97e3cd782f0c5634566e826f38a79b610490f2242eb7c34d26c154f", func := "cullet/culletlaw07.InspectShare", spec := "inspectShare", unfollowed := true, recurses := true, plainKeys := false, apart := false }
def InspectShareSaid : Prop := inspectShareRow.holds Try.pinned (OpenSpec.ofChange inspectShareSpec)

/-- ITS FALSE NEIGHBOUR: 'it returns false'. Refute it at one input. -/
def inspectShareWrong : ChangeSpec := { name := "inspectShare", fn := fun _ => fun
  | [d1, d2, d3, d4] => { results := [.lit (.bool false)], args := [d1, d2, d3, d4] }
  | _ => none }
def InspectShareWrongFalsely : Prop := inspectShareRow.holds Try.pinned (OpenSpec.ofChange inspectShareWrong)

/- THE SECOND FORM. 'bulk': how many values and letters a reading holds, each counted each time it is reached (what is shared counts as often as it is met; a slice's spare places count too). A statement '..UptoSaid' is the law's where the arguments, and the package variables that the reading takes, are together of bulk at most 1048576: NARROWER than '..Said'. Prove '..Said' where nothing that the law and all that it calls make is longer than what came in: it says more and counts as full. Else prove '..UptoSaid'. A law counts once. -/
mutual
def uptoBulk {H : Type} : DataW H → Nat
  | .lit (.string bytes) => bytes.length + 1
  | .lit _ => 1
  | .nil => 1
  | .ptr d => uptoBulk d + 1
  | .slice elems spare => uptoBulkAll elems + uptoBulkAll spare + 1
  | .agg parts => uptoBulkAll parts + 1
  | .iface _ d => uptoBulk d + 1
  | .map entries => uptoBulkEntries entries + 1
  | .held _ => 1
def uptoBulkAll {H : Type} : List (DataW H) → Nat
  | [] => 0
  | d :: r => uptoBulk d + uptoBulkAll r
def uptoBulkEntries {H : Type} : List (Lit × DataW H) → Nat
  | [] => 0
  | x :: r => uptoBulkEntry x + uptoBulkEntries r
def uptoBulkEntry {H : Type} : Lit × DataW H → Nat
  | (.string bytes, d) => bytes.length + uptoBulk d + 1
  | (_, d) => uptoBulk d + 1
 end
def uptoSmall : (H : Type) → List (DataW H) → Bool := fun _ ds => decide (uptoBulkAll ds ≤ 1048576)
def OpenSpec.upto (s : _root_.Go.ChangeSpec) : _root_.Go.OpenSpec := { _root_.Go.OpenSpec.ofChange s with cond := some uptoSmall }

/-- 'culletlaw07.InspectBlocks', WHERE WHAT IT READS IS OF BULK AT MOST 1048576: true; the input reads as it did. -/
def inspectBlocksUptoRow : OpenClaim := { program := "ytbpebehbfpgjbaa", sum := "3c4465eeb97e3cd782f0c5634566e826f38a79b610490f2242eb7c34d26c154f", func := "cullet/culletlaw07.InspectBlocks", spec := "inspectBlocks", unfollowed := true, recurses := true, plainKeys := false, apart := false, narrowed := true }
def InspectBlocksUptoSaid : Prop := inspectBlocksUptoRow.holds Try.pinned (OpenSpec.upto inspectBlocksSpec)

/-- 'culletlaw07.InspectExactly', WHERE WHAT IT READS IS OF BULK AT MOST 1048576: true; the input reads as it did. -/
def inspectExactlyUptoRow : OpenClaim := { program := "ytbpebehbfpgjbaa", sum := "3c4465eeb97e3cd782f0c5634566e826f38a79b610490f2242eb7c34d26c154f", func := "cullet/culletlaw07.InspectExactly", spec := "inspectExactly", unfollowed := true, recurses := true, plainKeys := false, apart := false, narrowed := true }
def InspectExactlyUptoSaid : Prop := inspectExactlyUptoRow.holds Try.pinned (OpenSpec.upto inspectExactlySpec)

/-- 'culletlaw07.InspectNothing', WHERE WHAT IT READS IS OF BULK AT MOST 1048576: true; the input reads as it did. -/
def inspectNothingUptoRow : OpenClaim := { program := "ytbpebehbfpgjbaa", sum := "3c4465eeb97e3cd782f0c5634566e826f38a79b610490f2242eb7c34d26c154f", func := "cullet/culletlaw07.InspectNothing", spec := "inspectNothing", unfollowed := true, recurses := true, plainKeys := false, apart := false, narrowed := true }
def InspectNothingUptoSaid : Prop := inspectNothingUptoRow.holds Try.pinned (OpenSpec.upto inspectNothingSpec)

/-- 'culletlaw07.InspectLots', WHERE WHAT IT READS IS OF BULK AT MOST 1048576: true; the input reads as it did. -/
def inspectLotsUptoRow : OpenClaim := { program := "ytbpebehbfpgjbaa", sum := "3c4465eeb97e3cd782f0c5634566e826f38a79b610490f2242eb7c34d26c154f", func := "cullet/culletlaw07.InspectLots", spec := "inspectLots", unfollowed := true, recurses := true, plainKeys := false, apart := false, narrowed := true }
def InspectLotsUptoSaid : Prop := inspectLotsUptoRow.holds Try.pinned (OpenSpec.upto inspectLotsSpec)

/-- 'culletlaw07.InspectTrust', WHERE WHAT IT READS IS OF BULK AT MOST 1048576: true; the input reads as it did. -/
def inspectTrustUptoRow : OpenClaim := { program := "ytbpebehbfpgjbaa", sum := "3c4465eeb97e3cd782f0c5634566e826f38a79b610490f2242eb7c34d26c154f", func := "cullet/culletlaw07.InspectTrust", spec := "inspectTrust", unfollowed := true, recurses := true, plainKeys := false, apart := false, narrowed := true }
def InspectTrustUptoSaid : Prop := inspectTrustUptoRow.holds Try.pinned (OpenSpec.upto inspectTrustSpec)

/-- 'culletlaw07.InspectStays', WHERE WHAT IT READS IS OF BULK AT MOST 1048576: true; the input reads as it did. -/
def inspectStaysUptoRow : OpenClaim := { program := "ytbpebehbfpgjbaa", sum := "3c4465eeb97e3cd782f0c5634566e826f38a79b610490f2242eb7c34d26c154f", func := "cullet/culletlaw07.InspectStays", spec := "inspectStays", unfollowed := true, recurses := true, plainKeys := false, apart := false, narrowed := true }
def InspectStaysUptoSaid : Prop := inspectStaysUptoRow.holds Try.pinned (OpenSpec.upto inspectStaysSpec)

/-- 'culletlaw07.InspectShare', WHERE WHAT IT READS IS OF BULK AT MOST 1048576: true; the input reads as it did. -/
def inspectShareUptoRow : OpenClaim := { program := "ytbpebehbfpgjbaa", sum := "3c4465eeb97e3cd782f0c5634566e826f38a79b610490f2242eb7c34d26c154f", func := "cullet/culletlaw07.InspectShare", spec := "inspectShare", unfollowed := true, recurses := true, plainKeys := false, apart := false, narrowed := true }
def InspectShareUptoSaid : Prop := inspectShareUptoRow.holds Try.pinned (OpenSpec.upto inspectShareSpec)

end Rows
end Go.Proofs.Ytbpebehbfpgjbaa
