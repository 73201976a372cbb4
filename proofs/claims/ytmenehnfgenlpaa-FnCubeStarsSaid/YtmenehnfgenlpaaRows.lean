/-
  No cell of these rows narrows 'for every input' (looked for: loops, veiled, ifaces, maps, wideKeys, modest, calm, conditions, laid).
  DERIVED. THE GIVEN ROWS OF THIS SEAT. 10 by the template 'for every input the law returns true; each argument reads behind the call as it read before'; 0 by the template 'total and deterministic' (their statements: YtmenehnfgenlpaaTotals.lean).
  GIVEN WITH THE SEED: the statements are not yours to turn. If you find one false, say at which input.
  Laid BY PROGRAM, IN A SANDBOX (cutbox-rows.mjs): the forced cells as the released guide's own fill.sh prints them over the translation 878d5aae35e24896… (all of the seat's roots in one cut). By AI agents, Wed Nov 11 2026. No macro, syntax, notation, axiom, sorry.
-/
import Derived.Test.YtmenehnfgenlpaaChecked
import GoSem.Claim
import GoSem.ClaimJoined
import GoSem.ClaimMapViews
import Derived.JoinedTies
import Derived.KernelRfl
namespace Go.Proofs.Ytmenehnfgenlpaa
/- THE CELL 'sum', in the pinned program and in every row, IS THE sha256 OF THE DUMP (.gsa) THAT YtmenehnfgenlpaaProg.lean LOADS. Nothing in Lean hashes anything: it is a label: what it is worth is what the hold of that sum in a sandbox is worth. -/
noncomputable def Try.pinned : Pinned := { name := "ytmenehnfgenlpaa", sum := "878d5aae35e24896dd4bf9b1da53c350b4c3a85bd45306112c1145163e6e3815", checked := Try.checked }
namespace Rows
def none {H : Type} : Left H := { results := [], args := [] }

/-- 'laws.FnExactSpacePlace': WHATEVER THE INPUT: true; the input reads as it did. -/
def fnExactSpacePlaceSpec : ChangeSpec := { name := "fnExactSpacePlace", fn := fun _ => fun
  | [d1, d2, d3] => { results := [.lit (.bool true)], args := [d1, d2, d3] }
  | _ => none }
def fnExactSpacePlaceRow : OpenClaim := { program := "ytmenehnfgenlpaa", sum := "878d5aae35e24896dd4bf9b1da53c350b4c3a85bd45306112c1145163e6e3815", func := "loop.example/cubiclines/laws.FnExactSpacePlace", spec := "fnExactSpacePlace", unfollowed := true, recurses := true, apart := false }
def FnExactSpacePlaceSaid : Prop := fnExactSpacePlaceRow.holds Try.pinned (OpenSpec.ofChange fnExactSpacePlaceSpec)

/-- ITS FALSE NEIGHBOUR: 'it returns false'. Refute it at one input. -/
def fnExactSpacePlaceWrong : ChangeSpec := { name := "fnExactSpacePlace", fn := fun _ => fun
  | [d1, d2, d3] => { results := [.lit (.bool false)], args := [d1, d2, d3] }
  | _ => none }
def FnExactSpacePlaceWrongFalsely : Prop := fnExactSpacePlaceRow.holds Try.pinned (OpenSpec.ofChange fnExactSpacePlaceWrong)

/-- 'laws.FnExactCubeMeeting': WHATEVER THE INPUT: true; the input reads as it did. -/
def fnExactCubeMeetingSpec : ChangeSpec := { name := "fnExactCubeMeeting", fn := fun _ => fun
  | [d1, d2] => { results := [.lit (.bool true)], args := [d1, d2] }
  | _ => none }
def fnExactCubeMeetingRow : OpenClaim := { program := "ytmenehnfgenlpaa", sum := "878d5aae35e24896dd4bf9b1da53c350b4c3a85bd45306112c1145163e6e3815", func := "loop.example/cubiclines/laws.FnExactCubeMeeting", spec := "fnExactCubeMeeting", unfollowed := true, recurses := true, apart := false }
def FnExactCubeMeetingSaid : Prop := fnExactCubeMeetingRow.holds Try.pinned (OpenSpec.ofChange fnExactCubeMeetingSpec)

/-- ITS FALSE NEIGHBOUR: 'it returns false'. Refute it at one input. -/
def fnExactCubeMeetingWrong : ChangeSpec := { name := "fnExactCubeMeeting", fn := fun _ => fun
  | [d1, d2] => { results := [.lit (.bool false)], args := [d1, d2] }
  | _ => none }
def FnExactCubeMeetingWrongFalsely : Prop := fnExactCubeMeetingRow.holds Try.pinned (OpenSpec.ofChange fnExactCubeMeetingWrong)

/-- 'laws.FnSpace': WHATEVER THE INPUT: true; the input reads as it did. -/
def fnSpaceSpec : ChangeSpec := { name := "fnSpace", fn := fun _ => fun
  | [d] => { results := [.lit (.bool true)], args := [d] }
  | _ => none }
def fnSpaceRow : OpenClaim := { program := "ytmenehnfgenlpaa", sum := "878d5aae35e24896dd4bf9b1da53c350b4c3a85bd45306112c1145163e6e3815", func := "loop.example/cubiclines/laws.FnSpace", spec := "fnSpace", unfollowed := true, recurses := true, apart := false }
def FnSpaceSaid : Prop := fnSpaceRow.holds Try.pinned (OpenSpec.ofChange fnSpaceSpec)

/-- ITS FALSE NEIGHBOUR: 'it returns false'. Refute it at one input. -/
def fnSpaceWrong : ChangeSpec := { name := "fnSpace", fn := fun _ => fun
  | [d] => { results := [.lit (.bool false)], args := [d] }
  | _ => none }
def FnSpaceWrongFalsely : Prop := fnSpaceRow.holds Try.pinned (OpenSpec.ofChange fnSpaceWrong)

/-- 'laws.FnSpaceOn': WHATEVER THE INPUT: true; the input reads as it did. -/
def fnSpaceOnSpec : ChangeSpec := { name := "fnSpaceOn", fn := fun _ => fun
  | [d] => { results := [.lit (.bool true)], args := [d] }
  | _ => none }
def fnSpaceOnRow : OpenClaim := { program := "ytmenehnfgenlpaa", sum := "878d5aae35e24896dd4bf9b1da53c350b4c3a85bd45306112c1145163e6e3815", func := "loop.example/cubiclines/laws.FnSpaceOn", spec := "fnSpaceOn", unfollowed := true, recurses := true, apart := false }
def FnSpaceOnSaid : Prop := fnSpaceOnRow.holds Try.pinned (OpenSpec.ofChange fnSpaceOnSpec)

/-- ITS FALSE NEIGHBOUR: 'it returns false'. Refute it at one input. -/
def fnSpaceOnWrong : ChangeSpec := { name := "fnSpaceOn", fn := fun _ => fun
  | [d] => { results := [.lit (.bool false)], args := [d] }
  | _ => none }
def FnSpaceOnWrongFalsely : Prop := fnSpaceOnRow.holds Try.pinned (OpenSpec.ofChange fnSpaceOnWrong)

/-- 'laws.FnCubeLine': WHATEVER THE INPUT: true; the input reads as it did. -/
def fnCubeLineSpec : ChangeSpec := { name := "fnCubeLine", fn := fun _ => fun
  | [d] => { results := [.lit (.bool true)], args := [d] }
  | _ => none }
def fnCubeLineRow : OpenClaim := { program := "ytmenehnfgenlpaa", sum := "878d5aae35e24896dd4bf9b1da53c350b4c3a85bd45306112c1145163e6e3815", func := "loop.example/cubiclines/laws.FnCubeLine", spec := "fnCubeLine", unfollowed := true, recurses := true, apart := false }
def FnCubeLineSaid : Prop := fnCubeLineRow.holds Try.pinned (OpenSpec.ofChange fnCubeLineSpec)

/-- ITS FALSE NEIGHBOUR: 'it returns false'. Refute it at one input. -/
def fnCubeLineWrong : ChangeSpec := { name := "fnCubeLine", fn := fun _ => fun
  | [d] => { results := [.lit (.bool false)], args := [d] }
  | _ => none }
def FnCubeLineWrongFalsely : Prop := fnCubeLineRow.holds Try.pinned (OpenSpec.ofChange fnCubeLineWrong)

/-- 'laws.FnCubeMeeting': WHATEVER THE INPUT: true; the input reads as it did. -/
def fnCubeMeetingSpec : ChangeSpec := { name := "fnCubeMeeting", fn := fun _ => fun
  | [d] => { results := [.lit (.bool true)], args := [d] }
  | _ => none }
def fnCubeMeetingRow : OpenClaim := { program := "ytmenehnfgenlpaa", sum := "878d5aae35e24896dd4bf9b1da53c350b4c3a85bd45306112c1145163e6e3815", func := "loop.example/cubiclines/laws.FnCubeMeeting", spec := "fnCubeMeeting", unfollowed := true, recurses := true, apart := false }
def FnCubeMeetingSaid : Prop := fnCubeMeetingRow.holds Try.pinned (OpenSpec.ofChange fnCubeMeetingSpec)

/-- ITS FALSE NEIGHBOUR: 'it returns false'. Refute it at one input. -/
def fnCubeMeetingWrong : ChangeSpec := { name := "fnCubeMeeting", fn := fun _ => fun
  | [d] => { results := [.lit (.bool false)], args := [d] }
  | _ => none }
def FnCubeMeetingWrongFalsely : Prop := fnCubeMeetingRow.holds Try.pinned (OpenSpec.ofChange fnCubeMeetingWrong)

/-- 'laws.FnCross': WHATEVER THE INPUT: true; the input reads as it did. -/
def fnCrossSpec : ChangeSpec := { name := "fnCross", fn := fun _ => fun
  | [d] => { results := [.lit (.bool true)], args := [d] }
  | _ => none }
def fnCrossRow : OpenClaim := { program := "ytmenehnfgenlpaa", sum := "878d5aae35e24896dd4bf9b1da53c350b4c3a85bd45306112c1145163e6e3815", func := "loop.example/cubiclines/laws.FnCross", spec := "fnCross", unfollowed := true, recurses := true, apart := false }
def FnCrossSaid : Prop := fnCrossRow.holds Try.pinned (OpenSpec.ofChange fnCrossSpec)

/-- ITS FALSE NEIGHBOUR: 'it returns false'. Refute it at one input. -/
def fnCrossWrong : ChangeSpec := { name := "fnCross", fn := fun _ => fun
  | [d] => { results := [.lit (.bool false)], args := [d] }
  | _ => none }
def FnCrossWrongFalsely : Prop := fnCrossRow.holds Try.pinned (OpenSpec.ofChange fnCrossWrong)

/-- 'laws.FnExactCubeStars': WHATEVER THE INPUT: true; the input reads as it did. -/
def fnExactCubeStarsSpec : ChangeSpec := { name := "fnExactCubeStars", fn := fun _ => fun
  | [d] => { results := [.lit (.bool true)], args := [d] }
  | _ => none }
def fnExactCubeStarsRow : OpenClaim := { program := "ytmenehnfgenlpaa", sum := "878d5aae35e24896dd4bf9b1da53c350b4c3a85bd45306112c1145163e6e3815", func := "loop.example/cubiclines/laws.FnExactCubeStars", spec := "fnExactCubeStars", unfollowed := true, recurses := true, apart := false }
def FnExactCubeStarsSaid : Prop := fnExactCubeStarsRow.holds Try.pinned (OpenSpec.ofChange fnExactCubeStarsSpec)

/-- ITS FALSE NEIGHBOUR: 'it returns false'. Refute it at one input. -/
def fnExactCubeStarsWrong : ChangeSpec := { name := "fnExactCubeStars", fn := fun _ => fun
  | [d] => { results := [.lit (.bool false)], args := [d] }
  | _ => none }
def FnExactCubeStarsWrongFalsely : Prop := fnExactCubeStarsRow.holds Try.pinned (OpenSpec.ofChange fnExactCubeStarsWrong)

/-- 'laws.FnCubeStars': WHATEVER THE INPUT: true; the input reads as it did. -/
def fnCubeStarsSpec : ChangeSpec := { name := "fnCubeStars", fn := fun _ => fun
  | [d] => { results := [.lit (.bool true)], args := [d] }
  | _ => none }
def fnCubeStarsRow : OpenClaim := { program := "ytmenehnfgenlpaa", sum := "878d5aae35e24896dd4bf9b1da53c350b4c3a85bd45306112c1145163e6e3815", func := "loop.example/cubiclines/laws.FnCubeStars", spec := "fnCubeStars", unfollowed := true, recurses := true, apart := false }
def FnCubeStarsSaid : Prop := fnCubeStarsRow.holds Try.pinned (OpenSpec.ofChange fnCubeStarsSpec)

/-- ITS FALSE NEIGHBOUR: 'it returns false'. Refute it at one input. -/
def fnCubeStarsWrong : ChangeSpec := { name := "fnCubeStars", fn := fun _ => fun
  | [d] => { results := [.lit (.bool false)], args := [d] }
  | _ => none }
def FnCubeStarsWrongFalsely : Prop := fnCubeStarsRow.holds Try.pinned (OpenSpec.ofChange fnCubeStarsWrong)

/-- 'laws.FnSpacePlace': WHATEVER THE INPUT: true; the input reads as it did. -/
def fnSpacePlaceSpec : ChangeSpec := { name := "fnSpacePlace", fn := fun _ => fun
  | [d] => { results := [.lit (.bool true)], args := [d] }
  | _ => none }
def fnSpacePlaceRow : OpenClaim := { program := "ytmenehnfgenlpaa", sum := "878d5aae35e24896dd4bf9b1da53c350b4c3a85bd45306112c1145163e6e3815", func := "loop.example/cubiclines/laws.FnSpacePlace", spec := "fnSpacePlace", unfollowed := true, recurses := true, apart := false }
def FnSpacePlaceSaid : Prop := fnSpacePlaceRow.holds Try.pinned (OpenSpec.ofChange fnSpacePlaceSpec)

/-- ITS FALSE NEIGHBOUR: 'it returns false'. Refute it at one input. -/
def fnSpacePlaceWrong : ChangeSpec := { name := "fnSpacePlace", fn := fun _ => fun
  | [d] => { results := [.lit (.bool false)], args := [d] }
  | _ => none }
def FnSpacePlaceWrongFalsely : Prop := fnSpacePlaceRow.holds Try.pinned (OpenSpec.ofChange fnSpacePlaceWrong)

/- THE SECOND FORM. 'bulk': how many values and letters a reading holds, each counted each time it is reached (what is shared counts as often as it is met; a slice's spare places count too). A statement '..UptoSaid' is the law's where the arguments, and the package variables that the reading takes, are together of bulk at most 1048576: NARROWER than '..Said'. Prove '..Said' where nothing that the law and all that it calls make is longer than what came in: it says more and counts as full. Else prove '..UptoSaid'. A law counts once. -/
mutual
def uptoBulk {H : Type} : DataW H → Nat
  | .lit (.string bytes) => bytes.length + 1
  | .lit _ => 1
  | .nil => 1
  | .ptr d => uptoBulk d + 1
  | .slice elems spare => uptoBulkAll elems + uptoBulkAll spare + 1
  | .agg parts => uptoBulkAll parts + 1
  | .iface _ d => uptoBulk d + 1
  | .map entries => uptoBulkEntries entries + 1
  | .held _ => 1
def uptoBulkAll {H : Type} : List (DataW H) → Nat
  | [] => 0
  | d :: r => uptoBulk d + uptoBulkAll r
def uptoBulkEntries {H : Type} : List (Lit × DataW H) → Nat
  | [] => 0
  | x :: r => uptoBulkEntry x + uptoBulkEntries r
def uptoBulkEntry {H : Type} : Lit × DataW H → Nat
  | (.string bytes, d) => bytes.length + uptoBulk d + 1
  | (_, d) => uptoBulk d + 1
 end
def uptoSmall : (H : Type) → List (DataW H) → Bool := fun _ ds => decide (uptoBulkAll ds ≤ 1048576)
def OpenSpec.upto (s : _root_.Go.ChangeSpec) : _root_.Go.OpenSpec := { _root_.Go.OpenSpec.ofChange s with cond := some uptoSmall }

/-- 'laws.FnExactSpacePlace', WHERE WHAT IT READS IS OF BULK AT MOST 1048576: true; the input reads as it did. -/
def fnExactSpacePlaceUptoRow : OpenClaim := { program := "ytmenehnfgenlpaa", sum := "878d5aae35e24896dd4bf9b1da53c350b4c3a85bd45306112c1145163e6e3815", func := "loop.example/cubiclines/laws.FnExactSpacePlace", spec := "fnExactSpacePlace", unfollowed := true, recurses := true, apart := false, narrowed := true }
def FnExactSpacePlaceUptoSaid : Prop := fnExactSpacePlaceUptoRow.holds Try.pinned (OpenSpec.upto fnExactSpacePlaceSpec)

/-- 'laws.FnExactCubeMeeting', WHERE WHAT IT READS IS OF BULK AT MOST 1048576: true; the input reads as it did. -/
def fnExactCubeMeetingUptoRow : OpenClaim := { program := "ytmenehnfgenlpaa", sum := "878d5aae35e24896dd4bf9b1da53c350b4c3a85bd45306112c1145163e6e3815", func := "loop.example/cubiclines/laws.FnExactCubeMeeting", spec := "fnExactCubeMeeting", unfollowed := true, recurses := true, apart := false, narrowed := true }
def FnExactCubeMeetingUptoSaid : Prop := fnExactCubeMeetingUptoRow.holds Try.pinned (OpenSpec.upto fnExactCubeMeetingSpec)

/-- 'laws.FnSpace', WHERE WHAT IT READS IS OF BULK AT MOST 1048576: true; the input reads as it did. -/
def fnSpaceUptoRow : OpenClaim := { program := "ytmenehnfgenlpaa", sum := "878d5aae35e24896dd4bf9b1da53c350b4c3a85bd45306112c1145163e6e3815", func := "loop.example/cubiclines/laws.FnSpace", spec := "fnSpace", unfollowed := true, recurses := true, apart := false, narrowed := true }
def FnSpaceUptoSaid : Prop := fnSpaceUptoRow.holds Try.pinned (OpenSpec.upto fnSpaceSpec)

/-- 'laws.FnSpaceOn', WHERE WHAT IT READS IS OF BULK AT MOST 1048576: true; the input reads as it did. -/
def fnSpaceOnUptoRow : OpenClaim := { program := "ytmenehnfgenlpaa", sum := "878d5aae35e24896dd4bf9b1da53c350b4c3a85bd45306112c1145163e6e3815", func := "loop.example/cubiclines/laws.FnSpaceOn", spec := "fnSpaceOn", unfollowed := true, recurses := true, apart := false, narrowed := true }
def FnSpaceOnUptoSaid : Prop := fnSpaceOnUptoRow.holds Try.pinned (OpenSpec.upto fnSpaceOnSpec)

/-- 'laws.FnCubeLine', WHERE WHAT IT READS IS OF BULK AT MOST 1048576: true; the input reads as it did. -/
def fnCubeLineUptoRow : OpenClaim := { program := "ytmenehnfgenlpaa", sum := "878d5aae35e24896dd4bf9b1da53c350b4c3a85bd45306112c1145163e6e3815", func := "loop.example/cubiclines/laws.FnCubeLine", spec := "fnCubeLine", unfollowed := true, recurses := true, apart := false, narrowed := true }
def FnCubeLineUptoSaid : Prop := fnCubeLineUptoRow.holds Try.pinned (OpenSpec.upto fnCubeLineSpec)

/-- 'laws.FnCubeMeeting', WHERE WHAT IT READS IS OF BULK AT MOST 1048576: true; the input reads as it did. -/
def fnCubeMeetingUptoRow : OpenClaim := { program := "ytmenehnfgenlpaa", sum := "878d5aae35e24896dd4bf9b1da53c350b4c3a85bd45306112c1145163e6e3815", func := "loop.example/cubiclines/laws.FnCubeMeeting", spec := "fnCubeMeeting", unfollowed := true, recurses := true, apart := false, narrowed := true }
def FnCubeMeetingUptoSaid : Prop := fnCubeMeetingUptoRow.holds Try.pinned (OpenSpec.upto fnCubeMeetingSpec)

/-- 'laws.FnCross', WHERE WHAT IT READS IS OF BULK AT MOST 1048576: true; the input reads as it did. -/
def fnCrossUptoRow : OpenClaim := { program := "ytmenehnfgenlpaa", sum := "878d5aae35e24896dd4bf9b1da53c350b4c3a85bd45306112c1145163e6e3815", func := "loop.example/cubiclines/laws.FnCross", spec := "fnCross", unfollowed := true, recurses := true, apart := false, narrowed := true }
def FnCrossUptoSaid : Prop := fnCrossUptoRow.holds Try.pinned (OpenSpec.upto fnCrossSpec)

/-- 'laws.FnExactCubeStars', WHERE WHAT IT READS IS OF BULK AT MOST 1048576: true; the input reads as it did. -/
def fnExactCubeStarsUptoRow : OpenClaim := { program := "ytmenehnfgenlpaa", sum := "878d5aae35e24896dd4bf9b1da53c350b4c3a85bd45306112c1145163e6e3815", func := "loop.example/cubiclines/laws.FnExactCubeStars", spec := "fnExactCubeStars", unfollowed := true, recurses := true, apart := false, narrowed := true }
def FnExactCubeStarsUptoSaid : Prop := fnExactCubeStarsUptoRow.holds Try.pinned (OpenSpec.upto fnExactCubeStarsSpec)

/-- 'laws.FnCubeStars', WHERE WHAT IT READS IS OF BULK AT MOST 1048576: true; the input reads as it did. -/
def fnCubeStarsUptoRow : OpenClaim := { program := "ytmenehnfgenlpaa", sum := "878d5aae35e24896dd4bf9b1da53c350b4c3a85bd45306112c1145163e6e3815", func := "loop.example/cubiclines/laws.FnCubeStars", spec := "fnCubeStars", unfollowed := true, recurses := true, apart := false, narrowed := true }
def FnCubeStarsUptoSaid : Prop := fnCubeStarsUptoRow.holds Try.pinned (OpenSpec.upto fnCubeStarsSpec)

/-- 'laws.FnSpacePlace', WHERE WHAT IT READS IS OF BULK AT MOST 1048576: true; the input reads as it did. -/
def fnSpacePlaceUptoRow : OpenClaim := { program := "ytmenehnfgenlpaa", sum := "878d5aae35e24896dd4bf9b1da53c350b4c3a85bd45306112c1145163e6e3815", func := "loop.example/cubiclines/laws.FnSpacePlace", spec := "fnSpacePlace", unfollowed := true, recurses := true, apart := false, narrowed := true }
def FnSpacePlaceUptoSaid : Prop := fnSpacePlaceUptoRow.holds Try.pinned (OpenSpec.upto fnSpacePlaceSpec)

end Rows
end Go.Proofs.Ytmenehnfgenlpaa
