/-
  No cell of these rows narrows 'for every input' (looked for: loops, veiled, ifaces, maps, wideKeys, modest, calm, conditions, laid).
  DERIVED. THE GIVEN ROWS OF THIS SEAT. 12 by the template 'for every input the law returns true; each argument reads behind the call as it read before'; 0 by the template 'total and deterministic' (their statements: YtdgopdbmbaiddaaTotals.lean).
  GIVEN WITH THE SEED: the statements are not yours to turn. If you find one false, say at which input.
  Laid BY PROGRAM, IN A SANDBOX (cutbox-rows.mjs): the forced cells as the released guide's own fill.sh prints them over the translation 5688d7f3fa89339d… (all of the seat's roots in one cut). By AI agents, Wed Nov 11 2026. No macro, syntax, notation, axiom, sorry.
-/
import Derived.Test.YtdgopdbmbaiddaaChecked
import GoSem.Claim
import GoSem.ClaimJoined
import GoSem.ClaimMapViews
import Derived.JoinedTies
import Derived.KernelRfl
namespace Go.Proofs.Ytdgopdbmbaiddaa
/- THE CELL 'sum', in the pinned program and in every row, IS THE sha256 OF THE DUMP (.gsa) THAT YtdgopdbmbaiddaaProg.lean LOADS. Nothing in Lean hashes anything: it is a label: what it is worth is what the hold of that sum in a sandbox is worth. -/
noncomputable def Try.pinned : Pinned := { name := "ytdgopdbmbaiddaa", sum := "5688d7f3fa89339d0755ab95bf9c0a51761b7b445eaa202d40e78f1c3f191eb1", checked := Try.checked }
namespace Rows
def none {H : Type} : Left H := { results := [], args := [] }

/-- 'laws.FnExactFormCount': WHATEVER THE INPUT: true; the input reads as it did. -/
def fnExactFormCountSpec : ChangeSpec := { name := "fnExactFormCount", fn := fun _ => fun
  | [d1, d2] => { results := [.lit (.bool true)], args := [d1, d2] }
  | _ => none }
def fnExactFormCountRow : OpenClaim := { program := "ytdgopdbmbaiddaa", sum := "5688d7f3fa89339d0755ab95bf9c0a51761b7b445eaa202d40e78f1c3f191eb1", func := "loop.example/cubiclines/laws.FnExactFormCount", spec := "fnExactFormCount", unfollowed := true, recurses := true, apart := false }
def FnExactFormCountSaid : Prop := fnExactFormCountRow.holds Try.pinned (OpenSpec.ofChange fnExactFormCountSpec)

/-- ITS FALSE NEIGHBOUR: 'it returns false'. Refute it at one input. -/
def fnExactFormCountWrong : ChangeSpec := { name := "fnExactFormCount", fn := fun _ => fun
  | [d1, d2] => { results := [.lit (.bool false)], args := [d1, d2] }
  | _ => none }
def FnExactFormCountWrongFalsely : Prop := fnExactFormCountRow.holds Try.pinned (OpenSpec.ofChange fnExactFormCountWrong)

/-- 'laws.FnRoots': WHATEVER THE INPUT: true; the input reads as it did. -/
def fnRootsSpec : ChangeSpec := { name := "fnRoots", fn := fun _ => fun
  | [d] => { results := [.lit (.bool true)], args := [d] }
  | _ => none }
def fnRootsRow : OpenClaim := { program := "ytdgopdbmbaiddaa", sum := "5688d7f3fa89339d0755ab95bf9c0a51761b7b445eaa202d40e78f1c3f191eb1", func := "loop.example/cubiclines/laws.FnRoots", spec := "fnRoots", unfollowed := true, recurses := true, apart := false }
def FnRootsSaid : Prop := fnRootsRow.holds Try.pinned (OpenSpec.ofChange fnRootsSpec)

/-- ITS FALSE NEIGHBOUR: 'it returns false'. Refute it at one input. -/
def fnRootsWrong : ChangeSpec := { name := "fnRoots", fn := fun _ => fun
  | [d] => { results := [.lit (.bool false)], args := [d] }
  | _ => none }
def FnRootsWrongFalsely : Prop := fnRootsRow.holds Try.pinned (OpenSpec.ofChange fnRootsWrong)

/-- 'laws.FnCubeForm': WHATEVER THE INPUT: true; the input reads as it did. -/
def fnCubeFormSpec : ChangeSpec := { name := "fnCubeForm", fn := fun _ => fun
  | [d] => { results := [.lit (.bool true)], args := [d] }
  | _ => none }
def fnCubeFormRow : OpenClaim := { program := "ytdgopdbmbaiddaa", sum := "5688d7f3fa89339d0755ab95bf9c0a51761b7b445eaa202d40e78f1c3f191eb1", func := "loop.example/cubiclines/laws.FnCubeForm", spec := "fnCubeForm", unfollowed := true, recurses := true, apart := false }
def FnCubeFormSaid : Prop := fnCubeFormRow.holds Try.pinned (OpenSpec.ofChange fnCubeFormSpec)

/-- ITS FALSE NEIGHBOUR: 'it returns false'. Refute it at one input. -/
def fnCubeFormWrong : ChangeSpec := { name := "fnCubeForm", fn := fun _ => fun
  | [d] => { results := [.lit (.bool false)], args := [d] }
  | _ => none }
def FnCubeFormWrongFalsely : Prop := fnCubeFormRow.holds Try.pinned (OpenSpec.ofChange fnCubeFormWrong)

/-- 'laws.FnFormValue': WHATEVER THE INPUT: true; the input reads as it did. -/
def fnFormValueSpec : ChangeSpec := { name := "fnFormValue", fn := fun _ => fun
  | [d] => { results := [.lit (.bool true)], args := [d] }
  | _ => none }
def fnFormValueRow : OpenClaim := { program := "ytdgopdbmbaiddaa", sum := "5688d7f3fa89339d0755ab95bf9c0a51761b7b445eaa202d40e78f1c3f191eb1", func := "loop.example/cubiclines/laws.FnFormValue", spec := "fnFormValue", unfollowed := true, recurses := true, apart := false }
def FnFormValueSaid : Prop := fnFormValueRow.holds Try.pinned (OpenSpec.ofChange fnFormValueSpec)

/-- ITS FALSE NEIGHBOUR: 'it returns false'. Refute it at one input. -/
def fnFormValueWrong : ChangeSpec := { name := "fnFormValue", fn := fun _ => fun
  | [d] => { results := [.lit (.bool false)], args := [d] }
  | _ => none }
def FnFormValueWrongFalsely : Prop := fnFormValueRow.holds Try.pinned (OpenSpec.ofChange fnFormValueWrong)

/-- 'laws.FnExactFormSmooth': WHATEVER THE INPUT: true; the input reads as it did. -/
def fnExactFormSmoothSpec : ChangeSpec := { name := "fnExactFormSmooth", fn := fun _ => fun
  | [d1, d2] => { results := [.lit (.bool true)], args := [d1, d2] }
  | _ => none }
def fnExactFormSmoothRow : OpenClaim := { program := "ytdgopdbmbaiddaa", sum := "5688d7f3fa89339d0755ab95bf9c0a51761b7b445eaa202d40e78f1c3f191eb1", func := "loop.example/cubiclines/laws.FnExactFormSmooth", spec := "fnExactFormSmooth", unfollowed := true, recurses := true, apart := false }
def FnExactFormSmoothSaid : Prop := fnExactFormSmoothRow.holds Try.pinned (OpenSpec.ofChange fnExactFormSmoothSpec)

/-- ITS FALSE NEIGHBOUR: 'it returns false'. Refute it at one input. -/
def fnExactFormSmoothWrong : ChangeSpec := { name := "fnExactFormSmooth", fn := fun _ => fun
  | [d1, d2] => { results := [.lit (.bool false)], args := [d1, d2] }
  | _ => none }
def FnExactFormSmoothWrongFalsely : Prop := fnExactFormSmoothRow.holds Try.pinned (OpenSpec.ofChange fnExactFormSmoothWrong)

/-- 'laws.FnExactSpaceIn': WHATEVER THE INPUT: true; the input reads as it did. -/
def fnExactSpaceInSpec : ChangeSpec := { name := "fnExactSpaceIn", fn := fun _ => fun
  | [d1, d2] => { results := [.lit (.bool true)], args := [d1, d2] }
  | _ => none }
def fnExactSpaceInRow : OpenClaim := { program := "ytdgopdbmbaiddaa", sum := "5688d7f3fa89339d0755ab95bf9c0a51761b7b445eaa202d40e78f1c3f191eb1", func := "loop.example/cubiclines/laws.FnExactSpaceIn", spec := "fnExactSpaceIn", unfollowed := true, recurses := true, apart := false }
def FnExactSpaceInSaid : Prop := fnExactSpaceInRow.holds Try.pinned (OpenSpec.ofChange fnExactSpaceInSpec)

/-- ITS FALSE NEIGHBOUR: 'it returns false'. Refute it at one input. -/
def fnExactSpaceInWrong : ChangeSpec := { name := "fnExactSpaceIn", fn := fun _ => fun
  | [d1, d2] => { results := [.lit (.bool false)], args := [d1, d2] }
  | _ => none }
def FnExactSpaceInWrongFalsely : Prop := fnExactSpaceInRow.holds Try.pinned (OpenSpec.ofChange fnExactSpaceInWrong)

/-- 'laws.FnExactSpaceCross': WHATEVER THE INPUT: true; the input reads as it did. -/
def fnExactSpaceCrossSpec : ChangeSpec := { name := "fnExactSpaceCross", fn := fun _ => fun
  | [d1, d2, d3] => { results := [.lit (.bool true)], args := [d1, d2, d3] }
  | _ => none }
def fnExactSpaceCrossRow : OpenClaim := { program := "ytdgopdbmbaiddaa", sum := "5688d7f3fa89339d0755ab95bf9c0a51761b7b445eaa202d40e78f1c3f191eb1", func := "loop.example/cubiclines/laws.FnExactSpaceCross", spec := "fnExactSpaceCross", unfollowed := true, recurses := true, apart := false }
def FnExactSpaceCrossSaid : Prop := fnExactSpaceCrossRow.holds Try.pinned (OpenSpec.ofChange fnExactSpaceCrossSpec)

/-- ITS FALSE NEIGHBOUR: 'it returns false'. Refute it at one input. -/
def fnExactSpaceCrossWrong : ChangeSpec := { name := "fnExactSpaceCross", fn := fun _ => fun
  | [d1, d2, d3] => { results := [.lit (.bool false)], args := [d1, d2, d3] }
  | _ => none }
def FnExactSpaceCrossWrongFalsely : Prop := fnExactSpaceCrossRow.holds Try.pinned (OpenSpec.ofChange fnExactSpaceCrossWrong)

/-- 'laws.FnExactSpaceThrough': WHATEVER THE INPUT: true; the input reads as it did. -/
def fnExactSpaceThroughSpec : ChangeSpec := { name := "fnExactSpaceThrough", fn := fun _ => fun
  | [d1, d2, d3] => { results := [.lit (.bool true)], args := [d1, d2, d3] }
  | _ => none }
def fnExactSpaceThroughRow : OpenClaim := { program := "ytdgopdbmbaiddaa", sum := "5688d7f3fa89339d0755ab95bf9c0a51761b7b445eaa202d40e78f1c3f191eb1", func := "loop.example/cubiclines/laws.FnExactSpaceThrough", spec := "fnExactSpaceThrough", unfollowed := true, recurses := true, apart := false }
def FnExactSpaceThroughSaid : Prop := fnExactSpaceThroughRow.holds Try.pinned (OpenSpec.ofChange fnExactSpaceThroughSpec)

/-- ITS FALSE NEIGHBOUR: 'it returns false'. Refute it at one input. -/
def fnExactSpaceThroughWrong : ChangeSpec := { name := "fnExactSpaceThrough", fn := fun _ => fun
  | [d1, d2, d3] => { results := [.lit (.bool false)], args := [d1, d2, d3] }
  | _ => none }
def FnExactSpaceThroughWrongFalsely : Prop := fnExactSpaceThroughRow.holds Try.pinned (OpenSpec.ofChange fnExactSpaceThroughWrong)

/-- 'laws.FnExactSpaceOn': WHATEVER THE INPUT: true; the input reads as it did. -/
def fnExactSpaceOnSpec : ChangeSpec := { name := "fnExactSpaceOn", fn := fun _ => fun
  | [d1, d2, d3] => { results := [.lit (.bool true)], args := [d1, d2, d3] }
  | _ => none }
def fnExactSpaceOnRow : OpenClaim := { program := "ytdgopdbmbaiddaa", sum := "5688d7f3fa89339d0755ab95bf9c0a51761b7b445eaa202d40e78f1c3f191eb1", func := "loop.example/cubiclines/laws.FnExactSpaceOn", spec := "fnExactSpaceOn", unfollowed := true, recurses := true, apart := false }
def FnExactSpaceOnSaid : Prop := fnExactSpaceOnRow.holds Try.pinned (OpenSpec.ofChange fnExactSpaceOnSpec)

/-- ITS FALSE NEIGHBOUR: 'it returns false'. Refute it at one input. -/
def fnExactSpaceOnWrong : ChangeSpec := { name := "fnExactSpaceOn", fn := fun _ => fun
  | [d1, d2, d3] => { results := [.lit (.bool false)], args := [d1, d2, d3] }
  | _ => none }
def FnExactSpaceOnWrongFalsely : Prop := fnExactSpaceOnRow.holds Try.pinned (OpenSpec.ofChange fnExactSpaceOnWrong)

/-- 'laws.FnExactCubeLine': WHATEVER THE INPUT: true; the input reads as it did. -/
def fnExactCubeLineSpec : ChangeSpec := { name := "fnExactCubeLine", fn := fun _ => fun
  | [d1, d2] => { results := [.lit (.bool true)], args := [d1, d2] }
  | _ => none }
def fnExactCubeLineRow : OpenClaim := { program := "ytdgopdbmbaiddaa", sum := "5688d7f3fa89339d0755ab95bf9c0a51761b7b445eaa202d40e78f1c3f191eb1", func := "loop.example/cubiclines/laws.FnExactCubeLine", spec := "fnExactCubeLine", unfollowed := true, recurses := true, apart := false }
def FnExactCubeLineSaid : Prop := fnExactCubeLineRow.holds Try.pinned (OpenSpec.ofChange fnExactCubeLineSpec)

/-- ITS FALSE NEIGHBOUR: 'it returns false'. Refute it at one input. -/
def fnExactCubeLineWrong : ChangeSpec := { name := "fnExactCubeLine", fn := fun _ => fun
  | [d1, d2] => { results := [.lit (.bool false)], args := [d1, d2] }
  | _ => none }
def FnExactCubeLineWrongFalsely : Prop := fnExactCubeLineRow.holds Try.pinned (OpenSpec.ofChange fnExactCubeLineWrong)

/-- 'laws.FnThrough': WHATEVER THE INPUT: true; the input reads as it did. -/
def fnThroughSpec : ChangeSpec := { name := "fnThrough", fn := fun _ => fun
  | [d] => { results := [.lit (.bool true)], args := [d] }
  | _ => none }
def fnThroughRow : OpenClaim := { program := "ytdgopdbmbaiddaa", sum := "5688d7f3fa89339d0755ab95bf9c0a51761b7b445eaa202d40e78f1c3f191eb1", func := "loop.example/cubiclines/laws.FnThrough", spec := "fnThrough", unfollowed := true, recurses := true, apart := false }
def FnThroughSaid : Prop := fnThroughRow.holds Try.pinned (OpenSpec.ofChange fnThroughSpec)

/-- ITS FALSE NEIGHBOUR: 'it returns false'. Refute it at one input. -/
def fnThroughWrong : ChangeSpec := { name := "fnThrough", fn := fun _ => fun
  | [d] => { results := [.lit (.bool false)], args := [d] }
  | _ => none }
def FnThroughWrongFalsely : Prop := fnThroughRow.holds Try.pinned (OpenSpec.ofChange fnThroughWrong)

/-- 'laws.FnExactSurfaceWhole': WHATEVER THE INPUT: true; the input reads as it did. -/
def fnExactSurfaceWholeSpec : ChangeSpec := { name := "fnExactSurfaceWhole", fn := fun _ => fun
  | [d1, d2, d3] => { results := [.lit (.bool true)], args := [d1, d2, d3] }
  | _ => none }
def fnExactSurfaceWholeRow : OpenClaim := { program := "ytdgopdbmbaiddaa", sum := "5688d7f3fa89339d0755ab95bf9c0a51761b7b445eaa202d40e78f1c3f191eb1", func := "loop.example/cubiclines/laws.FnExactSurfaceWhole", spec := "fnExactSurfaceWhole", unfollowed := true, recurses := true, apart := false }
def FnExactSurfaceWholeSaid : Prop := fnExactSurfaceWholeRow.holds Try.pinned (OpenSpec.ofChange fnExactSurfaceWholeSpec)

/-- ITS FALSE NEIGHBOUR: 'it returns false'. Refute it at one input. -/
def fnExactSurfaceWholeWrong : ChangeSpec := { name := "fnExactSurfaceWhole", fn := fun _ => fun
  | [d1, d2, d3] => { results := [.lit (.bool false)], args := [d1, d2, d3] }
  | _ => none }
def FnExactSurfaceWholeWrongFalsely : Prop := fnExactSurfaceWholeRow.holds Try.pinned (OpenSpec.ofChange fnExactSurfaceWholeWrong)

/- THE SECOND FORM. 'bulk': how many values and letters a reading holds, each counted each time it is reached (what is shared counts as often as it is met; a slice's spare places count too). A statement '..UptoSaid' is the law's where the arguments, and the package variables that the reading takes, are together of bulk at most 1048576: NARROWER than '..Said'. Prove '..Said' where nothing that the law and all that it calls make is longer than what came in: it says more and counts as full. Else prove '..UptoSaid'. A law counts once. -/
mutual
def uptoBulk {H : Type} : DataW H → Nat
  | .lit (.string bytes) => bytes.length + 1
  | .lit _ => 1
  | .nil => 1
  | .ptr d => uptoBulk d + 1
  | .slice elems spare => uptoBulkAll elems + uptoBulkAll spare + 1
  | .agg parts => uptoBulkAll parts + 1
  | .iface _ d => uptoBulk d + 1
  | .map entries => uptoBulkEntries entries + 1
  | .held _ => 1
def uptoBulkAll {H : Type} : List (DataW H) → Nat
  | [] => 0
  | d :: r => uptoBulk d + uptoBulkAll r
def uptoBulkEntries {H : Type} : List (Lit × DataW H) → Nat
  | [] => 0
  | x :: r => uptoBulkEntry x + uptoBulkEntries r
def uptoBulkEntry {H : Type} : Lit × DataW H → Nat
  | (.string bytes, d) => bytes.length + uptoBulk d + 1
  | (_, d) => uptoBulk d + 1
 end
def uptoSmall : (H : Type) → List (DataW H) → Bool := fun _ ds => decide (uptoBulkAll ds ≤ 1048576)
def OpenSpec.upto (s : _root_.Go.ChangeSpec) : _root_.Go.OpenSpec := { _root_.Go.OpenSpec.ofChange s with cond := some uptoSmall }

/-- 'laws.FnExactFormCount', WHERE WHAT IT READS IS OF BULK AT MOST 1048576: true; the input reads as it did. -/
def fnExactFormCountUptoRow : OpenClaim := { program := "ytdgopdbmbaiddaa", sum := "5688d7f3fa89339d0755ab95bf9c0a51761b7b445eaa202d40e78f1c3f191eb1", func := "loop.example/cubiclines/laws.FnExactFormCount", spec := "fnExactFormCount", unfollowed := true, recurses := true, apart := false, narrowed := true }
def FnExactFormCountUptoSaid : Prop := fnExactFormCountUptoRow.holds Try.pinned (OpenSpec.upto fnExactFormCountSpec)

/-- 'laws.FnRoots', WHERE WHAT IT READS IS OF BULK AT MOST 1048576: true; the input reads as it did. -/
def fnRootsUptoRow : OpenClaim := { program := "ytdgopdbmbaiddaa", sum := "5688d7f3fa89339d0755ab95bf9c0a51761b7b445eaa202d40e78f1c3f191eb1", func := "loop.example/cubiclines/laws.FnRoots", spec := "fnRoots", unfollowed := true, recurses := true, apart := false, narrowed := true }
def FnRootsUptoSaid : Prop := fnRootsUptoRow.holds Try.pinned (OpenSpec.upto fnRootsSpec)

/-- 'laws.FnCubeForm', WHERE WHAT IT READS IS OF BULK AT MOST 1048576: true; the input reads as it did. -/
def fnCubeFormUptoRow : OpenClaim := { program := "ytdgopdbmbaiddaa", sum := "5688d7f3fa89339d0755ab95bf9c0a51761b7b445eaa202d40e78f1c3f191eb1", func := "loop.example/cubiclines/laws.FnCubeForm", spec := "fnCubeForm", unfollowed := true, recurses := true, apart := false, narrowed := true }
def FnCubeFormUptoSaid : Prop := fnCubeFormUptoRow.holds Try.pinned (OpenSpec.upto fnCubeFormSpec)

/-- 'laws.FnFormValue', WHERE WHAT IT READS IS OF BULK AT MOST 1048576: true; the input reads as it did. -/
def fnFormValueUptoRow : OpenClaim := { program := "ytdgopdbmbaiddaa", sum := "5688d7f3fa89339d0755ab95bf9c0a51761b7b445eaa202d40e78f1c3f191eb1", func := "loop.example/cubiclines/laws.FnFormValue", spec := "fnFormValue", unfollowed := true, recurses := true, apart := false, narrowed := true }
def FnFormValueUptoSaid : Prop := fnFormValueUptoRow.holds Try.pinned (OpenSpec.upto fnFormValueSpec)

/-- 'laws.FnExactFormSmooth', WHERE WHAT IT READS IS OF BULK AT MOST 1048576: true; the input reads as it did. -/
def fnExactFormSmoothUptoRow : OpenClaim := { program := "ytdgopdbmbaiddaa", sum := "5688d7f3fa89339d0755ab95bf9c0a51761b7b445eaa202d40e78f1c3f191eb1", func := "loop.example/cubiclines/laws.FnExactFormSmooth", spec := "fnExactFormSmooth", unfollowed := true, recurses := true, apart := false, narrowed := true }
def FnExactFormSmoothUptoSaid : Prop := fnExactFormSmoothUptoRow.holds Try.pinned (OpenSpec.upto fnExactFormSmoothSpec)

/-- 'laws.FnExactSpaceIn', WHERE WHAT IT READS IS OF BULK AT MOST 1048576: true; the input reads as it did. -/
def fnExactSpaceInUptoRow : OpenClaim := { program := "ytdgopdbmbaiddaa", sum := "5688d7f3fa89339d0755ab95bf9c0a51761b7b445eaa202d40e78f1c3f191eb1", func := "loop.example/cubiclines/laws.FnExactSpaceIn", spec := "fnExactSpaceIn", unfollowed := true, recurses := true, apart := false, narrowed := true }
def FnExactSpaceInUptoSaid : Prop := fnExactSpaceInUptoRow.holds Try.pinned (OpenSpec.upto fnExactSpaceInSpec)

/-- 'laws.FnExactSpaceCross', WHERE WHAT IT READS IS OF BULK AT MOST 1048576: true; the input reads as it did. -/
def fnExactSpaceCrossUptoRow : OpenClaim := { program := "ytdgopdbmbaiddaa", sum := "5688d7f3fa89339d0755ab95bf9c0a51761b7b445eaa202d40e78f1c3f191eb1", func := "loop.example/cubiclines/laws.FnExactSpaceCross", spec := "fnExactSpaceCross", unfollowed := true, recurses := true, apart := false, narrowed := true }
def FnExactSpaceCrossUptoSaid : Prop := fnExactSpaceCrossUptoRow.holds Try.pinned (OpenSpec.upto fnExactSpaceCrossSpec)

/-- 'laws.FnExactSpaceThrough', WHERE WHAT IT READS IS OF BULK AT MOST 1048576: true; the input reads as it did. -/
def fnExactSpaceThroughUptoRow : OpenClaim := { program := "ytdgopdbmbaiddaa", sum := "5688d7f3fa89339d0755ab95bf9c0a51761b7b445eaa202d40e78f1c3f191eb1", func := "loop.example/cubiclines/laws.FnExactSpaceThrough", spec := "fnExactSpaceThrough", unfollowed := true, recurses := true, apart := false, narrowed := true }
def FnExactSpaceThroughUptoSaid : Prop := fnExactSpaceThroughUptoRow.holds Try.pinned (OpenSpec.upto fnExactSpaceThroughSpec)

/-- 'laws.FnExactSpaceOn', WHERE WHAT IT READS IS OF BULK AT MOST 1048576: true; the input reads as it did. -/
def fnExactSpaceOnUptoRow : OpenClaim := { program := "ytdgopdbmbaiddaa", sum := "5688d7f3fa89339d0755ab95bf9c0a51761b7b445eaa202d40e78f1c3f191eb1", func := "loop.example/cubiclines/laws.FnExactSpaceOn", spec := "fnExactSpaceOn", unfollowed := true, recurses := true, apart := false, narrowed := true }
def FnExactSpaceOnUptoSaid : Prop := fnExactSpaceOnUptoRow.holds Try.pinned (OpenSpec.upto fnExactSpaceOnSpec)

/-- 'laws.FnExactCubeLine', WHERE WHAT IT READS IS OF BULK AT MOST 1048576: true; the input reads as it did. -/
def fnExactCubeLineUptoRow : OpenClaim := { program := "ytdgopdbmbaiddaa", sum := "5688d7f3fa89339d0755ab95bf9c0a51761b7b445eaa202d40e78f1c3f191eb1", func := "loop.example/cubiclines/laws.FnExactCubeLine", spec := "fnExactCubeLine", unfollowed := true, recurses := true, apart := false, narrowed := true }
def FnExactCubeLineUptoSaid : Prop := fnExactCubeLineUptoRow.holds Try.pinned (OpenSpec.upto fnExactCubeLineSpec)

/-- 'laws.FnThrough', WHERE WHAT IT READS IS OF BULK AT MOST 1048576: true; the input reads as it did. -/
def fnThroughUptoRow : OpenClaim := { program := "ytdgopdbmbaiddaa", sum := "5688d7f3fa89339d0755ab95bf9c0a51761b7b445eaa202d40e78f1c3f191eb1", func := "loop.example/cubiclines/laws.FnThrough", spec := "fnThrough", unfollowed := true, recurses := true, apart := false, narrowed := true }
def FnThroughUptoSaid : Prop := fnThroughUptoRow.holds Try.pinned (OpenSpec.upto fnThroughSpec)

/-- 'laws.FnExactSurfaceWhole', WHERE WHAT IT READS IS OF BULK AT MOST 1048576: true; the input reads as it did. -/
def fnExactSurfaceWholeUptoRow : OpenClaim := { program := "ytdgopdbmbaiddaa", sum := "5688d7f3fa89339d0755ab95bf9c0a51761b7b445eaa202d40e78f1c3f191eb1", func := "loop.example/cubiclines/laws.FnExactSurfaceWhole", spec := "fnExactSurfaceWhole", unfollowed := true, recurses := true, apart := false, narrowed := true }
def FnExactSurfaceWholeUptoSaid : Prop := fnExactSurfaceWholeUptoRow.holds Try.pinned (OpenSpec.upto fnExactSurfaceWholeSpec)

end Rows
end Go.Proofs.Ytdgopdbmbaiddaa
