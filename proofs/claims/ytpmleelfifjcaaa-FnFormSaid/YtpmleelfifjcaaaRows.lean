/-
  No cell of these rows narrows 'for every input' (looked for: loops, veiled, ifaces, maps, wideKeys, modest, calm, conditions, laid).
  DERIVED. THE GIVEN ROWS OF THIS SEAT. 3 by the template 'for every input the law returns true; each argument reads behind the call as it read before'; 0 by the template 'total and deterministic' (their statements: YtpmleelfifjcaaaTotals.lean).
  GIVEN WITH THE SEED: the statements are not yours to turn. If you find one false, say at which input.
  Laid BY PROGRAM, IN A SANDBOX (cutbox-rows.mjs): the forced cells as the released guide's own fill.sh prints them over the translation 0d94427085d54b0f… (all of the seat's roots in one cut). By AI agents, Wed Nov 11 2026. No macro, syntax, notation, axiom, sorry.
-/
import Derived.Test.YtpmleelfifjcaaaChecked
import GoSem.Claim
import GoSem.ClaimJoined
import GoSem.ClaimMapViews
import Derived.JoinedTies
import Derived.KernelRfl
namespace Go.Proofs.Ytpmleelfifjcaaa
/- THE CELL 'sum', in the pinned program and in every row, IS THE sha256 OF THE DUMP (.gsa) THAT YtpmleelfifjcaaaProg.lean LOADS. Nothing in Lean hashes anything: it is a label: what it is worth is what the hold of that sum in a sandbox is worth. -/
noncomputable def Try.pinned : Pinned := { name := "ytpmleelfifjcaaa", sum := "0d94427085d54b0fb0e60c854fc815b80ab8e7e800480067d4e200b823cdbf57", checked := Try.checked }
namespace Rows
def none {H : Type} : Left H := { results := [], args := [] }

/-- 'laws.FnExactCubeRoots': WHATEVER THE INPUT: true; the input reads as it did. -/
def fnExactCubeRootsSpec : ChangeSpec := { name := "fnExactCubeRoots", fn := fun _ => fun
  | [d] => { results := [.lit (.bool true)], args := [d] }
  | _ => none }
def fnExactCubeRootsRow : OpenClaim := { program := "ytpmleelfifjcaaa", sum := "0d94427085d54b0fb0e60c854fc815b80ab8e7e800480067d4e200b823cdbf57", func := "loop.example/cubiclines/laws.FnExactCubeRoots", spec := "fnExactCubeRoots", apart := false }
def FnExactCubeRootsSaid : Prop := fnExactCubeRootsRow.holds Try.pinned (OpenSpec.ofChange fnExactCubeRootsSpec)

/-- ITS FALSE NEIGHBOUR: 'it returns false'. Refute it at one input. -/
def fnExactCubeRootsWrong : ChangeSpec := { name := "fnExactCubeRoots", fn := fun _ => fun
  | [d] => { results := [.lit (.bool false)], args := [d] }
  | _ => none }
def FnExactCubeRootsWrongFalsely : Prop := fnExactCubeRootsRow.holds Try.pinned (OpenSpec.ofChange fnExactCubeRootsWrong)

/-- 'laws.FnExactCubeForm': WHATEVER THE INPUT: true; the input reads as it did. -/
def fnExactCubeFormSpec : ChangeSpec := { name := "fnExactCubeForm", fn := fun _ => fun
  | [d] => { results := [.lit (.bool true)], args := [d] }
  | _ => none }
def fnExactCubeFormRow : OpenClaim := { program := "ytpmleelfifjcaaa", sum := "0d94427085d54b0fb0e60c854fc815b80ab8e7e800480067d4e200b823cdbf57", func := "loop.example/cubiclines/laws.FnExactCubeForm", spec := "fnExactCubeForm", apart := false }
def FnExactCubeFormSaid : Prop := fnExactCubeFormRow.holds Try.pinned (OpenSpec.ofChange fnExactCubeFormSpec)

/-- ITS FALSE NEIGHBOUR: 'it returns false'. Refute it at one input. -/
def fnExactCubeFormWrong : ChangeSpec := { name := "fnExactCubeForm", fn := fun _ => fun
  | [d] => { results := [.lit (.bool false)], args := [d] }
  | _ => none }
def FnExactCubeFormWrongFalsely : Prop := fnExactCubeFormRow.holds Try.pinned (OpenSpec.ofChange fnExactCubeFormWrong)

/-- 'laws.FnForm': WHATEVER THE INPUT: true; the input reads as it did. -/
def fnFormSpec : ChangeSpec := { name := "fnForm", fn := fun _ => fun
  | [d] => { results := [.lit (.bool true)], args := [d] }
  | _ => none }
def fnFormRow : OpenClaim := { program := "ytpmleelfifjcaaa", sum := "0d94427085d54b0fb0e60c854fc815b80ab8e7e800480067d4e200b823cdbf57", func := "loop.example/cubiclines/laws.FnForm", spec := "fnForm", unfollowed := true, recurses := true, apart := false }
def FnFormSaid : Prop := fnFormRow.holds Try.pinned (OpenSpec.ofChange fnFormSpec)

/-- ITS FALSE NEIGHBOUR: 'it returns false'. Refute it at one input. -/
def fnFormWrong : ChangeSpec := { name := "fnForm", fn := fun _ => fun
  | [d] => { results := [.lit (.bool false)], args := [d] }
  | _ => none }
def FnFormWrongFalsely : Prop := fnFormRow.holds Try.pinned (OpenSpec.ofChange fnFormWrong)

/- THE SECOND FORM. 'bulk': how many values and letters a reading holds, each counted each time it is reached (what is shared counts as often as it is met; a slice's spare places count too). A statement '..UptoSaid' is the law's where the arguments, and the package variables that the reading takes, are together of bulk at most 1048576: NARROWER than '..Said'. Prove '..Said' where nothing that the law and all that it calls make is longer than what came in: it says more and counts as full. Else prove '..UptoSaid'. A law counts once. -/
mutual
def uptoBulk {H : Type} : DataW H → Nat
  | .lit (.string bytes) => bytes.length + 1
  | .lit _ => 1
  | .nil => 1
  | .ptr d => uptoBulk d + 1
  | .slice elems spare => uptoBulkAll elems + uptoBulkAll spare + 1
  | .agg parts => uptoBulkAll parts + 1
  | .iface _ d => uptoBulk d + 1
  | .map entries => uptoBulkEntries entries + 1
  | .held _ => 1
def uptoBulkAll {H : Type} : List (DataW H) → Nat
  | [] => 0
  | d :: r => uptoBulk d + uptoBulkAll r
def uptoBulkEntries {H : Type} : List (Lit × DataW H) → Nat
  | [] => 0
  | x :: r => uptoBulkEntry x + uptoBulkEntries r
def uptoBulkEntry {H : Type} : Lit × DataW H → Nat
  | (.string bytes, d) => bytes.length + uptoBulk d + 1
  | (_, d) => uptoBulk d + 1
 end
def uptoSmall : (H : Type) → List (DataW H) → Bool := fun _ ds => decide (uptoBulkAll ds ≤ 1048576)
def OpenSpec.upto (s : _root_.Go.ChangeSpec) : _root_.Go.OpenSpec := { _root_.Go.OpenSpec.ofChange s with cond := some uptoSmall }

/-- 'laws.FnExactCubeRoots', WHERE WHAT IT READS IS OF BULK AT MOST 1048576: true; the input reads as it did. -/
def fnExactCubeRootsUptoRow : OpenClaim := { program := "ytpmleelfifjcaaa", sum := "0d94427085d54b0fb0e60c854fc815b80ab8e7e800480067d4e200b823cdbf57", func := "loop.example/cubiclines/laws.FnExactCubeRoots", spec := "fnExactCubeRoots", apart := false, narrowed := true }
def FnExactCubeRootsUptoSaid : Prop := fnExactCubeRootsUptoRow.holds Try.pinned (OpenSpec.upto fnExactCubeRootsSpec)

/-- 'laws.FnExactCubeForm', WHERE WHAT IT READS IS OF BULK AT MOST 1048576: true; the input reads as it did. -/
def fnExactCubeFormUptoRow : OpenClaim := { program := "ytpmleelfifjcaaa", sum := "0d94427085d54b0fb0e60c854fc815b80ab8e7e800480067d4e200b823cdbf57", func := "loop.example/cubiclines/laws.FnExactCubeForm", spec := "fnExactCubeForm", apart := false, narrowed := true }
def FnExactCubeFormUptoSaid : Prop := fnExactCubeFormUptoRow.holds Try.pinned (OpenSpec.upto fnExactCubeFormSpec)

/-- 'laws.FnForm', WHERE WHAT IT READS IS OF BULK AT MOST 1048576: true; the input reads as it did. -/
def fnFormUptoRow : OpenClaim := { program := "ytpmleelfifjcaaa", sum := "0d94427085d54b0fb0e60c854fc815b80ab8e7e800480067d4e200b823cdbf57", func := "loop.example/cubiclines/laws.FnForm", spec := "fnForm", unfollowed := true, recurses := true, apart := false, narrowed := true }
def FnFormUptoSaid : Prop := fnFormUptoRow.holds Try.pinned (OpenSpec.upto fnFormSpec)

end Rows
end Go.Proofs.Ytpmleelfifjcaaa
