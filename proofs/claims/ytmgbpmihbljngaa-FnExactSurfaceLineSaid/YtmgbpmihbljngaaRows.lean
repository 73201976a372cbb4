/-
  No cell of these rows narrows 'for every input' (looked for: loops, veiled, ifaces, maps, wideKeys, modest, calm, conditions, laid).
  DERIVED. THE GIVEN ROWS OF THIS SEAT. 10 by the template 'for every input the law returns true; each argument reads behind the call as it read before'; 0 by the template 'total and deterministic' (their statements: YtmgbpmihbljngaaTotals.lean).
  GIVEN WITH THE SEED: the statements are not yours to turn. If you find one false, say at which input.
  Laid BY PROGRAM, IN A SANDBOX (cutbox-rows.mjs): the forced cells as the released guide's own fill.sh prints them over the translation 3c528cdca7aeb7bb… (all of the seat's roots in one cut). By AI agents, Wed Nov 11 2026. No macro, syntax, notation, axiom, sorry.
-/
import Derived.Test.YtmgbpmihbljngaaChecked
import GoSem.Claim
import GoSem.ClaimJoined
import GoSem.ClaimMapViews
import Derived.JoinedTies
import Derived.KernelRfl
namespace Go.Proofs.Ytmgbpmihbljngaa
/- THE CELL 'sum', in the pinned program and in every row, IS THE sha256 OF THE DUMP (.gsa) THAT YtmgbpmihbljngaaProg.lean LOADS. Nothing in Lean hashes anything: it is a label: what it is worth is what the hold of that sum in a sandbox is worth. -/
noncomputable def Try.pinned : Pinned := { name := "ytmgbpmihbljngaa", sum := "3c528cdca7aeb7bbaefc33b62188945bff822016a56b4f1672dd9ab74d3485cc", checked := Try.checked }
namespace Rows
def none {H : Type} : Left H := { results := [], args := [] }

/-- 'laws.FnFormCount': WHATEVER THE INPUT: true; the input reads as it did. -/
def fnFormCountSpec : ChangeSpec := { name := "fnFormCount", fn := fun _ => fun
  | [d] => { results := [.lit (.bool true)], args := [d] }
  | _ => none }
def fnFormCountRow : OpenClaim := { program := "ytmgbpmihbljngaa", sum := "3c528cdca7aeb7bbaefc33b62188945bff822016a56b4f1672dd9ab74d3485cc", func := "loop.example/cubiclines/laws.FnFormCount", spec := "fnFormCount", unfollowed := true, recurses := true, plainKeys := false, apart := false }
def FnFormCountSaid : Prop := fnFormCountRow.holds Try.pinned (OpenSpec.ofChange fnFormCountSpec)

/-- ITS FALSE NEIGHBOUR: 'it returns false'. Refute it at one input. -/
def fnFormCountWrong : ChangeSpec := { name := "fnFormCount", fn := fun _ => fun
  | [d] => { results := [.lit (.bool false)], args := [d] }
  | _ => none }
def FnFormCountWrongFalsely : Prop := fnFormCountRow.holds Try.pinned (OpenSpec.ofChange fnFormCountWrong)

/-- 'laws.FnSmooth': WHATEVER THE INPUT: true; the input reads as it did. -/
def fnSmoothSpec : ChangeSpec := { name := "fnSmooth", fn := fun _ => fun
  | [d] => { results := [.lit (.bool true)], args := [d] }
  | _ => none }
def fnSmoothRow : OpenClaim := { program := "ytmgbpmihbljngaa", sum := "3c528cdca7aeb7bbaefc33b62188945bff822016a56b4f1672dd9ab74d3485cc", func := "loop.example/cubiclines/laws.FnSmooth", spec := "fnSmooth", unfollowed := true, recurses := true, plainKeys := false, apart := false }
def FnSmoothSaid : Prop := fnSmoothRow.holds Try.pinned (OpenSpec.ofChange fnSmoothSpec)

/-- ITS FALSE NEIGHBOUR: 'it returns false'. Refute it at one input. -/
def fnSmoothWrong : ChangeSpec := { name := "fnSmooth", fn := fun _ => fun
  | [d] => { results := [.lit (.bool false)], args := [d] }
  | _ => none }
def FnSmoothWrongFalsely : Prop := fnSmoothRow.holds Try.pinned (OpenSpec.ofChange fnSmoothWrong)

/-- 'laws.FnExactSurfaceOf': WHATEVER THE INPUT: true; the input reads as it did. -/
def fnExactSurfaceOfSpec : ChangeSpec := { name := "fnExactSurfaceOf", fn := fun _ => fun
  | [d1, d2] => { results := [.lit (.bool true)], args := [d1, d2] }
  | _ => none }
def fnExactSurfaceOfRow : OpenClaim := { program := "ytmgbpmihbljngaa", sum := "3c528cdca7aeb7bbaefc33b62188945bff822016a56b4f1672dd9ab74d3485cc", func := "loop.example/cubiclines/laws.FnExactSurfaceOf", spec := "fnExactSurfaceOf", unfollowed := true, recurses := true, plainKeys := false, apart := false }
def FnExactSurfaceOfSaid : Prop := fnExactSurfaceOfRow.holds Try.pinned (OpenSpec.ofChange fnExactSurfaceOfSpec)

/-- ITS FALSE NEIGHBOUR: 'it returns false'. Refute it at one input. -/
def fnExactSurfaceOfWrong : ChangeSpec := { name := "fnExactSurfaceOf", fn := fun _ => fun
  | [d1, d2] => { results := [.lit (.bool false)], args := [d1, d2] }
  | _ => none }
def FnExactSurfaceOfWrongFalsely : Prop := fnExactSurfaceOfRow.holds Try.pinned (OpenSpec.ofChange fnExactSurfaceOfWrong)

/-- 'laws.FnImage': WHATEVER THE INPUT: true; the input reads as it did. -/
def fnImageSpec : ChangeSpec := { name := "fnImage", fn := fun _ => fun
  | [d] => { results := [.lit (.bool true)], args := [d] }
  | _ => none }
def fnImageRow : OpenClaim := { program := "ytmgbpmihbljngaa", sum := "3c528cdca7aeb7bbaefc33b62188945bff822016a56b4f1672dd9ab74d3485cc", func := "loop.example/cubiclines/laws.FnImage", spec := "fnImage", unfollowed := true, recurses := true, plainKeys := false, apart := false }
def FnImageSaid : Prop := fnImageRow.holds Try.pinned (OpenSpec.ofChange fnImageSpec)

/-- ITS FALSE NEIGHBOUR: 'it returns false'. Refute it at one input. -/
def fnImageWrong : ChangeSpec := { name := "fnImage", fn := fun _ => fun
  | [d] => { results := [.lit (.bool false)], args := [d] }
  | _ => none }
def FnImageWrongFalsely : Prop := fnImageRow.holds Try.pinned (OpenSpec.ofChange fnImageWrong)

/-- 'laws.FnExactSurfaceHas': WHATEVER THE INPUT: true; the input reads as it did. -/
def fnExactSurfaceHasSpec : ChangeSpec := { name := "fnExactSurfaceHas", fn := fun _ => fun
  | [d1, d2, d3] => { results := [.lit (.bool true)], args := [d1, d2, d3] }
  | _ => none }
def fnExactSurfaceHasRow : OpenClaim := { program := "ytmgbpmihbljngaa", sum := "3c528cdca7aeb7bbaefc33b62188945bff822016a56b4f1672dd9ab74d3485cc", func := "loop.example/cubiclines/laws.FnExactSurfaceHas", spec := "fnExactSurfaceHas", unfollowed := true, recurses := true, plainKeys := false, apart := false }
def FnExactSurfaceHasSaid : Prop := fnExactSurfaceHasRow.holds Try.pinned (OpenSpec.ofChange fnExactSurfaceHasSpec)

/-- ITS FALSE NEIGHBOUR: 'it returns false'. Refute it at one input. -/
def fnExactSurfaceHasWrong : ChangeSpec := { name := "fnExactSurfaceHas", fn := fun _ => fun
  | [d1, d2, d3] => { results := [.lit (.bool false)], args := [d1, d2, d3] }
  | _ => none }
def FnExactSurfaceHasWrongFalsely : Prop := fnExactSurfaceHasRow.holds Try.pinned (OpenSpec.ofChange fnExactSurfaceHasWrong)

/-- 'laws.FnSurface': WHATEVER THE INPUT: true; the input reads as it did. -/
def fnSurfaceSpec : ChangeSpec := { name := "fnSurface", fn := fun _ => fun
  | [d] => { results := [.lit (.bool true)], args := [d] }
  | _ => none }
def fnSurfaceRow : OpenClaim := { program := "ytmgbpmihbljngaa", sum := "3c528cdca7aeb7bbaefc33b62188945bff822016a56b4f1672dd9ab74d3485cc", func := "loop.example/cubiclines/laws.FnSurface", spec := "fnSurface", unfollowed := true, recurses := true, plainKeys := false, apart := false }
def FnSurfaceSaid : Prop := fnSurfaceRow.holds Try.pinned (OpenSpec.ofChange fnSurfaceSpec)

/-- ITS FALSE NEIGHBOUR: 'it returns false'. Refute it at one input. -/
def fnSurfaceWrong : ChangeSpec := { name := "fnSurface", fn := fun _ => fun
  | [d] => { results := [.lit (.bool false)], args := [d] }
  | _ => none }
def FnSurfaceWrongFalsely : Prop := fnSurfaceRow.holds Try.pinned (OpenSpec.ofChange fnSurfaceWrong)

/-- 'laws.FnHas': WHATEVER THE INPUT: true; the input reads as it did. -/
def fnHasSpec : ChangeSpec := { name := "fnHas", fn := fun _ => fun
  | [d] => { results := [.lit (.bool true)], args := [d] }
  | _ => none }
def fnHasRow : OpenClaim := { program := "ytmgbpmihbljngaa", sum := "3c528cdca7aeb7bbaefc33b62188945bff822016a56b4f1672dd9ab74d3485cc", func := "loop.example/cubiclines/laws.FnHas", spec := "fnHas", unfollowed := true, recurses := true, plainKeys := false, apart := false }
def FnHasSaid : Prop := fnHasRow.holds Try.pinned (OpenSpec.ofChange fnHasSpec)

/-- ITS FALSE NEIGHBOUR: 'it returns false'. Refute it at one input. -/
def fnHasWrong : ChangeSpec := { name := "fnHas", fn := fun _ => fun
  | [d] => { results := [.lit (.bool false)], args := [d] }
  | _ => none }
def FnHasWrongFalsely : Prop := fnHasRow.holds Try.pinned (OpenSpec.ofChange fnHasWrong)

/-- 'laws.FnExactSurfaceLine': WHATEVER THE INPUT: true; the input reads as it did. -/
def fnExactSurfaceLineSpec : ChangeSpec := { name := "fnExactSurfaceLine", fn := fun _ => fun
  | [d1, d2, d3] => { results := [.lit (.bool true)], args := [d1, d2, d3] }
  | _ => none }
def fnExactSurfaceLineRow : OpenClaim := { program := "ytmgbpmihbljngaa", sum := "3c528cdca7aeb7bbaefc33b62188945bff822016a56b4f1672dd9ab74d3485cc", func := "loop.example/cubiclines/laws.FnExactSurfaceLine", spec := "fnExactSurfaceLine", unfollowed := true, recurses := true, plainKeys := false, apart := false }
def FnExactSurfaceLineSaid : Prop := fnExactSurfaceLineRow.holds Try.pinned (OpenSpec.ofChange fnExactSurfaceLineSpec)

/-- ITS FALSE NEIGHBOUR: 'it returns false'. Refute it at one input. -/
def fnExactSurfaceLineWrong : ChangeSpec := { name := "fnExactSurfaceLine", fn := fun _ => fun
  | [d1, d2, d3] => { results := [.lit (.bool false)], args := [d1, d2, d3] }
  | _ => none }
def FnExactSurfaceLineWrongFalsely : Prop := fnExactSurfaceLineRow.holds Try.pinned (OpenSpec.ofChange fnExactSurfaceLineWrong)

/-- 'laws.FnWhole': WHATEVER THE INPUT: true; the input reads as it did. -/
def fnWholeSpec : ChangeSpec := { name := "fnWhole", fn := fun _ => fun
  | [d] => { results := [.lit (.bool true)], args := [d] }
  | _ => none }
def fnWholeRow : OpenClaim := { program := "ytmgbpmihbljngaa", sum := "3c528cdca7aeb7bbaefc33b62188945bff822016a56b4f1672dd9ab74d3485cc", func := "loop.example/cubiclines/laws.FnWhole", spec := "fnWhole", unfollowed := true, recurses := true, plainKeys := false, apart := false }
def FnWholeSaid : Prop := fnWholeRow.holds Try.pinned (OpenSpec.ofChange fnWholeSpec)

/-- ITS FALSE NEIGHBOUR: 'it returns false'. Refute it at one input. -/
def fnWholeWrong : ChangeSpec := { name := "fnWhole", fn := fun _ => fun
  | [d] => { results := [.lit (.bool false)], args := [d] }
  | _ => none }
def FnWholeWrongFalsely : Prop := fnWholeRow.holds Try.pinned (OpenSpec.ofChange fnWholeWrong)

/-- 'laws.FnSurfaceLine': WHATEVER THE INPUT: true; the input reads as it did. -/
def fnSurfaceLineSpec : ChangeSpec := { name := "fnSurfaceLine", fn := fun _ => fun
  | [d] => { results := [.lit (.bool true)], args := [d] }
  | _ => none }
def fnSurfaceLineRow : OpenClaim := { program := "ytmgbpmihbljngaa", sum := "3c528cdca7aeb7bbaefc33b62188945bff822016a56b4f1672dd9ab74d3485cc", func := "loop.example/cubiclines/laws.FnSurfaceLine", spec := "fnSurfaceLine", unfollowed := true, recurses := true, plainKeys := false, apart := false }
def FnSurfaceLineSaid : Prop := fnSurfaceLineRow.holds Try.pinned (OpenSpec.ofChange fnSurfaceLineSpec)

/-- ITS FALSE NEIGHBOUR: 'it returns false'. Refute it at one input. -/
def fnSurfaceLineWrong : ChangeSpec := { name := "fnSurfaceLine", fn := fun _ => fun
  | [d] => { results := [.lit (.bool false)], args := [d] }
  | _ => none }
def FnSurfaceLineWrongFalsely : Prop := fnSurfaceLineRow.holds Try.pinned (OpenSpec.ofChange fnSurfaceLineWrong)

/- THE SECOND FORM. 'bulk': how many values and letters a reading holds, each counted each time it is reached (what is shared counts as often as it is met; a slice's spare places count too). A statement '..UptoSaid' is the law's where the arguments, and the package variables that the reading takes, are together of bulk at most 1048576: NARROWER than '..Said'. Prove '..Said' where nothing that the law and all that it calls make is longer than what came in: it says more and counts as full. Else prove '..UptoSaid'. A law counts once. -/
mutual
def uptoBulk {H : Type} : DataW H → Nat
  | .lit (.string bytes) => bytes.length + 1
  | .lit _ => 1
  | .nil => 1
  | .ptr d => uptoBulk d + 1
  | .slice elems spare => uptoBulkAll elems + uptoBulkAll spare + 1
  | .agg parts => uptoBulkAll parts + 1
  | .iface _ d => uptoBulk d + 1
  | .map entries => uptoBulkEntries entries + 1
  | .held _ => 1
def uptoBulkAll {H : Type} : List (DataW H) → Nat
  | [] => 0
  | d :: r => uptoBulk d + uptoBulkAll r
def uptoBulkEntries {H : Type} : List (Lit × DataW H) → Nat
  | [] => 0
  | x :: r => uptoBulkEntry x + uptoBulkEntries r
def uptoBulkEntry {H : Type} : Lit × DataW H → Nat
  | (.string bytes, d) => bytes.length + uptoBulk d + 1
  | (_, d) => uptoBulk d + 1
 end
def uptoSmall : (H : Type) → List (DataW H) → Bool := fun _ ds => decide (uptoBulkAll ds ≤ 1048576)
def OpenSpec.upto (s : _root_.Go.ChangeSpec) : _root_.Go.OpenSpec := { _root_.Go.OpenSpec.ofChange s with cond := some uptoSmall }

/-- 'laws.FnFormCount', WHERE WHAT IT READS IS OF BULK AT MOST 1048576: true; the input reads as it did. -/
def fnFormCountUptoRow : OpenClaim := { program := "ytmgbpmihbljngaa", sum := "3c528cdca7aeb7bbaefc33b62188945bff822016a56b4f1672dd9ab74d3485cc", func := "loop.example/cubiclines/laws.FnFormCount", spec := "fnFormCount", unfollowed := true, recurses := true, plainKeys := false, apart := false, narrowed := true }
def FnFormCountUptoSaid : Prop := fnFormCountUptoRow.holds Try.pinned (OpenSpec.upto fnFormCountSpec)

/-- 'laws.FnSmooth', WHERE WHAT IT READS IS OF BULK AT MOST 1048576: true; the input reads as it did. -/
def fnSmoothUptoRow : OpenClaim := { program := "ytmgbpmihbljngaa", sum := "3c528cdca7aeb7bbaefc33b62188945bff822016a56b4f1672dd9ab74d3485cc", func := "loop.example/cubiclines/laws.FnSmooth", spec := "fnSmooth", unfollowed := true, recurses := true, plainKeys := false, apart := false, narrowed := true }
def FnSmoothUptoSaid : Prop := fnSmoothUptoRow.holds Try.pinned (OpenSpec.upto fnSmoothSpec)

/-- 'laws.FnExactSurfaceOf', WHERE WHAT IT READS IS OF BULK AT MOST 1048576: true; the input reads as it did. -/
def fnExactSurfaceOfUptoRow : OpenClaim := { program := "ytmgbpmihbljngaa", sum := "3c528cdca7aeb7bbaefc33b62188945bff822016a56b4f1672dd9ab74d3485cc", func := "loop.example/cubiclines/laws.FnExactSurfaceOf", spec := "fnExactSurfaceOf", unfollowed := true, recurses := true, plainKeys := false, apart := false, narrowed := true }
def FnExactSurfaceOfUptoSaid : Prop := fnExactSurfaceOfUptoRow.holds Try.pinned (OpenSpec.upto fnExactSurfaceOfSpec)

/-- 'laws.FnImage', WHERE WHAT IT READS IS OF BULK AT MOST 1048576: true; the input reads as it did. -/
def fnImageUptoRow : OpenClaim := { program := "ytmgbpmihbljngaa", sum := "3c528cdca7aeb7bbaefc33b62188945bff822016a56b4f1672dd9ab74d3485cc", func := "loop.example/cubiclines/laws.FnImage", spec := "fnImage", unfollowed := true, recurses := true, plainKeys := false, apart := false, narrowed := true }
def FnImageUptoSaid : Prop := fnImageUptoRow.holds Try.pinned (OpenSpec.upto fnImageSpec)

/-- 'laws.FnExactSurfaceHas', WHERE WHAT IT READS IS OF BULK AT MOST 1048576: true; the input reads as it did. -/
def fnExactSurfaceHasUptoRow : OpenClaim := { program := "ytmgbpmihbljngaa", sum := "3c528cdca7aeb7bbaefc33b62188945bff822016a56b4f1672dd9ab74d3485cc", func := "loop.example/cubiclines/laws.FnExactSurfaceHas", spec := "fnExactSurfaceHas", unfollowed := true, recurses := true, plainKeys := false, apart := false, narrowed := true }
def FnExactSurfaceHasUptoSaid : Prop := fnExactSurfaceHasUptoRow.holds Try.pinned (OpenSpec.upto fnExactSurfaceHasSpec)

/-- 'laws.FnSurface', WHERE WHAT IT READS IS OF BULK AT MOST 1048576: true; the input reads as it did. -/
def fnSurfaceUptoRow : OpenClaim := { program := "ytmgbpmihbljngaa", sum := "3c528cdca7aeb7bbaefc33b62188945bff822016a56b4f1672dd9ab74d3485cc", func := "loop.example/cubiclines/laws.FnSurface", spec := "fnSurface", unfollowed := true, recurses := true, plainKeys := false, apart := false, narrowed := true }
def FnSurfaceUptoSaid : Prop := fnSurfaceUptoRow.holds Try.pinned (OpenSpec.upto fnSurfaceSpec)

/-- 'laws.FnHas', WHERE WHAT IT READS IS OF BULK AT MOST 1048576: true; the input reads as it did. -/
def fnHasUptoRow : OpenClaim := { program := "ytmgbpmihbljngaa", sum := "3c528cdca7aeb7bbaefc33b62188945bff822016a56b4f1672dd9ab74d3485cc", func := "loop.example/cubiclines/laws.FnHas", spec := "fnHas", unfollowed := true, recurses := true, plainKeys := false, apart := false, narrowed := true }
def FnHasUptoSaid : Prop := fnHasUptoRow.holds Try.pinned (OpenSpec.upto fnHasSpec)

/-- 'laws.FnExactSurfaceLine', WHERE WHAT IT READS IS OF BULK AT MOST 1048576: true; the input reads as it did. -/
def fnExactSurfaceLineUptoRow : OpenClaim := { program := "ytmgbpmihbljngaa", sum := "3c528cdca7aeb7bbaefc33b62188945bff822016a56b4f1672dd9ab74d3485cc", func := "loop.example/cubiclines/laws.FnExactSurfaceLine", spec := "fnExactSurfaceLine", unfollowed := true, recurses := true, plainKeys := false, apart := false, narrowed := true }
def FnExactSurfaceLineUptoSaid : Prop := fnExactSurfaceLineUptoRow.holds Try.pinned (OpenSpec.upto fnExactSurfaceLineSpec)

/-- 'laws.FnWhole', WHERE WHAT IT READS IS OF BULK AT MOST 1048576: true; the input reads as it did. -/
def fnWholeUptoRow : OpenClaim := { program := "ytmgbpmihbljngaa", sum := "3c528cdca7aeb7bbaefc33b62188945bff822016a56b4f1672dd9ab74d3485cc", func := "loop.example/cubiclines/laws.FnWhole", spec := "fnWhole", unfollowed := true, recurses := true, plainKeys := false, apart := false, narrowed := true }
def FnWholeUptoSaid : Prop := fnWholeUptoRow.holds Try.pinned (OpenSpec.upto fnWholeSpec)

/-- 'laws.FnSurfaceLine', WHERE WHAT IT READS IS OF BULK AT MOST 1048576: true; the input reads as it did. -/
def fnSurfaceLineUptoRow : OpenClaim := { program := "ytmgbpmihbljngaa", sum := "3c528cdca7aeb7bbaefc33b62188945bff822016a56b4f1672dd9ab74d3485cc", func := "loop.example/cubiclines/laws.FnSurfaceLine", spec := "fnSurfaceLine", unfollowed := true, recurses := true, plainKeys := false, apart := false, narrowed := true }
def FnSurfaceLineUptoSaid : Prop := fnSurfaceLineUptoRow.holds Try.pinned (OpenSpec.upto fnSurfaceLineSpec)

end Rows
end Go.Proofs.Ytmgbpmihbljngaa
