/-
  No cell of these rows narrows 'for every input' (looked for: loops, veiled, ifaces, maps, wideKeys, modest, calm, conditions, laid).
  DERIVED. THE GIVEN ROWS OF THIS SEAT. 6 by the template 'for every input the law returns true; each argument reads behind the call as it read before'; 0 by the template 'total and deterministic' (their statements: YtllomopjoomdiaaGreatTotals.lean).
  GIVEN WITH THE SEED: the statements are not yours to turn. If you find one false, say at which input.
  Laid BY PROGRAM, IN A SANDBOX (cutbox-rows.mjs): the forced cells as the released guide's own fill.sh prints them over the translation 97f971fa4840dd17… (all of the seat's roots in one cut). By AI agents, Wed Nov 11 2026. No macro, syntax, notation, axiom, sorry.
-/
import Derived.Test.YtllomopjoomdiaaGreatChecked
import GoSem.Claim
import GoSem.ClaimJoined
import GoSem.ClaimMapViews
import Derived.JoinedTies
import Derived.KernelRfl
namespace Go.Proofs.YtllomopjoomdiaaGreat
/- THE CELL 'sum', in the pinned program and in every row, IS THE sha256 OF THE DUMP (.gsa) THAT YtllomopjoomdiaaGreatProg.lean LOADS. Nothing in Lean hashes anything: it is a label: what it is worth is what the hold of that sum in a sandbox is worth. -/
noncomputable def Tryz.pinned : Pinned := { name := "ytllomopjoomdiaagreat", sum := "97f971fa4840dd179bb81739d1a829ac05a70e82a59537a3ca152a7f02de40e3", checked := Tryz.checked }
namespace Rows
def none {H : Type} : Left H := { results := [], args := [] }

/-- 'undercroftlaw28.ModelTwo': WHATEVER THE INPUT: true; the input reads as it did. -/
def modelTwoSpec : ChangeSpec := { name := "modelTwo", fn := fun _ => fun
  | [d1, d2, d3, d4] => { results := [.lit (.bool true)], args := [d1, d2, d3, d4] }
  | _ => none }
def modelTwoRow : OpenClaim := { program := "ytllomopjoomdiaagreat", sum := "97f971fa4840dd179bb81739d1a829ac05a70e82a59537a3ca152a7f02de40e3", func := "undercroft/undercroftlaw28.ModelTwo", spec := "modelTwo", inPlace := ["internal/reflectlite.ValueOf", "internal/reflectlite.Swapper", "(internal/reflectlite.Value).Len"], unfollowed := true, recurses := true, apart := false }
def ModelTwoSaid : Prop := modelTwoRow.holds Tryz.pinned (OpenSpec.ofChange modelTwoSpec)

/-- ITS FALSE NEIGHBOUR: 'it returns false'. Refute it at one input. -/
def modelTwoWrong : ChangeSpec := { name := "modelTwo", fn := fun _ => fun
  | [d1, d2, d3, d4] => { results := [.lit (.bool false)], args := [d1, d2, d3, d4] }
  | _ => none }
def ModelTwoWrongFalsely : Prop := modelTwoRow.holds Tryz.pinned (OpenSpec.ofChange modelTwoWrong)

/-- 'undercroftlaw28.ModelScript': WHATEVER THE INPUT: true; the input reads as it did. -/
def modelScriptSpec : ChangeSpec := { name := "modelScript", fn := fun _ => fun
  | [d1, d2] => { results := [.lit (.bool true)], args := [d1, d2] }
  | _ => none }
def modelScriptRow : OpenClaim := { program := "ytllomopjoomdiaagreat", sum := "97f971fa4840dd179bb81739d1a829ac05a70e82a59537a3ca152a7f02de40e3", func := "undercroft/undercroftlaw28.ModelScript", spec := "modelScript", inPlace := ["internal/reflectlite.ValueOf", "internal/reflectlite.Swapper", "(internal/reflectlite.Value).Len"], unfollowed := true, recurses := true, apart := false }
def ModelScriptSaid : Prop := modelScriptRow.holds Tryz.pinned (OpenSpec.ofChange modelScriptSpec)

/-- ITS FALSE NEIGHBOUR: 'it returns false'. Refute it at one input. -/
def modelScriptWrong : ChangeSpec := { name := "modelScript", fn := fun _ => fun
  | [d1, d2] => { results := [.lit (.bool false)], args := [d1, d2] }
  | _ => none }
def ModelScriptWrongFalsely : Prop := modelScriptRow.holds Tryz.pinned (OpenSpec.ofChange modelScriptWrong)

/-- 'undercroftlaw28.ModelNone': WHATEVER THE INPUT: true; the input reads as it did. -/
def modelNoneSpec : ChangeSpec := { name := "modelNone", fn := fun _ => fun
  | [d] => { results := [.lit (.bool true)], args := [d] }
  | _ => none }
def modelNoneRow : OpenClaim := { program := "ytllomopjoomdiaagreat", sum := "97f971fa4840dd179bb81739d1a829ac05a70e82a59537a3ca152a7f02de40e3", func := "undercroft/undercroftlaw28.ModelNone", spec := "modelNone", inPlace := ["internal/reflectlite.ValueOf", "internal/reflectlite.Swapper", "(internal/reflectlite.Value).Len"], unfollowed := true, recurses := true, apart := false }
def ModelNoneSaid : Prop := modelNoneRow.holds Tryz.pinned (OpenSpec.ofChange modelNoneSpec)

/-- ITS FALSE NEIGHBOUR: 'it returns false'. Refute it at one input. -/
def modelNoneWrong : ChangeSpec := { name := "modelNone", fn := fun _ => fun
  | [d] => { results := [.lit (.bool false)], args := [d] }
  | _ => none }
def ModelNoneWrongFalsely : Prop := modelNoneRow.holds Tryz.pinned (OpenSpec.ofChange modelNoneWrong)

/-- 'undercroftlaw28.ModelFrom': WHATEVER THE INPUT: true; the input reads as it did. -/
def modelFromSpec : ChangeSpec := { name := "modelFrom", fn := fun _ => fun
  | [d1, d2, d3] => { results := [.lit (.bool true)], args := [d1, d2, d3] }
  | _ => none }
def modelFromRow : OpenClaim := { program := "ytllomopjoomdiaagreat", sum := "97f971fa4840dd179bb81739d1a829ac05a70e82a59537a3ca152a7f02de40e3", func := "undercroft/undercroftlaw28.ModelFrom", spec := "modelFrom", inPlace := ["internal/reflectlite.ValueOf", "internal/reflectlite.Swapper", "(internal/reflectlite.Value).Len"], unfollowed := true, recurses := true, apart := false }
def ModelFromSaid : Prop := modelFromRow.holds Tryz.pinned (OpenSpec.ofChange modelFromSpec)

/-- ITS FALSE NEIGHBOUR: 'it returns false'. Refute it at one input. -/
def modelFromWrong : ChangeSpec := { name := "modelFrom", fn := fun _ => fun
  | [d1, d2, d3] => { results := [.lit (.bool false)], args := [d1, d2, d3] }
  | _ => none }
def ModelFromWrongFalsely : Prop := modelFromRow.holds Tryz.pinned (OpenSpec.ofChange modelFromWrong)

/-- 'undercroftlaw28.ModelTwin': WHATEVER THE INPUT: true; the input reads as it did. -/
def modelTwinSpec : ChangeSpec := { name := "modelTwin", fn := fun _ => fun
  | [d1, d2, d3] => { results := [.lit (.bool true)], args := [d1, d2, d3] }
  | _ => none }
def modelTwinRow : OpenClaim := { program := "ytllomopjoomdiaagreat", sum := "97f971fa4840dd179bb81739d1a829ac05a70e82a59537a3ca152a7f02de40e3", func := "undercroft/undercroftlaw28.ModelTwin", spec := "modelTwin", inPlace := ["internal/reflectlite.ValueOf", "internal/reflectlite.Swapper", "(internal/reflectlite.Value).Len"], unfollowed := true, recurses := true, apart := false }
def ModelTwinSaid : Prop := modelTwinRow.holds Tryz.pinned (OpenSpec.ofChange modelTwinSpec)

/-- ITS FALSE NEIGHBOUR: 'it returns false'. Refute it at one input. -/
def modelTwinWrong : ChangeSpec := { name := "modelTwin", fn := fun _ => fun
  | [d1, d2, d3] => { results := [.lit (.bool false)], args := [d1, d2, d3] }
  | _ => none }
def ModelTwinWrongFalsely : Prop := modelTwinRow.holds Tryz.pinned (OpenSpec.ofChange modelTwinWrong)

/-- 'undercroftlaw28.ModelRight': WHATEVER THE INPUT: true; the input reads as it did. -/
def modelRightSpec : ChangeSpec := { name := "modelRight", fn := fun _ => fun
  | [d1, d2] => { results := [.lit (.bool true)], args := [d1, d2] }
  | _ => none }
def modelRightRow : OpenClaim := { program := "ytllomopjoomdiaagreat", sum := "97f971fa4840dd179bb81739d1a829ac05a70e82a59537a3ca152a7f02de40e3", func := "undercroft/undercroftlaw28.ModelRight", spec := "modelRight", inPlace := ["internal/reflectlite.ValueOf", "internal/reflectlite.Swapper", "(internal/reflectlite.Value).Len"], unfollowed := true, recurses := true, apart := false }
def ModelRightSaid : Prop := modelRightRow.holds Tryz.pinned (OpenSpec.ofChange modelRightSpec)

/-- ITS FALSE NEIGHBOUR: 'it returns false'. Refute it at one input. -/
def modelRightWrong : ChangeSpec := { name := "modelRight", fn := fun _ => fun
  | [d1, d2] => { results := [.lit (.bool false)], args := [d1, d2] }
  | _ => none }
def ModelRightWrongFalsely : Prop := modelRightRow.holds Tryz.pinned (OpenSpec.ofChange modelRightWrong)

/- THE SECOND FORM. 'bulk': how many values and letters a reading holds, each counted each time it is reached (what is shared counts as often as it is met; a slice's spare places count too). A statement '..UptoSaid' is the law's where the arguments, and the package variables that the reading takes, are together of bulk at most 1048576: NARROWER than '..Said'. Prove '..Said' where nothing that the law and all that it calls make is longer than what came in: it says more and counts as full. Else prove '..UptoSaid'. A law counts once. -/
mutual
def uptoBulk {H : Type} : DataW H → Nat
  | .lit (.string bytes) => bytes.length + 1
  | .lit _ => 1
  | .nil => 1
  | .ptr d => uptoBulk d + 1
  | .slice elems spare => uptoBulkAll elems + uptoBulkAll spare + 1
  | .agg parts => uptoBulkAll parts + 1
  | .iface _ d => uptoBulk d + 1
  | .map entries => uptoBulkEntries entries + 1
  | .held _ => 1
def uptoBulkAll {H : Type} : List (DataW H) → Nat
  | [] => 0
  | d :: r => uptoBulk d + uptoBulkAll r
def uptoBulkEntries {H : Type} : List (Lit × DataW H) → Nat
  | [] => 0
  | x :: r => uptoBulkEntry x + uptoBulkEntries r
def uptoBulkEntry {H : Type} : Lit × DataW H → Nat
  | (.string bytes, d) => bytes.length + uptoBulk d + 1
  | (_, d) => uptoBulk d + 1
 end
def uptoSmall : (H : Type) → List (DataW H) → Bool := fun _ ds => decide (uptoBulkAll ds ≤ 1048576)
def OpenSpec.upto (s : _root_.Go.ChangeSpec) : _root_.Go.OpenSpec := { _root_.Go.OpenSpec.ofChange s with cond := some uptoSmall }

/-- 'undercroftlaw28.ModelTwo', WHERE WHAT IT READS IS OF BULK AT MOST 1048576: true; the input reads as it did. -/
def modelTwoUptoRow : OpenClaim := { program := "ytllomopjoomdiaagreat", sum := "97f971fa4840dd179bb81739d1a829ac05a70e82a59537a3ca152a7f02de40e3", func := "undercroft/undercroftlaw28.ModelTwo", spec := "modelTwo", inPlace := ["internal/reflectlite.ValueOf", "internal/reflectlite.Swapper", "(internal/reflectlite.Value).Len"], unfollowed := true, recurses := true, apart := false, narrowed := true }
def ModelTwoUptoSaid : Prop := modelTwoUptoRow.holds Tryz.pinned (OpenSpec.upto modelTwoSpec)

/-- 'undercroftlaw28.ModelScript', WHERE WHAT IT READS IS OF BULK AT MOST 1048576: true; the input reads as it did. -/
def modelScriptUptoRow : OpenClaim := { program := "ytllomopjoomdiaagreat", sum := "97f971fa4840dd179bb81739d1a829ac05a70e82a59537a3ca152a7f02de40e3", func := "undercroft/undercroftlaw28.ModelScript", spec := "modelScript", inPlace := ["internal/reflectlite.ValueOf", "internal/reflectlite.Swapper", "(internal/reflectlite.Value).Len"], unfollowed := true, recurses := true, apart := false, narrowed := true }
def ModelScriptUptoSaid : Prop := modelScriptUptoRow.holds Tryz.pinned (OpenSpec.upto modelScriptSpec)

/-- 'undercroftlaw28.ModelNone', WHERE WHAT IT READS IS OF BULK AT MOST 1048576: true; the input reads as it did. -/
def modelNoneUptoRow : OpenClaim := { program := "ytllomopjoomdiaagreat", sum := "97f971fa4840dd179bb81739d1a829ac05a70e82a59537a3ca152a7f02de40e3", func := "undercroft/undercroftlaw28.ModelNone", spec := "modelNone", inPlace := ["internal/reflectlite.ValueOf", "internal/reflectlite.Swapper", "(internal/reflectlite.Value).Len"], unfollowed := true, recurses := true, apart := false, narrowed := true }
def ModelNoneUptoSaid : Prop := modelNoneUptoRow.holds Tryz.pinned (OpenSpec.upto modelNoneSpec)

/-- 'undercroftlaw28.ModelFrom', WHERE WHAT IT READS IS OF BULK AT MOST 1048576: true; the input reads as it did. -/
def modelFromUptoRow : OpenClaim := { program := "ytllomopjoomdiaagreat", sum := "97f971fa4840dd179bb81739d1a829ac05a70e82a59537a3ca152a7f02de40e3", func := "undercroft/undercroftlaw28.ModelFrom", spec := "modelFrom", inPlace := ["internal/reflectlite.ValueOf", "internal/reflectlite.Swapper", "(internal/reflectlite.Value).Len"], unfollowed := true, recurses := true, apart := false, narrowed := true }
def ModelFromUptoSaid : Prop := modelFromUptoRow.holds Tryz.pinned (OpenSpec.upto modelFromSpec)

/-- 'undercroftlaw28.ModelTwin', WHERE WHAT IT READS IS OF BULK AT MOST 1048576: true; the input reads as it did. -/
def modelTwinUptoRow : OpenClaim := { program := "ytllomopjoomdiaagreat", sum := "97f971fa4840dd179bb81739d1a829ac05a70e82a59537a3ca152a7f02de40e3", func := "undercroft/undercroftlaw28.ModelTwin", spec := "modelTwin", inPlace := ["internal/reflectlite.ValueOf", "internal/reflectlite.Swapper", "(internal/reflectlite.Value).Len"], unfollowed := true, recurses := true, apart := false, narrowed := true }
def ModelTwinUptoSaid : Prop := modelTwinUptoRow.holds Tryz.pinned (OpenSpec.upto modelTwinSpec)

/-- 'undercroftlaw28.ModelRight', WHERE WHAT IT READS IS OF BULK AT MOST 1048576: true; the input reads as it did. -/
def modelRightUptoRow : OpenClaim := { program := "ytllomopjoomdiaagreat", sum := "97f971fa4840dd179bb81739d1a829ac05a70e82a59537a3ca152a7f02de40e3", func := "undercroft/undercroftlaw28.ModelRight", spec := "modelRight", inPlace := ["internal/reflectlite.ValueOf", "internal/reflectlite.Swapper", "(internal/reflectlite.Value).Len"], unfollowed := true, recurses := true, apart := false, narrowed := true }
def ModelRightUptoSaid : Prop := modelRightUptoRow.holds Tryz.pinned (OpenSpec.upto modelRightSpec)

end Rows
end Go.Proofs.YtllomopjoomdiaaGreat
