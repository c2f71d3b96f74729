/-
  No cell of these rows narrows 'for every input' (looked for: loops, veiled, ifaces, maps, wideKeys, modest, calm, conditions, laid).
  DERIVED. THE GIVEN ROWS OF THIS SEAT. 6 by the template 'for every input the law returns true; each argument reads behind the call as it read before'; 0 by the template 'total and deterministic' (their statements: YtbefcdidlfkmnaaTotals.lean).
  GIVEN WITH THE SEED: the statements are not yours to turn. If you find one false, say at which input.
  Laid BY PROGRAM, IN A SANDBOX (cutbox-rows.mjs): the forced cells as the released guide's own fill.sh prints them over the translation 9775117b6590b47f… (all of the seat's roots in one cut). By AI agents, Wed Nov 11 2026. No macro, syntax, notation, axiom, sorry.
-/
import Derived.Test.YtbefcdidlfkmnaaChecked
import GoSem.Claim
import GoSem.ClaimJoined
import GoSem.ClaimMapViews
import Derived.JoinedTies
import Derived.KernelRfl
namespace Go.Proofs.Ytbefcdidlfkmnaa
/- THE CELL 'sum', in the pinned program and in every row, IS THE sha256 OF THE DUMP (.gsa) THAT YtbefcdidlfkmnaaProg.lean LOADS. Nothing in Lean hashes anything: it is a label: what it is worth is what the hold of that sum in a sandbox is worth. -/
noncomputable def Try.pinned : Pinned := { name := "ytbefcdidlfkmnaa", sum := "9775117b6590b47ff774d0ef9b22f1ec83902a55085a5026a541a6482590abbc", checked := Try.checked }
namespace Rows
def none {H : Type} : Left H := { results := [], args := [] }

/-- 'fluxionlaw11.OpChecks': WHATEVER THE INPUT: true; the input reads as it did. -/
def opChecksSpec : ChangeSpec := { name := "opChecks", fn := fun _ => fun
  | [d1, d2] => { results := [.lit (.bool true)], args := [d1, d2] }
  | _ => none }
def opChecksRow : OpenClaim := { program := "ytbefcdidlfkmnaa", sum := "9775117b6590b47ff774d0ef9b22f1ec83902a55085a5026a541a6482590abbc", func := "fluxion/fluxionlaw11.OpChecks", spec := "opChecks", unfollowed := true, recurses := true, apart := false }
def OpChecksSaid : Prop := opChecksRow.holds Try.pinned (OpenSpec.ofChange opChecksSpec)

/-- ITS FALSE NEIGHBOUR: 'it returns false'. Refute it at one input. -/
def opChecksWrong : ChangeSpec := { name := "opChecks", fn := fun _ => fun
  | [d1, d2] => { results := [.lit (.bool false)], args := [d1, d2] }
  | _ => none }
def OpChecksWrongFalsely : Prop := opChecksRow.holds Try.pinned (OpenSpec.ofChange opChecksWrong)

/-- 'fluxionlaw11.OpExplicit': WHATEVER THE INPUT: true; the input reads as it did. -/
def opExplicitSpec : ChangeSpec := { name := "opExplicit", fn := fun _ => fun
  | [d1, d2, d3] => { results := [.lit (.bool true)], args := [d1, d2, d3] }
  | _ => none }
def opExplicitRow : OpenClaim := { program := "ytbefcdidlfkmnaa", sum := "9775117b6590b47ff774d0ef9b22f1ec83902a55085a5026a541a6482590abbc", func := "fluxion/fluxionlaw11.OpExplicit", spec := "opExplicit", unfollowed := true, recurses := true, apart := false }
def OpExplicitSaid : Prop := opExplicitRow.holds Try.pinned (OpenSpec.ofChange opExplicitSpec)

/-- ITS FALSE NEIGHBOUR: 'it returns false'. Refute it at one input. -/
def opExplicitWrong : ChangeSpec := { name := "opExplicit", fn := fun _ => fun
  | [d1, d2, d3] => { results := [.lit (.bool false)], args := [d1, d2, d3] }
  | _ => none }
def OpExplicitWrongFalsely : Prop := opExplicitRow.holds Try.pinned (OpenSpec.ofChange opExplicitWrong)

/-- 'fluxionlaw11.OpOnward': WHATEVER THE INPUT: true; the input reads as it did. -/
def opOnwardSpec : ChangeSpec := { name := "opOnward", fn := fun _ => fun
  | [d1, d2, d3] => { results := [.lit (.bool true)], args := [d1, d2, d3] }
  | _ => none }
def opOnwardRow : OpenClaim := { program := "ytbefcdidlfkmnaa", sum := "9775117b6590b47ff774d0ef9b22f1ec83902a55085a5026a541a6482590abbc", func := "fluxion/fluxionlaw11.OpOnward", spec := "opOnward", unfollowed := true, recurses := true, apart := false }
def OpOnwardSaid : Prop := opOnwardRow.holds Try.pinned (OpenSpec.ofChange opOnwardSpec)

/-- ITS FALSE NEIGHBOUR: 'it returns false'. Refute it at one input. -/
def opOnwardWrong : ChangeSpec := { name := "opOnward", fn := fun _ => fun
  | [d1, d2, d3] => { results := [.lit (.bool false)], args := [d1, d2, d3] }
  | _ => none }
def OpOnwardWrongFalsely : Prop := opOnwardRow.holds Try.pinned (OpenSpec.ofChange opOnwardWrong)

/-- 'fluxionlaw11.OpVersions': WHATEVER THE INPUT: true; the input reads as it did. -/
def opVersionsSpec : ChangeSpec := { name := "opVersions", fn := fun _ => fun
  | [d1, d2] => { results := [.lit (.bool true)], args := [d1, d2] }
  | _ => none }
def opVersionsRow : OpenClaim := { program := "ytbefcdidlfkmnaa", sum := "9775117b6590b47ff774d0ef9b22f1ec83902a55085a5026a541a6482590abbc", func := "fluxion/fluxionlaw11.OpVersions", spec := "opVersions", unfollowed := true, recurses := true, apart := false }
def OpVersionsSaid : Prop := opVersionsRow.holds Try.pinned (OpenSpec.ofChange opVersionsSpec)

/-- ITS FALSE NEIGHBOUR: 'it returns false'. Refute it at one input. -/
def opVersionsWrong : ChangeSpec := { name := "opVersions", fn := fun _ => fun
  | [d1, d2] => { results := [.lit (.bool false)], args := [d1, d2] }
  | _ => none }
def OpVersionsWrongFalsely : Prop := opVersionsRow.holds Try.pinned (OpenSpec.ofChange opVersionsWrong)

/-- 'fluxionlaw11.OpNames': WHATEVER THE INPUT: true; the input reads as it did. -/
def opNamesSpec : ChangeSpec := { name := "opNames", fn := fun _ => fun
  | [d1, d2] => { results := [.lit (.bool true)], args := [d1, d2] }
  | _ => none }
def opNamesRow : OpenClaim := { program := "ytbefcdidlfkmnaa", sum := "9775117b6590b47ff774d0ef9b22f1ec83902a55085a5026a541a6482590abbc", func := "fluxion/fluxionlaw11.OpNames", spec := "opNames", unfollowed := true, recurses := true, apart := false }
def OpNamesSaid : Prop := opNamesRow.holds Try.pinned (OpenSpec.ofChange opNamesSpec)

/-- ITS FALSE NEIGHBOUR: 'it returns false'. Refute it at one input. -/
def opNamesWrong : ChangeSpec := { name := "opNames", fn := fun _ => fun
  | [d1, d2] => { results := [.lit (.bool false)], args := [d1, d2] }
  | _ => none }
def OpNamesWrongFalsely : Prop := opNamesRow.holds Try.pinned (OpenSpec.ofChange opNamesWrong)

/-- 'fluxionlaw11.OpBack': WHATEVER THE INPUT: true; the input reads as it did. -/
def opBackSpec : ChangeSpec := { name := "opBack", fn := fun _ => fun
  | [d1, d2] => { results := [.lit (.bool true)], args := [d1, d2] }
  | _ => none }
def opBackRow : OpenClaim := { program := "ytbefcdidlfkmnaa", sum := "9775117b6590b47ff774d0ef9b22f1ec83902a55085a5026a541a6482590abbc", func := "fluxion/fluxionlaw11.OpBack", spec := "opBack", unfollowed := true, recurses := true, apart := false }
def OpBackSaid : Prop := opBackRow.holds Try.pinned (OpenSpec.ofChange opBackSpec)

/-- ITS FALSE NEIGHBOUR: 'it returns false'. Refute it at one input. -/
def opBackWrong : ChangeSpec := { name := "opBack", fn := fun _ => fun
  | [d1, d2] => { results := [.lit (.bool false)], args := [d1, d2] }
  | _ => none }
def OpBackWrongFalsely : Prop := opBackRow.holds Try.pinned (OpenSpec.ofChange opBackWrong)

/- THE SECOND FORM. 'bulk': how many values and letters a reading holds, each counted each time it is reached (what is shared counts as often as it is met; a slice's spare places count too). A statement '..UptoSaid' is the law's where the arguments, and the package variables that the reading takes, are together of bulk at most 1048576: NARROWER than '..Said'. Prove '..Said' where nothing that the law and all that it calls make is longer than what came in: it says more and counts as full. Else prove '..UptoSaid'. A law counts once. -/
mutual
def uptoBulk {H : Type} : DataW H → Nat
  | .lit (.string bytes) => bytes.length + 1
  | .lit _ => 1
  | .nil => 1
  | .ptr d => uptoBulk d + 1
  | .slice elems spare => uptoBulkAll elems + uptoBulkAll spare + 1
  | .agg parts => uptoBulkAll parts + 1
  | .iface _ d => uptoBulk d + 1
  | .map entries => uptoBulkEntries entries + 1
  | .held _ => 1
def uptoBulkAll {H : Type} : List (DataW H) → Nat
  | [] => 0
  | d :: r => uptoBulk d + uptoBulkAll r
def uptoBulkEntries {H : Type} : List (Lit × DataW H) → Nat
  | [] => 0
  | x :: r => uptoBulkEntry x + uptoBulkEntries r
def uptoBulkEntry {H : Type} : Lit × DataW H → Nat
  | (.string bytes, d) => bytes.length + uptoBulk d + 1
  | (_, d) => uptoBulk d + 1
 end
def uptoSmall : (H : Type) → List (DataW H) → Bool := fun _ ds => decide (uptoBulkAll ds ≤ 1048576)
def OpenSpec.upto (s : _root_.Go.ChangeSpec) : _root_.Go.OpenSpec := { _root_.Go.OpenSpec.ofChange s with cond := some uptoSmall }

/-- 'fluxionlaw11.OpChecks', WHERE WHAT IT READS IS OF BULK AT MOST 1048576: true; the input reads as it did. -/
def opChecksUptoRow : OpenClaim := { program := "ytbefcdidlfkmnaa", sum := "9775117b6590b47ff774d0ef9b22f1ec83902a55085a5026a541a6482590abbc", func := "fluxion/fluxionlaw11.OpChecks", spec := "opChecks", unfollowed := true, recurses := true, apart := false, narrowed := true }
def OpChecksUptoSaid : Prop := opChecksUptoRow.holds Try.pinned (OpenSpec.upto opChecksSpec)

/-- 'fluxionlaw11.OpExplicit', WHERE WHAT IT READS IS OF BULK AT MOST 1048576: true; the input reads as it did. -/
def opExplicitUptoRow : OpenClaim := { program := "ytbefcdidlfkmnaa", sum := "9775117b6590b47ff774d0ef9b22f1ec83902a55085a5026a541a6482590abbc", func := "fluxion/fluxionlaw11.OpExplicit", spec := "opExplicit", unfollowed := true, recurses := true, apart := false, narrowed := true }
def OpExplicitUptoSaid : Prop := opExplicitUptoRow.holds Try.pinned (OpenSpec.upto opExplicitSpec)

/-- 'fluxionlaw11.OpOnward', WHERE WHAT IT READS IS OF BULK AT MOST 1048576: true; the input reads as it did. -/
def opOnwardUptoRow : OpenClaim := { program := "ytbefcdidlfkmnaa", sum := "9775117b6590b47ff774d0ef9b22f1ec83902a55085a5026a541a6482590abbc", func := "fluxion/fluxionlaw11.OpOnward", spec := "opOnward", unfollowed := true, recurses := true, apart := false, narrowed := true }
def OpOnwardUptoSaid : Prop := opOnwardUptoRow.holds Try.pinned (OpenSpec.upto opOnwardSpec)

/-- 'fluxionlaw11.OpVersions', WHERE WHAT IT READS IS OF BULK AT MOST 1048576: true; the input reads as it did. -/
def opVersionsUptoRow : OpenClaim := { program := "ytbefcdidlfkmnaa", sum := "9775117b6590b47ff774d0ef9b22f1ec83902a55085a5026a541a6482590abbc", func := "fluxion/fluxionlaw11.OpVersions", spec := "opVersions", unfollowed := true, recurses := true, apart := false, narrowed := true }
def OpVersionsUptoSaid : Prop := opVersionsUptoRow.holds Try.pinned (OpenSpec.upto opVersionsSpec)

/-- 'fluxionlaw11.OpNames', WHERE WHAT IT READS IS OF BULK AT MOST 1048576: true; the input reads as it did. -/
def opNamesUptoRow : OpenClaim := { program := "ytbefcdidlfkmnaa", sum := "9775117b6590b47ff774d0ef9b22f1ec83902a55085a5026a541a6482590abbc", func := "fluxion/fluxionlaw11.OpNames", spec := "opNames", unfollowed := true, recurses := true, apart := false, narrowed := true }
def OpNamesUptoSaid : Prop := opNamesUptoRow.holds Try.pinned (OpenSpec.upto opNamesSpec)

/-- 'fluxionlaw11.OpBack', WHERE WHAT IT READS IS OF BULK AT MOST 1048576: true; the input reads as it did. -/
def opBackUptoRow : OpenClaim := { program := "ytbefcdidlfkmnaa", sum := "9775117b6590b47ff774d0ef9b22f1ec83902a55085a5026a541a6482590abbc", func := "fluxion/fluxionlaw11.OpBack", spec := "opBack", unfollowed := true, recurses := true, apart := false, narrowed := true }
def OpBackUptoSaid : Prop := opBackUptoRow.holds Try.pinned (OpenSpec.upto opBackSpec)

end Rows
end Go.Proofs.Ytbefcdidlfkmnaa
