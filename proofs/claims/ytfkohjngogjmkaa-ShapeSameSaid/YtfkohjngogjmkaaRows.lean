/-
  No cell of these rows narrows 'for every input' (looked for: loops, veiled, ifaces, maps, wideKeys, modest, calm, conditions, laid).
  DERIVED. THE GIVEN ROWS OF THIS SEAT. 11 by the template 'for every input the law returns true; each argument reads behind the call as it read before'; 0 by the template 'total and deterministic' (their statements: YtfkohjngogjmkaaTotals.lean).
  GIVEN WITH THE SEED: the statements are not yours to turn. If you find one false, say at which input.
  Laid BY PROGRAM, IN A SANDBOX (cutbox-rows.mjs): the forced cells as the released guide's own fill.sh prints them over the translation e9e813fa46fe9d7e… (all of the seat's roots in one cut). By AI agents, Wed Nov 11 2026. No macro, syntax, notation, axiom, sorry.
-/
import Derived.Test.YtfkohjngogjmkaaChecked
import GoSem.Claim
import GoSem.ClaimJoined
import GoSem.ClaimMapViews
import Derived.JoinedTies
import Derived.KernelRfl
namespace Go.Proofs.Ytfkohjngogjmkaa
/- THE CELL 'sum', in the pinned program and in every row, IS THE sha256 OF THE DUMP (.gsa) THAT YtfkohjngogjmkaaProg.lean LOADS. Nothing in Lean hashes anything: it is a label: what it is worth is what the hold of that sum in a sandbox is worth. -/
noncomputable def Try.pinned : Pinned := { name := "ytfkohjngogjmkaa", sum := "e9e813fa46fe9d7ed8bc385c665351bd84dd91eb582fd3443ced9d12c390dc67", checked := Try.checked }
namespace Rows
def none {H : Type} : Left H := { results := [], args := [] }

/-- 'fluxionlaw06.ShapePlaces': WHATEVER THE INPUT: true; the input reads as it did. -/
def shapePlacesSpec : ChangeSpec := { name := "shapePlaces", fn := fun _ => fun
  | [d1, d2] => { results := [.lit (.bool true)], args := [d1, d2] }
  | _ => none }
def shapePlacesRow : OpenClaim := { program := "ytfkohjngogjmkaa", sum := "e9e813fa46fe9d7ed8bc385c665351bd84dd91eb582fd3443ced9d12c390dc67", func := "fluxion/fluxionlaw06.ShapePlaces", spec := "shapePlaces", unfollowed := true, recurses := true, apart := false }
def ShapePlacesSaid : Prop := shapePlacesRow.holds Try.pinned (OpenSpec.ofChange shapePlacesSpec)

/-- ITS FALSE NEIGHBOUR: 'it returns false'. Refute it at one input. -/
def shapePlacesWrong : ChangeSpec := { name := "shapePlaces", fn := fun _ => fun
  | [d1, d2] => { results := [.lit (.bool false)], args := [d1, d2] }
  | _ => none }
def ShapePlacesWrongFalsely : Prop := shapePlacesRow.holds Try.pinned (OpenSpec.ofChange shapePlacesWrong)

/-- 'fluxionlaw06.ShapeBack': WHATEVER THE INPUT: true; the input reads as it did. -/
def shapeBackSpec : ChangeSpec := { name := "shapeBack", fn := fun _ => fun
  | [d1, d2, d3] => { results := [.lit (.bool true)], args := [d1, d2, d3] }
  | _ => none }
def shapeBackRow : OpenClaim := { program := "ytfkohjngogjmkaa", sum := "e9e813fa46fe9d7ed8bc385c665351bd84dd91eb582fd3443ced9d12c390dc67", func := "fluxion/fluxionlaw06.ShapeBack", spec := "shapeBack", unfollowed := true, recurses := true, apart := false }
def ShapeBackSaid : Prop := shapeBackRow.holds Try.pinned (OpenSpec.ofChange shapeBackSpec)

/-- ITS FALSE NEIGHBOUR: 'it returns false'. Refute it at one input. -/
def shapeBackWrong : ChangeSpec := { name := "shapeBack", fn := fun _ => fun
  | [d1, d2, d3] => { results := [.lit (.bool false)], args := [d1, d2, d3] }
  | _ => none }
def ShapeBackWrongFalsely : Prop := shapeBackRow.holds Try.pinned (OpenSpec.ofChange shapeBackWrong)

/-- 'fluxionlaw06.ShapeFits': WHATEVER THE INPUT: true; the input reads as it did. -/
def shapeFitsSpec : ChangeSpec := { name := "shapeFits", fn := fun _ => fun
  | [d1, d2] => { results := [.lit (.bool true)], args := [d1, d2] }
  | _ => none }
def shapeFitsRow : OpenClaim := { program := "ytfkohjngogjmkaa", sum := "e9e813fa46fe9d7ed8bc385c665351bd84dd91eb582fd3443ced9d12c390dc67", func := "fluxion/fluxionlaw06.ShapeFits", spec := "shapeFits", unfollowed := true, recurses := true, apart := false }
def ShapeFitsSaid : Prop := shapeFitsRow.holds Try.pinned (OpenSpec.ofChange shapeFitsSpec)

/-- ITS FALSE NEIGHBOUR: 'it returns false'. Refute it at one input. -/
def shapeFitsWrong : ChangeSpec := { name := "shapeFits", fn := fun _ => fun
  | [d1, d2] => { results := [.lit (.bool false)], args := [d1, d2] }
  | _ => none }
def ShapeFitsWrongFalsely : Prop := shapeFitsRow.holds Try.pinned (OpenSpec.ofChange shapeFitsWrong)

/-- 'fluxionlaw06.ShapeMay': WHATEVER THE INPUT: true; the input reads as it did. -/
def shapeMaySpec : ChangeSpec := { name := "shapeMay", fn := fun _ => fun
  | [d] => { results := [.lit (.bool true)], args := [d] }
  | _ => none }
def shapeMayRow : OpenClaim := { program := "ytfkohjngogjmkaa", sum := "e9e813fa46fe9d7ed8bc385c665351bd84dd91eb582fd3443ced9d12c390dc67", func := "fluxion/fluxionlaw06.ShapeMay", spec := "shapeMay", unfollowed := true, recurses := true, apart := false }
def ShapeMaySaid : Prop := shapeMayRow.holds Try.pinned (OpenSpec.ofChange shapeMaySpec)

/-- ITS FALSE NEIGHBOUR: 'it returns false'. Refute it at one input. -/
def shapeMayWrong : ChangeSpec := { name := "shapeMay", fn := fun _ => fun
  | [d] => { results := [.lit (.bool false)], args := [d] }
  | _ => none }
def ShapeMayWrongFalsely : Prop := shapeMayRow.holds Try.pinned (OpenSpec.ofChange shapeMayWrong)

/-- 'fluxionlaw06.ShapeStrides': WHATEVER THE INPUT: true; the input reads as it did. -/
def shapeStridesSpec : ChangeSpec := { name := "shapeStrides", fn := fun _ => fun
  | [d] => { results := [.lit (.bool true)], args := [d] }
  | _ => none }
def shapeStridesRow : OpenClaim := { program := "ytfkohjngogjmkaa", sum := "e9e813fa46fe9d7ed8bc385c665351bd84dd91eb582fd3443ced9d12c390dc67", func := "fluxion/fluxionlaw06.ShapeStrides", spec := "shapeStrides", unfollowed := true, recurses := true, apart := false }
def ShapeStridesSaid : Prop := shapeStridesRow.holds Try.pinned (OpenSpec.ofChange shapeStridesSpec)

/-- ITS FALSE NEIGHBOUR: 'it returns false'. Refute it at one input. -/
def shapeStridesWrong : ChangeSpec := { name := "shapeStrides", fn := fun _ => fun
  | [d] => { results := [.lit (.bool false)], args := [d] }
  | _ => none }
def ShapeStridesWrongFalsely : Prop := shapeStridesRow.holds Try.pinned (OpenSpec.ofChange shapeStridesWrong)

/-- 'fluxionlaw06.ShapeOrder': WHATEVER THE INPUT: true; the input reads as it did. -/
def shapeOrderSpec : ChangeSpec := { name := "shapeOrder", fn := fun _ => fun
  | [d] => { results := [.lit (.bool true)], args := [d] }
  | _ => none }
def shapeOrderRow : OpenClaim := { program := "ytfkohjngogjmkaa", sum := "e9e813fa46fe9d7ed8bc385c665351bd84dd91eb582fd3443ced9d12c390dc67", func := "fluxion/fluxionlaw06.ShapeOrder", spec := "shapeOrder", unfollowed := true, recurses := true, apart := false }
def ShapeOrderSaid : Prop := shapeOrderRow.holds Try.pinned (OpenSpec.ofChange shapeOrderSpec)

/-- ITS FALSE NEIGHBOUR: 'it returns false'. Refute it at one input. -/
def shapeOrderWrong : ChangeSpec := { name := "shapeOrder", fn := fun _ => fun
  | [d] => { results := [.lit (.bool false)], args := [d] }
  | _ => none }
def ShapeOrderWrongFalsely : Prop := shapeOrderRow.holds Try.pinned (OpenSpec.ofChange shapeOrderWrong)

/-- 'fluxionlaw06.ShapeDrops': WHATEVER THE INPUT: true; the input reads as it did. -/
def shapeDropsSpec : ChangeSpec := { name := "shapeDrops", fn := fun _ => fun
  | [d1, d2] => { results := [.lit (.bool true)], args := [d1, d2] }
  | _ => none }
def shapeDropsRow : OpenClaim := { program := "ytfkohjngogjmkaa", sum := "e9e813fa46fe9d7ed8bc385c665351bd84dd91eb582fd3443ced9d12c390dc67", func := "fluxion/fluxionlaw06.ShapeDrops", spec := "shapeDrops", unfollowed := true, recurses := true, apart := false }
def ShapeDropsSaid : Prop := shapeDropsRow.holds Try.pinned (OpenSpec.ofChange shapeDropsSpec)

/-- ITS FALSE NEIGHBOUR: 'it returns false'. Refute it at one input. -/
def shapeDropsWrong : ChangeSpec := { name := "shapeDrops", fn := fun _ => fun
  | [d1, d2] => { results := [.lit (.bool false)], args := [d1, d2] }
  | _ => none }
def ShapeDropsWrongFalsely : Prop := shapeDropsRow.holds Try.pinned (OpenSpec.ofChange shapeDropsWrong)

/-- 'fluxionlaw06.ShapeAxes': WHATEVER THE INPUT: true; the input reads as it did. -/
def shapeAxesSpec : ChangeSpec := { name := "shapeAxes", fn := fun _ => fun
  | [d1, d2] => { results := [.lit (.bool true)], args := [d1, d2] }
  | _ => none }
def shapeAxesRow : OpenClaim := { program := "ytfkohjngogjmkaa", sum := "e9e813fa46fe9d7ed8bc385c665351bd84dd91eb582fd3443ced9d12c390dc67", func := "fluxion/fluxionlaw06.ShapeAxes", spec := "shapeAxes", unfollowed := true, recurses := true, apart := false }
def ShapeAxesSaid : Prop := shapeAxesRow.holds Try.pinned (OpenSpec.ofChange shapeAxesSpec)

/-- ITS FALSE NEIGHBOUR: 'it returns false'. Refute it at one input. -/
def shapeAxesWrong : ChangeSpec := { name := "shapeAxes", fn := fun _ => fun
  | [d1, d2] => { results := [.lit (.bool false)], args := [d1, d2] }
  | _ => none }
def ShapeAxesWrongFalsely : Prop := shapeAxesRow.holds Try.pinned (OpenSpec.ofChange shapeAxesWrong)

/-- 'fluxionlaw06.ShapeChains': WHATEVER THE INPUT: true; the input reads as it did. -/
def shapeChainsSpec : ChangeSpec := { name := "shapeChains", fn := fun _ => fun
  | [d1, d2, d3] => { results := [.lit (.bool true)], args := [d1, d2, d3] }
  | _ => none }
def shapeChainsRow : OpenClaim := { program := "ytfkohjngogjmkaa", sum := "e9e813fa46fe9d7ed8bc385c665351bd84dd91eb582fd3443ced9d12c390dc67", func := "fluxion/fluxionlaw06.ShapeChains", spec := "shapeChains", unfollowed := true, recurses := true, apart := false }
def ShapeChainsSaid : Prop := shapeChainsRow.holds Try.pinned (OpenSpec.ofChange shapeChainsSpec)

/-- ITS FALSE NEIGHBOUR: 'it returns false'. Refute it at one input. -/
def shapeChainsWrong : ChangeSpec := { name := "shapeChains", fn := fun _ => fun
  | [d1, d2, d3] => { results := [.lit (.bool false)], args := [d1, d2, d3] }
  | _ => none }
def ShapeChainsWrongFalsely : Prop := shapeChainsRow.holds Try.pinned (OpenSpec.ofChange shapeChainsWrong)

/-- 'fluxionlaw06.ShapeSame': WHATEVER THE INPUT: true; the input reads as it did. -/
def shapeSameSpec : ChangeSpec := { name := "shapeSame", fn := fun _ => fun
  | [d1, d2] => { results := [.lit (.bool true)], args := [d1, d2] }
  | _ => none }
def shapeSameRow : OpenClaim := { program := "ytfkohjngogjmkaa", sum := "e9e813fa46fe9d7ed8bc385c665351bd84dd91eb582fd3443ced9d12c390dc67", func := "fluxion/fluxionlaw06.ShapeSame", spec := "shapeSame", unfollowed := true, recurses := true, apart := false }
def ShapeSameSaid : Prop := shapeSameRow.holds Try.pinned (OpenSpec.ofChange shapeSameSpec)

/-- ITS FALSE NEIGHBOUR: 'it returns false'. Refute it at one input. -/
def shapeSameWrong : ChangeSpec := { name := "shapeSame", fn := fun _ => fun
  | [d1, d2] => { results := [.lit (.bool false)], args := [d1, d2] }
  | _ => none }
def ShapeSameWrongFalsely : Prop := shapeSameRow.holds Try.pinned (OpenSpec.ofChange shapeSameWrong)

/-- 'fluxionlaw06.ShapePerms': WHATEVER THE INPUT: true; the input reads as it did. -/
def shapePermsSpec : ChangeSpec := { name := "shapePerms", fn := fun _ => fun
  | [d1, d2] => { results := [.lit (.bool true)], args := [d1, d2] }
  | _ => none }
def shapePermsRow : OpenClaim := { program := "ytfkohjngogjmkaa", sum := "e9e813fa46fe9d7ed8bc385c665351bd84dd91eb582fd3443ced9d12c390dc67", func := "fluxion/fluxionlaw06.ShapePerms", spec := "shapePerms", unfollowed := true, recurses := true, apart := false }
def ShapePermsSaid : Prop := shapePermsRow.holds Try.pinned (OpenSpec.ofChange shapePermsSpec)

/-- ITS FALSE NEIGHBOUR: 'it returns false'. Refute it at one input. -/
def shapePermsWrong : ChangeSpec := { name := "shapePerms", fn := fun _ => fun
  | [d1, d2] => { results := [.lit (.bool false)], args := [d1, d2] }
  | _ => none }
def ShapePermsWrongFalsely : Prop := shapePermsRow.holds Try.pinned (OpenSpec.ofChange shapePermsWrong)

/- THE SECOND FORM. 'bulk': how many values and letters a reading holds, each counted each time it is reached (what is shared counts as often as it is met; a slice's spare places count too). A statement '..UptoSaid' is the law's where the arguments, and the package variables that the reading takes, are together of bulk at most 1048576: NARROWER than '..Said'. Prove '..Said' where nothing that the law and all that it calls make is longer than what came in: it says more and counts as full. Else prove '..UptoSaid'. A law counts once. -/
mutual
def uptoBulk {H : Type} : DataW H → Nat
  | .lit (.string bytes) => bytes.length + 1
  | .lit _ => 1
  | .nil => 1
  | .ptr d => uptoBulk d + 1
  | .slice elems spare => uptoBulkAll elems + uptoBulkAll spare + 1
  | .agg parts => uptoBulkAll parts + 1
  | .iface _ d => uptoBulk d + 1
  | .map entries => uptoBulkEntries entries + 1
  | .held _ => 1
def uptoBulkAll {H : Type} : List (DataW H) → Nat
  | [] => 0
  | d :: r => uptoBulk d + uptoBulkAll r
def uptoBulkEntries {H : Type} : List (Lit × DataW H) → Nat
  | [] => 0
  | x :: r => uptoBulkEntry x + uptoBulkEntries r
def uptoBulkEntry {H : Type} : Lit × DataW H → Nat
  | (.string bytes, d) => bytes.length + uptoBulk d + 1
  | (_, d) => uptoBulk d + 1
 end
def uptoSmall : (H : Type) → List (DataW H) → Bool := fun _ ds => decide (uptoBulkAll ds ≤ 1048576)
def OpenSpec.upto (s : _root_.Go.ChangeSpec) : _root_.Go.OpenSpec := { _root_.Go.OpenSpec.ofChange s with cond := some uptoSmall }

/-- 'fluxionlaw06.ShapePlaces', WHERE WHAT IT READS IS OF BULK AT MOST 1048576: true; the input reads as it did. -/
def shapePlacesUptoRow : OpenClaim := { program := "ytfkohjngogjmkaa", sum := "e9e813fa46fe9d7ed8bc385c665351bd84dd91eb582fd3443ced9d12c390dc67", func := "fluxion/fluxionlaw06.ShapePlaces", spec := "shapePlaces", unfollowed := true, recurses := true, apart := false, narrowed := true }
def ShapePlacesUptoSaid : Prop := shapePlacesUptoRow.holds Try.pinned (OpenSpec.upto shapePlacesSpec)

/-- 'fluxionlaw06.ShapeBack', WHERE WHAT IT READS IS OF BULK AT MOST 1048576: true; the input reads as it did. -/
def shapeBackUptoRow : OpenClaim := { program := "ytfkohjngogjmkaa", sum := "e9e813fa46fe9d7ed8bc385c665351bd84dd91eb582fd3443ced9d12c390dc67", func := "fluxion/fluxionlaw06.ShapeBack", spec := "shapeBack", unfollowed := true, recurses := true, apart := false, narrowed := true }
def ShapeBackUptoSaid : Prop := shapeBackUptoRow.holds Try.pinned (OpenSpec.upto shapeBackSpec)

/-- 'fluxionlaw06.ShapeFits', WHERE WHAT IT READS IS OF BULK AT MOST 1048576: true; the input reads as it did. -/
def shapeFitsUptoRow : OpenClaim := { program := "ytfkohjngogjmkaa", sum := "e9e813fa46fe9d7ed8bc385c665351bd84dd91eb582fd3443ced9d12c390dc67", func := "fluxion/fluxionlaw06.ShapeFits", spec := "shapeFits", unfollowed := true, recurses := true, apart := false, narrowed := true }
def ShapeFitsUptoSaid : Prop := shapeFitsUptoRow.holds Try.pinned (OpenSpec.upto shapeFitsSpec)

/-- 'fluxionlaw06.ShapeMay', WHERE WHAT IT READS IS OF BULK AT MOST 1048576: true; the input reads as it did. -/
def shapeMayUptoRow : OpenClaim := { program := "ytfkohjngogjmkaa", sum := "e9e813fa46fe9d7ed8bc385c665351bd84dd91eb582fd3443ced9d12c390dc67", func := "fluxion/fluxionlaw06.ShapeMay", spec := "shapeMay", unfollowed := true, recurses := true, apart := false, narrowed := true }
def ShapeMayUptoSaid : Prop := shapeMayUptoRow.holds Try.pinned (OpenSpec.upto shapeMaySpec)

/-- 'fluxionlaw06.ShapeStrides', WHERE WHAT IT READS IS OF BULK AT MOST 1048576: true; the input reads as it did. -/
def shapeStridesUptoRow : OpenClaim := { program := "ytfkohjngogjmkaa", sum := "e9e813fa46fe9d7ed8bc385c665351bd84dd91eb582fd3443ced9d12c390dc67", func := "fluxion/fluxionlaw06.ShapeStrides", spec := "shapeStrides", unfollowed := true, recurses := true, apart := false, narrowed := true }
def ShapeStridesUptoSaid : Prop := shapeStridesUptoRow.holds Try.pinned (OpenSpec.upto shapeStridesSpec)

/-- 'fluxionlaw06.ShapeOrder', WHERE WHAT IT READS IS OF BULK AT MOST 1048576: true; the input reads as it did. -/
def shapeOrderUptoRow : OpenClaim := { program := "ytfkohjngogjmkaa", sum := "e9e813fa46fe9d7ed8bc385c665351bd84dd91eb582fd3443ced9d12c390dc67", func := "fluxion/fluxionlaw06.ShapeOrder", spec := "shapeOrder", unfollowed := true, recurses := true, apart := false, narrowed := true }
def ShapeOrderUptoSaid : Prop := shapeOrderUptoRow.holds Try.pinned (OpenSpec.upto shapeOrderSpec)

/-- 'fluxionlaw06.ShapeDrops', WHERE WHAT IT READS IS OF BULK AT MOST 1048576: true; the input reads as it did. -/
def shapeDropsUptoRow : OpenClaim := { program := "ytfkohjngogjmkaa", sum := "e9e813fa46fe9d7ed8bc385c665351bd84dd91eb582fd3443ced9d12c390dc67", func := "fluxion/fluxionlaw06.ShapeDrops", spec := "shapeDrops", unfollowed := true, recurses := true, apart := false, narrowed := true }
def ShapeDropsUptoSaid : Prop := shapeDropsUptoRow.holds Try.pinned (OpenSpec.upto shapeDropsSpec)

/-- 'fluxionlaw06.ShapeAxes', WHERE WHAT IT READS IS OF BULK AT MOST 1048576: true; the input reads as it did. -/
def shapeAxesUptoRow : OpenClaim := { program := "ytfkohjngogjmkaa", sum := "e9e813fa46fe9d7ed8bc385c665351bd84dd91eb582fd3443ced9d12c390dc67", func := "fluxion/fluxionlaw06.ShapeAxes", spec := "shapeAxes", unfollowed := true, recurses := true, apart := false, narrowed := true }
def ShapeAxesUptoSaid : Prop := shapeAxesUptoRow.holds Try.pinned (OpenSpec.upto shapeAxesSpec)

/-- 'fluxionlaw06.ShapeChains', WHERE WHAT IT READS IS OF BULK AT MOST 1048576: true; the input reads as it did. -/
def shapeChainsUptoRow : OpenClaim := { program := "ytfkohjngogjmkaa", sum := "e9e813fa46fe9d7ed8bc385c665351bd84dd91eb582fd3443ced9d12c390dc67", func := "fluxion/fluxionlaw06.ShapeChains", spec := "shapeChains", unfollowed := true, recurses := true, apart := false, narrowed := true }
def ShapeChainsUptoSaid : Prop := shapeChainsUptoRow.holds Try.pinned (OpenSpec.upto shapeChainsSpec)

/-- 'fluxionlaw06.ShapeSame', WHERE WHAT IT READS IS OF BULK AT MOST 1048576: true; the input reads as it did. -/
def shapeSameUptoRow : OpenClaim := { program := "ytfkohjngogjmkaa", sum := "e9e813fa46fe9d7ed8bc385c665351bd84dd91eb582fd3443ced9d12c390dc67", func := "fluxion/fluxionlaw06.ShapeSame", spec := "shapeSame", unfollowed := true, recurses := true, apart := false, narrowed := true }
def ShapeSameUptoSaid : Prop := shapeSameUptoRow.holds Try.pinned (OpenSpec.upto shapeSameSpec)

/-- 'fluxionlaw06.ShapePerms', WHERE WHAT IT READS IS OF BULK AT MOST 1048576: true; the input reads as it did. -/
def shapePermsUptoRow : OpenClaim := { program := "ytfkohjngogjmkaa", sum := "e9e813fa46fe9d7ed8bc385c665351bd84dd91eb582fd3443ced9d12c390dc67", func := "fluxion/fluxionlaw06.ShapePerms", spec := "shapePerms", unfollowed := true, recurses := true, apart := false, narrowed := true }
def ShapePermsUptoSaid : Prop := shapePermsUptoRow.holds Try.pinned (OpenSpec.upto shapePermsSpec)

end Rows
end Go.Proofs.Ytfkohjngogjmkaa
