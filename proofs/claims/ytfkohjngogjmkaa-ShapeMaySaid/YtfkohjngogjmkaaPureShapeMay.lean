/- ShapeMay: shape.May and shape.Count answer as the document's, for every shape. No condition. -/
import Derived.Test.YtfkohjngogjmkaaL5
import Derived.Test.YtfkohjngogjmkaaPu1
import Derived.Test.YtfkohjngogjmkaaKnown
namespace Go.Proofs.Ytfkohjngogjmkaa.Pure
open Go.RowKit Go.Proofs.Ytfkohjngogjmkaa.Print Go.Proofs.YtfkohjngogjmkaaW.PrintWords Go.Proofs.YtfkohjngogjmkaaW.PrintLast
theorem ShapeMay : fluxionlaw06_ShapeMay.Pure := by
  intro s _ hs _
  refine Ev.rounds (g := fun k => fluxionlaw06_ShapeMay.f k s) ?_
  refine Ev.bind (may_ev s (by omega)) ?_
  refine Ev.bind (refmay_ev s (by omega)) ?_
  simp only [if_true]
  refine Ev.bind (count_ev s (by omega)) ?_
  refine Ev.bind (refcount_ev s (by omega)) ?_
  simp only [if_true]
  exact Ev.bind known_ev (Ev.now _)
end Go.Proofs.Ytfkohjngogjmkaa.Pure
