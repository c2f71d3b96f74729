/- ShapePlaces: shape.Offset answers as the document's, for every shape and every index. No condition. -/
import Derived.Test.YtfkohjngogjmkaaL2
import Derived.Test.YtfkohjngogjmkaaPu5
import Derived.Test.YtfkohjngogjmkaaKnown
namespace Go.Proofs.Ytfkohjngogjmkaa.Pure
open Go.RowKit Go.Proofs.Ytfkohjngogjmkaa.Print Go.Proofs.YtfkohjngogjmkaaW.PrintWords Go.Proofs.YtfkohjngogjmkaaW.PrintLast
theorem ShapePlaces : fluxionlaw06_ShapePlaces.Pure := by
  intro s x _ hs _ _ _ _
  refine Ev.rounds (g := fun k => fluxionlaw06_ShapePlaces.f k s x) ?_
  refine Ev.bind (offset_ev s x (by omega)) ?_
  refine Ev.bind (refoffset_ev s x (by omega)) ?_
  simp only [if_true]
  exact Ev.bind (f := fun _ t => some t) known_ev (Ev.now _)
end Go.Proofs.Ytfkohjngogjmkaa.Pure
