/- ShapeFits: shape.Fits and shape.Grown answer as the document's, for any two shapes. No condition. -/
import Derived.Test.YtfkohjngogjmkaaL4
import Derived.Test.YtfkohjngogjmkaaPu6
import Derived.Test.YtfkohjngogjmkaaKnown
namespace Go.Proofs.Ytfkohjngogjmkaa.Pure
open Go.RowKit Go.Proofs.Ytfkohjngogjmkaa.Print Go.Proofs.YtfkohjngogjmkaaW.PrintWords Go.Proofs.YtfkohjngogjmkaaW.PrintLast
theorem ShapeFits : fluxionlaw06_ShapeFits.Pure := by
  intro f t _ hf _ _ ht _
  refine Ev.rounds (g := fun k => fluxionlaw06_ShapeFits.f k f t) ?_
  refine Ev.bind (fits_ev f t (by omega) (by omega)) ?_
  refine Ev.bind (reffits_ev f t (by omega) (by omega)) ?_
  simp only [if_true]
  refine Ev.bind (grown_ev f t (by omega) (by omega)) ?_
  refine Ev.bind (refgrown_ev f t (by omega) (by omega)) ?_
  refine Ev.bind (same_ev _ _ (by have := grownS_length f t; omega)) ?_
  simp only [decide_true, if_true]
  exact Ev.bind (f := fun _ t => some t) known_ev (Ev.now _)
end Go.Proofs.Ytfkohjngogjmkaa.Pure
