/- ShapeDrops: shape.Drop and shape.Ones answer as the document's; the ones' shape fits, with the count of the other. No condition. -/
import Derived.Test.YtfkohjngogjmkaaL8
import Derived.Test.YtfkohjngogjmkaaPu7
import Derived.Test.YtfkohjngogjmkaaKnown
namespace Go.Proofs.Ytfkohjngogjmkaa.Pure
open Go.RowKit Go.Proofs.Ytfkohjngogjmkaa.Print Go.Proofs.YtfkohjngogjmkaaW.PrintWords Go.Proofs.YtfkohjngogjmkaaW.PrintLast
theorem ShapeDrops : fluxionlaw06_ShapeDrops.Pure := by
  intro s ax _ hs _ _ ha _
  refine Ev.rounds (g := fun k => fluxionlaw06_ShapeDrops.f k s ax) ?_
  have hk : Ev (fun k => (fluxionlaw06_known.f k).bind fun t => some t) true := Ev.bind (f := fun _ t => some t) known_ev (Ev.now _)
  have hj : ∀ b : Bool, (b = false → s.length ≤ 50) → Ev (fun k => fluxionlaw06_ShapeDrops.j0 k s ax b) true := by
    intro b hb
    cases b with
    | true => exact Ev.step (fun k => by simp only [fluxionlaw06_ShapeDrops.j0, if_true]) hk
    | false =>
      have hl := hb rfl
      refine Ev.step (fun k => by simp only [fluxionlaw06_ShapeDrops.j0, Bool.false_eq_true, if_false]; rfl) (Ev.bind (drop_ev s ax (by omega) (by omega)) ?_)
      refine Ev.bind (ones_ev s ax (by omega) (by omega)) ?_
      refine Ev.bind (refdrop_ev s ax (by omega) (by omega)) ?_
      have d1 := dropR_length ax 0 s
      have o1 := onesR_length ax 0 s
      refine Ev.bind (same_ev _ _ (by omega)) ?_
      simp only [decide_true, if_true]
      refine Ev.bind (refones_ev s ax (by omega) (by omega)) ?_
      refine Ev.bind (same_ev _ _ (by omega)) ?_
      simp only [decide_true, Bool.not_true]
      refine Ev.step (fun k => by simp only [fluxionlaw06_ShapeDrops.j1, Bool.false_eq_true, if_false]; rfl) (Ev.bind (refmay_ev s (by omega)) ?_)
      by_cases h0 : mayS s = 0
      · obtain ⟨h1, h2, h3⟩ := may_ok h0
        simp only [h0, if_true]
        obtain ⟨p1, p2, p3⟩ := ones_pos ax 0 s h2
        have mo : mayS (onesR ax 0 s) = 0 := may_of2 (by omega) p1 (by omega)
        have md : mayS (dropR ax 0 s) = 0 := may_of2 (by omega) p2 (by rw [← pr_ones]; omega)
        have hF : Fit (onesR ax 0 s) s := ⟨by omega, fun i hi => by
          have := ones_get ax 0 s i (by omega)
          unfold FitAt; rw [show s.length - (onesR ax 0 s).length + i = i by omega]; exact this⟩
        have hfit : fitsS (onesR ax 0 s) s = 0 := by unfold fitsS; rw [if_pos mo, if_pos h0, if_pos hF]
        refine Ev.bind (fits_ev _ s (by omega) (by omega)) ?_
        simp only [hfit, if_true]
        refine Ev.bind (grown_ev _ s (by omega) (by omega)) ?_
        refine Ev.bind (refgrown_ev _ s (by omega) (by omega)) ?_
        refine Ev.bind (same_ev _ _ (by have := grownS_length (onesR ax 0 s) s; omega)) ?_
        simp only [decide_true, if_true]
        have c1 := count_ev (dropR ax 0 s) (by omega)
        have c2 := count_ev (onesR ax 0 s) (by omega)
        rw [if_pos md] at c1
        rw [if_pos mo, pr_ones] at c2
        refine Ev.bind c1 ?_
        refine Ev.bind c2 ?_
        simp only [if_true]; exact hk
      · simp only [h0, if_false]; exact hk
  by_cases hl : s.length > 50
  · refine Ev.congr (fun k => ?_) (hj true (by simp))
    unfold fluxionlaw06_ShapeDrops.f; rw [if_pos (by omega)]
  · refine Ev.congr (fun k => ?_) (hj (decide ((ax.length : Int) > 100)) (fun _ => by omega))
    unfold fluxionlaw06_ShapeDrops.f; rw [if_neg (by omega)]
end Go.Proofs.Ytfkohjngogjmkaa.Pure
