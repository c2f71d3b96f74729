/- ShapeStrides: shape.Strides answers as the document's, for every shape; the outermost one times the outermost dimension is the count. No condition. -/
import Derived.Test.YtfkohjngogjmkaaL6
import Derived.Test.YtfkohjngogjmkaaA5
import Derived.Test.YtfkohjngogjmkaaA8
import Derived.Test.YtfkohjngogjmkaaPu2
import Derived.Test.YtfkohjngogjmkaaKnown
namespace Go.Proofs.Ytfkohjngogjmkaa.Pure
open Go.RowKit Go.Proofs.Ytfkohjngogjmkaa.Print Go.Proofs.YtfkohjngogjmkaaW.PrintWords Go.Proofs.YtfkohjngogjmkaaW.PrintLast

theorem strides_law (s : List Int) (h : s.length ≤ 4) (hp : ∀ d ∈ s, 1 ≤ d) (hb : pr s ≤ 1024) : ∀ (m : Nat) (i : Nat), s.length - i = m → i ≤ s.length →
    Ev (fun k => fluxionlaw06_ShapeStrides.l0 k s (stridesS s) (i : Int)) true
  | 0, i, hm, hi => by
    have e : i = s.length := by omega
    have hk : Ev (fun k => (fluxionlaw06_known.f k).bind fun t => some t) true := Ev.bind (f := fun _ t => some t) known_ev (Ev.now _)
    by_cases h0 : (s.length : Int) = 0
    · refine Ev.step (fun k => ?_) hk
      simp only [fluxionlaw06_ShapeStrides.l0]; rw [if_neg (by omega), if_pos h0]
    · have hc := count_ev s (by omega)
      rw [if_pos (may_of h hp hb)] at hc
      refine Ev.step (fun k => ?_) (Ev.bind (f := fun k t => if (wrap64 ((rd (stridesS s) 0) * (rd s 0))) = t then ((fluxionlaw06_known.f k).bind fun t => some t) else some false) hc ?_)
      · simp only [fluxionlaw06_ShapeStrides.l0]; rw [if_neg (by omega), if_neg h0, if_pos (by rw [stridesS_length]; omega), if_pos (by omega)]
      · have e2 : rd (stridesS s) 0 * rd s 0 = pr s := by
          have := rd_strides s 0 (by omega)
          rw [show ((0 : Nat) : Int) = 0 from rfl] at this
          rw [this]
          have := drop_cons s 0 (by omega)
          rw [List.drop_zero, show ((0 : Nat) : Int) = 0 from rfl] at this
          conv => rhs; rw [this, pr]
          exact Int.mul_comm _ _
        have hpos := pr_pos s hp
        rw [e2, wrap_id (by omega) (by omega)]; simp only [if_true]
        exact hk
  | m + 1, i, hm, hi => by
    have hlt : i < s.length := by omega
    refine Ev.step (fun k => ?_) (Ev.bind (f := fun k t => if (rd (stridesS s) (i : Int)) = t then fluxionlaw06_ShapeStrides.l0 k s (stridesS s) (wrap64 ((i : Int) + 1)) else some false) (refstride_ev s i hlt h hp hb) ?_)
    · simp only [fluxionlaw06_ShapeStrides.l0]; rw [if_pos (by omega), if_pos (by omega), if_pos (by rw [stridesS_length]; omega)]
    · rw [rd_strides s i hlt, wrap_id (by omega) (by omega)]; simp only [if_true]
      exact strides_law s h hp hb m (i + 1) (by omega) (by omega)

theorem ShapeStrides : fluxionlaw06_ShapeStrides.Pure := by
  intro s _ hs _
  refine Ev.rounds (g := fun k => fluxionlaw06_ShapeStrides.f k s) ?_
  refine Ev.bind (strides_ev s (by omega)) ?_
  refine Ev.bind (refmay_ev s (by omega)) ?_
  by_cases h : mayS s = 0
  · obtain ⟨h1, h2, h3⟩ := may_ok h
    simp only [h, if_true]
    rw [stridesS_length]; simp only [if_true]
    exact strides_law s h1 h2 h3 s.length 0 (by omega) (by omega)
  · simp only [h, if_false, List.length_nil, Int.natCast_zero, if_true]
    exact Ev.bind (f := fun _ t => some t) known_ev (Ev.now _)
end Go.Proofs.Ytfkohjngogjmkaa.Pure
