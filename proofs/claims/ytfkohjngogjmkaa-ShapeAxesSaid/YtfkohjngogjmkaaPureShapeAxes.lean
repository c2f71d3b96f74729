/- ShapeAxes: shape.Axes answers as the document's, for every list of at most 100 numbers and every rank. No condition. -/
import Derived.Test.YtfkohjngogjmkaaL9
import Derived.Test.YtfkohjngogjmkaaPu1
import Derived.Test.YtfkohjngogjmkaaKnown
namespace Go.Proofs.Ytfkohjngogjmkaa.Pure
open Go.RowKit Go.Proofs.Ytfkohjngogjmkaa.Print Go.Proofs.YtfkohjngogjmkaaW.PrintWords Go.Proofs.YtfkohjngogjmkaaW.PrintLast

/-- Rising, above a number, below a rank. -/
def axesB (rank : Int) : Int → List Int → Bool
  | _, [] => true
  | last, n :: r => if n ≤ last then false else if n ≥ rank then false else axesB rank n r

theorem axes_loop (l : List Int) (rank : Int) (hs : l.length ≤ 100) : ∀ (m : Nat) (i : Nat) (last : Int), l.length - i = m → i ≤ l.length →
    Ev (fun k => shape_Axes.l0 k rank last l (l.length : Int) (i : Int)) (if axesB rank last (l.drop i) = true then 0 else 11)
  | 0, i, last, hm, hi => by
    have e : i = l.length := by omega
    rw [e, List.drop_length]
    refine Ev.step (f := fun _ => some 0) (fun k => ?_) (Ev.now _)
    simp only [shape_Axes.l0]; rw [if_neg (by omega)]
  | m + 1, i, last, hm, hi => by
    have hlt : i < l.length := by omega
    rw [drop_cons l i hlt, axesB]
    by_cases h1 : rd l (i : Int) ≤ last
    · rw [if_pos h1]
      refine Ev.step (f := fun _ => some 11) (fun k => ?_) (Ev.now _)
      simp only [shape_Axes.l0]; rw [if_pos (by omega), if_pos (by omega), if_pos (by omega), if_pos h1]
    · rw [if_neg h1]
      by_cases h2 : rd l (i : Int) ≥ rank
      · rw [if_pos h2]
        refine Ev.step (f := fun _ => some 11) (fun k => ?_) (Ev.now _)
        simp only [shape_Axes.l0]; rw [if_pos (by omega), if_pos (by omega), if_pos (by omega), if_neg h1, if_pos h2]
      · rw [if_neg h2]
        refine Ev.step (fun k => ?_) (axes_loop l rank hs m (i + 1) (rd l (i : Int)) (by omega) (by omega))
        simp only [shape_Axes.l0]; rw [if_pos (by omega), if_pos (by omega), if_pos (by omega), if_neg h1, if_neg h2, wrap_id (by omega) (by omega)]; rfl

theorem refaxes_loop (l : List Int) (rank : Int) (hs : l.length ≤ 100) : ∀ (m : Nat) (i : Nat) (last : Int), l.length - i = m → i ≤ l.length → (i = 0 → last = -1) → (0 < i → last = rd l ((i : Int) - 1) ∧ 0 ≤ last) →
    Ev (fun k => fluxionref06_Axes.l0 k l rank (i : Int)) (axesB rank last (l.drop i))
  | 0, i, last, hm, hi, _, _ => by
    have e : i = l.length := by omega
    rw [e, List.drop_length]
    refine Ev.step (f := fun _ => some true) (fun k => ?_) (Ev.now _)
    simp only [fluxionref06_Axes.l0]; rw [if_neg (by omega)]
  | m + 1, i, last, hm, hi, ha, hb => by
    have hlt : i < l.length := by omega
    rw [drop_cons l i hlt, axesB]
    by_cases h0 : rd l (i : Int) < 0
    · have h1 : rd l (i : Int) ≤ last := by
        by_cases e : i = 0
        · have := ha e; omega
        · have := (hb (by omega)).2; omega
      rw [if_pos h1]
      refine Ev.step (f := fun _ => some false) (fun k => ?_) (Ev.now _)
      simp only [fluxionref06_Axes.l0]; rw [if_pos (by omega), if_pos (by omega), if_pos h0]
    · by_cases h2 : rd l (i : Int) ≥ rank
      · rw [show (if rd l (i : Int) ≤ last then false else if rd l (i : Int) ≥ rank then false else axesB rank (rd l (i : Int)) (l.drop (i + 1))) = false by rw [if_pos h2]; simp]
        refine Ev.step (f := fun _ => some false) (fun k => ?_) (Ev.now _)
        simp only [fluxionref06_Axes.l0]; rw [if_pos (by omega), if_pos (by omega), if_neg h0, if_pos h2]
      · rw [if_neg h2]
        have ih := refaxes_loop l rank hs m (i + 1) (rd l (i : Int)) (by omega) (by omega) (by omega) (fun _ => ⟨by congr 1; omega, by omega⟩)
        by_cases e : i = 0
        · have hl := ha e
          rw [if_neg (by omega)]
          refine Ev.step (fun k => ?_) ih
          simp only [fluxionref06_Axes.l0]; rw [if_pos (by omega), if_pos (by omega), if_neg h0, if_neg h2, if_neg (by omega), wrap_id (by omega) (by omega)]; rfl
        · obtain ⟨hl, hl0⟩ := hb (by omega)
          have hw : wrap64 ((i : Int) - 1) = (i : Int) - 1 := wrap_id (by omega) (by omega)
          by_cases h1 : rd l (i : Int) ≤ last
          · rw [if_pos h1]
            refine Ev.step (f := fun _ => some false) (fun k => ?_) (Ev.now _)
            simp only [fluxionref06_Axes.l0]; rw [if_pos (by omega), if_pos (by omega), if_neg h0, if_neg h2, if_pos (by omega), hw, if_pos (by omega), if_pos (by omega), if_pos (by rw [← hl]; exact h1)]
          · rw [if_neg h1]
            refine Ev.step (fun k => ?_) ih
            simp only [fluxionref06_Axes.l0]; rw [if_pos (by omega), if_pos (by omega), if_neg h0, if_neg h2, if_pos (by omega), hw, if_pos (by omega), if_pos (by omega), if_neg (by rw [← hl]; exact h1), wrap_id (by omega) (by omega)]; rfl

theorem ShapeAxes : fluxionlaw06_ShapeAxes.Pure := by
  intro l rank _ _ _ _
  refine Ev.rounds (g := fun k => fluxionlaw06_ShapeAxes.f k l rank) ?_
  by_cases hl : (l.length : Int) > 100
  · refine Ev.congr (fun k => ?_) (Ev.bind (f := fun _ t => some t) known_ev (Ev.now _))
    unfold fluxionlaw06_ShapeAxes.f; rw [if_pos hl]
  · have h1 := axes_loop l rank (by omega) l.length 0 (-1) (by omega) (by omega)
    have h2 := refaxes_loop l rank (by omega) l.length 0 (-1) (by omega) (by omega) (fun _ => rfl) (by omega)
    simp only [List.drop_zero] at h1 h2
    have hk : Ev (fun k => (fluxionlaw06_known.f k).bind fun t => some t) true := Ev.bind (f := fun _ t => some t) known_ev (Ev.now _)
    refine Ev.congr (fun k => by unfold fluxionlaw06_ShapeAxes.f; rw [if_neg hl]) ?_
    refine Ev.bind (g := fun k => shape_Axes.f k l rank) h1 ?_
    refine Ev.bind (g := fun k => fluxionref06_Axes.f k l rank) h2 ?_
    cases axesB rank (-1) l
    · simp only [Bool.false_eq_true, if_false, show ¬ (11 : Int) = 0 by decide, if_true]; exact hk
    · simp only [if_true]; exact hk
end Go.Proofs.Ytfkohjngogjmkaa.Pure
