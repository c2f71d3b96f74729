/- ShapeChains: fitting is transitive; a shape fits itself, with nothing grown; one of no dimensions fits all; two that fit each other are the same. No condition. -/
import Derived.Test.YtfkohjngogjmkaaL10
import Derived.Test.YtfkohjngogjmkaaA25
import Derived.Test.YtfkohjngogjmkaaA24
import Derived.Test.YtfkohjngogjmkaaPu6
import Derived.Test.YtfkohjngogjmkaaKnown
namespace Go.Proofs.Ytfkohjngogjmkaa.Pure
open Go.RowKit Go.Proofs.Ytfkohjngogjmkaa.Print Go.Proofs.YtfkohjngogjmkaaW.PrintWords Go.Proofs.YtfkohjngogjmkaaW.PrintLast

theorem equal_loop (a b : List Int) (hl : a.length = b.length) (hs : a.length ≤ 4611686018427387904) : ∀ (m : Nat) (i : Nat), a.length - i = m → i ≤ a.length →
    Ev (fun k => api_Shape_int_48.l0 k a b (a.length : Int) (i : Int)) (decide (a.drop i = b.drop i))
  | 0, i, hm, hi => by
    have e : i = a.length := by omega
    have h1 : a.drop i = [] := by rw [e]; exact List.drop_length
    have h2 : b.drop i = [] := by rw [e, hl]; exact List.drop_length
    rw [h1, h2]
    refine Ev.step (f := fun _ => some true) (fun k => ?_) ?_
    · simp only [api_Shape_int_48.l0]; rw [if_neg (by omega)]
    · simp; exact Ev.now _
  | m + 1, i, hm, hi => by
    have hlt : i < a.length := by omega
    rw [drop_cons a i hlt, drop_cons b i (by omega)]
    by_cases hc : rd a (i : Int) = rd b (i : Int)
    · have ih := equal_loop a b hl hs m (i + 1) (by omega) (by omega)
      refine Ev.step (fun k => ?_) (by simp only [List.cons.injEq, hc, true_and]; exact ih)
      simp only [api_Shape_int_48.l0]; rw [if_pos (by omega), if_pos (by omega), if_pos (by omega), if_pos (by omega), if_pos hc, wrap_id (by omega) (by omega)]
      rfl
    · refine Ev.step (f := fun _ => some false) (fun k => ?_) ?_
      · simp only [api_Shape_int_48.l0]; rw [if_pos (by omega), if_pos (by omega), if_pos (by omega), if_pos (by omega), if_neg hc]
      · simp only [List.cons.injEq, hc, false_and, decide_false]; exact Ev.now _
theorem samesh_ev (a b : List Int) (hs : a.length ≤ 4611686018427387904) : Ev (fun k => shape_Same.f k a b) (decide (a = b)) := by
  refine Ev.bind (f := fun _ t => some t) (g := fun k => api_Shape_int_48.f k a b) (a := decide (a = b)) ?_ (Ev.now _)
  by_cases hl : a.length = b.length
  · refine Ev.congr (fun k => ?_) (equal_loop a b hl hs a.length 0 (by omega) (by omega))
    unfold api_Shape_int_48.f; rw [if_pos (by omega)]; rfl
  · refine Ev.congr (f := fun _ => some false) (fun k => ?_) ?_
    · unfold api_Shape_int_48.f; rw [if_neg (by omega)]
    · rw [decide_eq_false (fun e => hl (by rw [e]))]; exact Ev.now _

theorem fit_trans {a b c : List Int} (h1 : Fit a b) (h2 : Fit b c) : Fit a c := by
  obtain ⟨l1, f1⟩ := h1
  obtain ⟨l2, f2⟩ := h2
  refine ⟨by omega, fun i hi => ?_⟩
  have g1 := f1 i hi
  have g2 := f2 (b.length - a.length + i) (by omega)
  unfold FitAt at *
  rw [show c.length - b.length + (b.length - a.length + i) = c.length - a.length + i by omega] at g2
  omega
theorem fit_self (a : List Int) : Fit a a := ⟨Nat.le_refl _, fun i hi => Or.inr (by rw [show a.length - a.length + i = i by omega])⟩
theorem fit_nil (a : List Int) : Fit [] a := ⟨by simp, fun i hi => absurd hi (by simp)⟩
theorem fit_anti {a b : List Int} (h1 : Fit a b) (h2 : Fit b a) : a = b := by
  obtain ⟨l1, f1⟩ := h1
  obtain ⟨l2, f2⟩ := h2
  refine List.ext_getElem (by omega) (fun i hi hj => ?_)
  have g1 := f1 i hi
  have g2 := f2 i hj
  unfold FitAt at g1 g2
  rw [show b.length - a.length + i = i by omega] at g1
  rw [show a.length - b.length + i = i by omega] at g2
  rw [← rd_nat a i hi, ← rd_nat b i hj]
  omega
theorem fitsS_of {a b : List Int} (h1 : mayS a = 0) (h2 : mayS b = 0) (h : Fit a b) : fitsS a b = 0 := by
  unfold fitsS; rw [if_pos h1, if_pos h2, if_pos h]
theorem grownR_self (s : List Int) : ∀ (m i : Nat), s.length - i = m → grownR s 0 i (s.drop i) = []
  | 0, i, h => by rw [List.drop_of_length_le (by omega), grownR]
  | m + 1, i, h => by
    rw [drop_cons s i (by omega), grownR, if_pos ⟨by omega, by rw [Nat.sub_zero]⟩]
    exact grownR_self s m (i + 1) (by omega)
theorem grownR_nil (more : Nat) : ∀ (i : Nat) (t : List Int), i + t.length ≤ more → (grownR [] more i t).length = t.length
  | _, [], _ => rfl
  | i, d :: t, h => by
    simp only [List.length_cons] at h
    rw [grownR, if_neg (fun c => by omega), List.length_cons, grownR_nil more (i + 1) t (by omega), List.length_cons]

theorem ShapeChains : fluxionlaw06_ShapeChains.Pure := by
  intro a b c _ ha _ _ hb _ _ hc _
  refine Ev.rounds (g := fun k => fluxionlaw06_ShapeChains.f k a b c) ?_
  have hk : Ev (fun k => (fluxionlaw06_known.f k).bind fun t => some t) true := Ev.bind (f := fun _ t => some t) known_ev (Ev.now _)
  have j1 : Ev (fun k => fluxionlaw06_ShapeChains.j1 k a b (fitsS a b) false) true := by
    by_cases hab : fitsS a b = 0
    · refine Ev.step (f := fun k => (shape_Fits.f k b a).bind fun t => if t = 0 then ((shape_Same.f k a b).bind fun t2 => if t2 = true then ((fluxionlaw06_known.f k).bind fun t3 => some t3) else some false) else ((fluxionlaw06_known.f k).bind fun t4 => some t4)) (fun k => ?_) (Ev.bind (fits_ev b a (by omega) (by omega)) ?_)
      · simp only [fluxionlaw06_ShapeChains.j1, Bool.false_eq_true, if_false, hab, if_true]
      · by_cases hba : fitsS b a = 0
        · simp only [hba, if_true]
          refine Ev.bind (samesh_ev a b (by omega)) ?_
          simp only [fit_anti (fitsS_ok hab).2.2 (fitsS_ok hba).2.2, decide_true, if_true]; exact hk
        · simp only [hba, if_false]; exact hk
    · refine Ev.step (fun k => ?_) hk
      simp only [fluxionlaw06_ShapeChains.j1, Bool.false_eq_true, if_false, hab]
  have j0 : Ev (fun k => fluxionlaw06_ShapeChains.j0 k a b (fitsS a b) false) true := by
    refine Ev.step (fun k => by simp only [fluxionlaw06_ShapeChains.j0, Bool.false_eq_true, if_false]; rfl) (Ev.bind (may_ev a (by omega)) ?_)
    by_cases h0 : mayS a = 0
    · simp only [h0, if_true]
      have hn : mayS [] = 0 := by decide
      have e1 := fits_ev a a (by omega) (by omega)
      rw [fitsS_of h0 h0 (fit_self a)] at e1
      refine Ev.bind e1 ?_
      simp only [if_true]
      have e2 := grown_ev a a (by omega) (by omega)
      have g2 : grownS a a = [] := by
        unfold grownS; rw [if_pos (fitsS_of h0 h0 (fit_self a)), Nat.sub_self]
        exact grownR_self a a.length 0 rfl
      rw [g2] at e2
      refine Ev.bind e2 ?_
      simp only [List.length_nil, Int.natCast_zero, if_true]
      have e3 := fits_ev [] a (by simp) (by omega)
      rw [fitsS_of hn h0 (fit_nil a)] at e3
      refine Ev.bind e3 ?_
      simp only [if_true]
      refine Ev.bind (grown_ev [] a (by simp) (by omega)) ?_
      have g4 : (grownS [] a).length = a.length := by
        unfold grownS; rw [if_pos (fitsS_of hn h0 (fit_nil a))]
        exact grownR_nil _ 0 a (by simp)
      rw [g4, bne_self_eq_false]; exact j1
    · simp only [h0, if_false]; exact j1
  refine Ev.bind (fits_ev a b (by omega) (by omega)) ?_
  refine Ev.bind (fits_ev b c (by omega) (by omega)) ?_
  refine Ev.bind (fits_ev a c (by omega) (by omega)) ?_
  by_cases hab : fitsS a b = 0
  · rw [hab] at j0
    simp only [hab, if_true]
    by_cases hbc : fitsS b c = 0
    · obtain ⟨a1, a2, a3⟩ := fitsS_ok hab
      obtain ⟨b1, b2, b3⟩ := fitsS_ok hbc
      simp only [hbc, if_true, fitsS_of a1 b2 (fit_trans a3 b3), bne_self_eq_false]; exact j0
    · simp only [hbc, if_false]; exact j0
  · simp only [hab, if_false]; exact j0
end Go.Proofs.Ytfkohjngogjmkaa.Pure
