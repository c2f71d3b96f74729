/- ShapeSame: shape.Same answers as the document's, and the list's copy is as the list; for any two lists. No condition. -/
import Derived.Test.YtfkohjngogjmkaaHSame
import Derived.Test.YtfkohjngogjmkaaA24
import Derived.Test.YtfkohjngogjmkaaPu2
import Derived.Test.YtfkohjngogjmkaaKnown
import Derived.Test.YtfkohjngogjmkaaT2
import Derived.Test.YtfkohjngogjmkaaT4
import Derived.Test.YtfkohjngogjmkaaA27
import Derived.Test.YtfkohjngogjmkaaA26
namespace Go.Proofs.Ytfkohjngogjmkaa.Pure
open Go.RowKit Go.Proofs.Ytfkohjngogjmkaa.Print Go.Proofs.YtfkohjngogjmkaaW.PrintWords Go.Proofs.YtfkohjngogjmkaaW.PrintLast

theorem equal_loop (a b : List Int) (hl : a.length = b.length) (hs : a.length ≤ 4611686018427387904) : ∀ (m : Nat) (i : Nat), a.length - i = m → i ≤ a.length →
    Ev (fun k => api_Shape_int_48.l0 k a b (a.length : Int) (i : Int)) (decide (a.drop i = b.drop i))
  | 0, i, hm, hi => by
    have e : i = a.length := by omega
    have h1 : a.drop i = [] := by rw [e]; exact List.drop_length
    have h2 : b.drop i = [] := by rw [e, hl]; exact List.drop_length
    rw [h1, h2]
    refine Ev.step (f := fun _ => some true) (fun k => ?_) ?_
    · simp only [api_Shape_int_48.l0]; rw [if_neg (by omega)]
    · simp; exact Ev.now _
  | m + 1, i, hm, hi => by
    have hlt : i < a.length := by omega
    rw [drop_cons a i hlt, drop_cons b i (by omega)]
    by_cases hc : rd a (i : Int) = rd b (i : Int)
    · have ih := equal_loop a b hl hs m (i + 1) (by omega) (by omega)
      refine Ev.step (fun k => ?_) (by simp only [List.cons.injEq, hc, true_and]; exact ih)
      simp only [api_Shape_int_48.l0]; rw [if_pos (by omega), if_pos (by omega), if_pos (by omega), if_pos (by omega), if_pos hc, wrap_id (by omega) (by omega)]
      rfl
    · refine Ev.step (f := fun _ => some false) (fun k => ?_) ?_
      · simp only [api_Shape_int_48.l0]; rw [if_pos (by omega), if_pos (by omega), if_pos (by omega), if_pos (by omega), if_neg hc]
      · simp only [List.cons.injEq, hc, false_and, decide_false]; exact Ev.now _
theorem samesh_ev (a b : List Int) (hs : a.length ≤ 4611686018427387904) : Ev (fun k => shape_Same.f k a b) (decide (a = b)) := by
  refine Ev.bind (f := fun _ t => some t) (g := fun k => api_Shape_int_48.f k a b) (a := decide (a = b)) ?_ (Ev.now _)
  by_cases hl : a.length = b.length
  · refine Ev.congr (fun k => ?_) (equal_loop a b hl hs a.length 0 (by omega) (by omega))
    unfold api_Shape_int_48.f; rw [if_pos (by omega)]; rfl
  · refine Ev.congr (f := fun _ => some false) (fun k => ?_) ?_
    · unfold api_Shape_int_48.f; rw [if_neg (by omega)]
    · rw [decide_eq_false (fun e => hl (by rw [e]))]; exact Ev.now _

theorem nocontains_ev (n : Int) : Ev (fun k => slices_Contains_int_int.f k [] n) false := by
  refine Ev.bind (f := fun _ t => some (decide (t ≥ 0))) (g := fun k => slices_Index_int_int.f k [] n) (a := (-1 : Int)) ?_ (Ev.now _)
  refine Ev.step (f := fun _ => some (-1)) (fun k => ?_) (Ev.now _)
  simp only [slices_Index_int_int.f, slices_Index_int_int.l0, List.length_nil]; rfl

theorem nodrop_loop (s : List Int) (hs : s.length < 17592186044416) : ∀ (m : Nat) (i : Nat), s.length - i = m → i ≤ s.length →
    Ev (fun k => shape_turned_45.l0 k [] (s.take i) s (s.length : Int) (i : Int)) s
  | 0, i, hm, hi => by
    have e : i = s.length := by omega
    refine Ev.step (f := fun _ => some s) (fun k => ?_) (Ev.now _)
    simp only [shape_turned_45.l0]; rw [if_neg (by omega), e, List.take_length]
  | m + 1, i, hm, hi => by
    have hlt : i < s.length := by omega
    have hw1 : wrap64 ((i : Int) + 1) = ((i + 1 : Nat) : Int) := by rw [wrap_id (by omega) (by omega)]; rfl
    have ha : (s.take i).length < 17592186044416 := by rw [List.length_take]; omega
    refine Ev.step (f := fun k => (slices_Contains_int_int.f k [] (i : Int)).bind fun t => if t = true then shape_turned_45.l0 k [] (s.take i) s (s.length : Int) ((i + 1 : Nat) : Int) else shape_turned_45.l0 k [] (s.take i ++ [rd s (i : Int)]) s (s.length : Int) ((i + 1 : Nat) : Int)) (fun k => ?_) (Ev.bind (nocontains_ev (i : Int)) ?_)
    · simp only [shape_turned_45.l0, if_pos ha]; rw [if_pos (by omega), if_pos (by omega), if_pos (by omega), hw1]; rfl
    · simp only [Bool.false_eq_true, if_false]
      have ih := nodrop_loop s hs m (i + 1) (by omega) (by omega)
      rw [List.take_succ_eq_append_getElem hlt, ← rd_nat s i hlt] at ih
      exact ih
theorem noones_loop (s : List Int) (hs : s.length < 17592186044416) : ∀ (m : Nat) (i : Nat), s.length - i = m → i ≤ s.length →
    Ev (fun k => shape_turned_46.l0 k [] (s.take i) s (s.length : Int) (i : Int)) s
  | 0, i, hm, hi => by
    have e : i = s.length := by omega
    refine Ev.step (f := fun _ => some s) (fun k => ?_) (Ev.now _)
    simp only [shape_turned_46.l0]; rw [if_neg (by omega), e, List.take_length]
  | m + 1, i, hm, hi => by
    have hlt : i < s.length := by omega
    have hw1 : wrap64 ((i : Int) + 1) = ((i + 1 : Nat) : Int) := by rw [wrap_id (by omega) (by omega)]; rfl
    have ha : (s.take i).length < 17592186044416 := by rw [List.length_take]; omega
    refine Ev.step (f := fun k => (slices_Contains_int_int.f k [] (i : Int)).bind fun t => if t = true then (shape_Ones_1.f (s.take i)).bind fun q => shape_turned_46.l0 k [] q s (s.length : Int) ((i + 1 : Nat) : Int) else shape_turned_46.l0 k [] (s.take i ++ [rd s (i : Int)]) s (s.length : Int) ((i + 1 : Nat) : Int)) (fun k => ?_) (Ev.bind (nocontains_ev (i : Int)) ?_)
    · simp only [shape_turned_46.l0, if_pos ha]; rw [if_pos (by omega), if_pos (by omega), if_pos (by omega), hw1]
    · simp only [Bool.false_eq_true, if_false]
      have ih := noones_loop s hs m (i + 1) (by omega) (by omega)
      rw [List.take_succ_eq_append_getElem hlt, ← rd_nat s i hlt] at ih
      exact ih

theorem ShapeSame : fluxionlaw06_ShapeSame.Pure := by
  intro a b _ ha _ _ hb _
  refine Ev.rounds (g := fun k => fluxionlaw06_ShapeSame.f k a b) ?_
  refine Ev.bind (samesh_ev a b (by omega)) ?_
  refine Ev.bind (same_ev a b (by omega)) ?_
  have hl : a.length < 17592186044416 := by omega
  simp only [if_true, if_pos hl]
  refine Ev.bind (f := fun k d => (shape_Ones.f k a []).bind fun o => (shape_Strides.f k a).bind fun s => (fluxionref06_SameList.f k a a).bind fun t3 => if t3 = true then (fluxionlaw06_known.f k).bind fun t4 => some t4 else none) (g := fun k => shape_Drop.f k a []) (a := a) (Ev.bind (f := fun _ t => some t) (g := fun k => shape_turned_45.f k a [] ()) (nodrop_loop a hl a.length 0 (by omega) (by omega)) (Ev.now _)) ?_
  refine Ev.bind (f := fun k o => (shape_Strides.f k a).bind fun s => (fluxionref06_SameList.f k a a).bind fun t3 => if t3 = true then (fluxionlaw06_known.f k).bind fun t4 => some t4 else none) (g := fun k => shape_Ones.f k a []) (a := a) (Ev.bind (f := fun _ t => some t) (g := fun k => shape_turned_46.f k a [] ()) (noones_loop a hl a.length 0 (by omega) (by omega)) (Ev.now _)) ?_
  refine Ev.bind (strides_ev a (by omega)) ?_
  refine Ev.bind (same_ev a a (by omega)) ?_
  simp only [decide_true, if_true]
  exact Ev.bind (f := fun _ t => some t) known_ev (Ev.now _)
end Go.Proofs.Ytfkohjngogjmkaa.Pure
