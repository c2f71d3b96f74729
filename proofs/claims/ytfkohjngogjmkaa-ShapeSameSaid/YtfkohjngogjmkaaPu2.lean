/- Plain laws on the Lean functions of chapter 06 (shape): Strides and the reference's Stride. No condition beyond those written. -/
import Derived.Test.YtfkohjngogjmkaaA5
import Derived.Test.YtfkohjngogjmkaaA8
import Derived.Test.YtfkohjngogjmkaaPu1
namespace Go.Proofs.Ytfkohjngogjmkaa.Print
open Go.RowKit Go.Proofs.YtfkohjngogjmkaaW.PrintWords Go.Proofs.YtfkohjngogjmkaaW.PrintLast

theorem may_of {s : List Int} (h : s.length ≤ 4) (hp : ∀ d ∈ s, 1 ≤ d) (hb : pr s ≤ 1024) : mayS s = 0 := by
  unfold mayS
  rw [if_neg (by omega), if_neg, if_neg (by omega)]
  intro ha
  obtain ⟨d, hd, hd1⟩ := List.any_eq_true.1 ha
  have := hp d hd
  simp at hd1; omega

/-- The strides: the products of what stands behind. -/
def stridesS (s : List Int) : List Int := (List.range s.length).map fun i => pr (s.drop (i + 1))
theorem stridesS_length (s : List Int) : (stridesS s).length = s.length := by simp [stridesS]
theorem rd_strides (s : List Int) (i : Nat) (h : i < s.length) : rd (stridesS s) (i : Int) = pr (s.drop (i + 1)) := by
  rw [rd_nat _ _ (by rw [stridesS_length]; exact h)]; simp [stridesS]

theorem pr_drop {s : List Int} (hp : ∀ d ∈ s, 1 ≤ d) (i : Nat) : 1 ≤ pr (s.drop i) ∧ pr (s.drop i) ≤ pr s := by
  have h1 := pr_pos (s.drop i) (fun d hd => hp d (List.mem_of_mem_drop hd))
  have h2 := pr_pos (s.take i) (fun d hd => hp d (List.mem_of_mem_take hd))
  have e := pr_append (s.take i) (s.drop i)
  rw [List.take_append_drop] at e
  refine ⟨h1, ?_⟩
  rw [e]
  have : 1 * pr (s.drop i) ≤ pr (s.take i) * pr (s.drop i) := Int.mul_le_mul_of_nonneg_right h2 (by omega)
  omega

theorem strides_loop (s : List Int) (h : s.length ≤ 4) (hp : ∀ d ∈ s, 1 ≤ d) (hb : pr s ≤ 1024) : ∀ (m : Nat) (i : Nat), s.length - i = m → i ≤ s.length →
    Ev (fun k => shape_Strides.l0 k s ((stridesS s).take i) (s.length : Int) (i : Int)) (stridesS s)
  | 0, i, hm, hi => by
    have e : i = s.length := by omega
    refine Ev.step (f := fun _ => some (stridesS s)) (fun k => ?_) (Ev.now _)
    simp only [shape_Strides.l0]; rw [if_neg (by omega), List.take_of_length_le (by rw [stridesS_length]; omega)]
  | m + 1, i, hm, hi => by
    have hlt : i < s.length := by omega
    have hw : wrap64 ((i : Int) + 1) = (i : Int) + 1 := wrap_id (by omega) (by omega)
    have hpe := product_ev (s.drop (i + 1)) (by simp; omega) (fun d hd => hp d (List.mem_of_mem_drop hd))
    obtain ⟨hd1, hd2⟩ := pr_drop hp (i + 1)
    rw [prodS_small _ 1 (by omega) (fun d hd => hp d (List.mem_of_mem_drop hd)) (by omega), Int.one_mul] at hpe
    refine Ev.step (fun k => ?_) (Ev.bind (f := fun k t => shape_Strides.l0 k s ((stridesS s).take i ++ [t]) (s.length : Int) ((i : Int) + 1)) hpe ?_)
    · simp only [shape_Strides.l0]; rw [if_pos (by omega), hw, if_pos (by omega), if_pos (by omega), show ((i : Int) + 1).toNat = i + 1 by omega]
      congr 1; funext t; rw [if_pos (by rw [List.length_take]; omega)]
    · have e : (stridesS s).take i ++ [pr (s.drop (i + 1))] = (stridesS s).take (i + 1) := by
        rw [List.take_succ_eq_append_getElem (by rw [stridesS_length]; exact hlt)]; simp [stridesS]
      rw [e]
      exact strides_loop s h hp hb m (i + 1) (by omega) (by omega)

theorem strides_ev (s : List Int) (hs : s.length ≤ 4611686018427387904) : Ev (fun k => shape_Strides.f k s) (if mayS s = 0 then stridesS s else []) := by
  refine Ev.congr (fun k => ?_) (Ev.bind (f := fun k t => if t = 0 then shape_Strides.l0 k s [] (s.length : Int) 0 else some []) (may_ev s hs) ?_)
  · unfold shape_Strides.f; rfl
  · by_cases h : mayS s = 0
    · rw [if_pos h]
      obtain ⟨h1, h2, h3⟩ := may_ok h
      simp only [h, if_true]
      exact strides_loop s h1 h2 h3 s.length 0 (by omega) (by omega)
    · rw [if_neg h]
      simp only [h, if_false]; exact Ev.now _

theorem refstride_loop (s : List Int) (h : s.length ≤ 4) (hp : ∀ d ∈ s, 1 ≤ d) : ∀ (m : Nat) (i : Nat) (n : Int), s.length - i = m → i ≤ s.length → 1 ≤ n → n * pr (s.drop i) ≤ 1024 →
    Ev (fun k => fluxionref06_Stride.l0 k s n (i : Int)) (n * pr (s.drop i))
  | 0, i, n, hm, hi, hn, hn2 => by
    have e : i = s.length := by omega
    subst e
    rw [List.drop_length]; simp only [pr, Int.mul_one]
    refine Ev.step (f := fun _ => some n) (fun k => ?_) (Ev.now _)
    simp only [fluxionref06_Stride.l0]; rw [if_neg (by omega)]
  | m + 1, i, n, hm, hi, hn, hn2 => by
    have hlt : i < s.length := by omega
    rw [drop_cons s i hlt] at hn2 ⊢
    have hd : 1 ≤ rd s (i : Int) := by rw [rd_nat s i hlt]; exact hp _ (List.getElem_mem hlt)
    have hpp : 1 ≤ pr (s.drop (i + 1)) := pr_pos _ (fun d hd => hp d (List.mem_of_mem_drop hd))
    have e : n * pr (rd s (i : Int) :: s.drop (i + 1)) = (n * rd s (i : Int)) * pr (s.drop (i + 1)) := by simp [pr, Int.mul_assoc]
    rw [e] at hn2 ⊢
    have hnd : 1 ≤ n * rd s (i : Int) := by have := Int.mul_le_mul hn hd (by omega) (by omega); omega
    have hge : n * rd s (i : Int) ≤ (n * rd s (i : Int)) * pr (s.drop (i + 1)) := by
      have : n * rd s (i : Int) * 1 ≤ n * rd s (i : Int) * pr (s.drop (i + 1)) := Int.mul_le_mul_of_nonneg_left hpp (by omega)
      omega
    have ih := refstride_loop s h hp m (i + 1) (n * rd s (i : Int)) (by omega) (by omega) hnd (by omega)
    refine Ev.step (fun k => ?_) ih
    simp only [fluxionref06_Stride.l0]; rw [if_pos (by omega), if_pos (by omega), wrap_id (by omega) (by omega), wrap_id (by omega) (by omega)]
    rfl

theorem refstride_ev (s : List Int) (i : Nat) (hi : i < s.length) (h : s.length ≤ 4) (hp : ∀ d ∈ s, 1 ≤ d) (hb : pr s ≤ 1024) : Ev (fun k => fluxionref06_Stride.f k s (i : Int)) (pr (s.drop (i + 1))) := by
  have h1 := pr_drop hp (i + 1)
  have h2 := refstride_loop s h hp (s.length - (i + 1)) (i + 1) 1 rfl (by omega) (by omega) (by omega)
  rw [Int.one_mul] at h2
  refine Ev.congr (fun k => ?_) h2
  unfold fluxionref06_Stride.f; rw [wrap_id (by omega) (by omega)]; rfl
end Go.Proofs.Ytfkohjngogjmkaa.Print
