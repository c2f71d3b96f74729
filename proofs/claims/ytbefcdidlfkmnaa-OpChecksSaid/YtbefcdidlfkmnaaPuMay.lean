/- Plain laws of shapes: what shape.May, shape.product and the document's May come to, from some number of rounds on; no condition beyond those written. -/
import Derived.Test.YtbefcdidlfkmnaaA16
import Derived.Test.YtbefcdidlfkmnaaA15
import Derived.Test.YtbefcdidlfkmnaaA5
namespace Go.Proofs.Ytbefcdidlfkmnaa.Print
open Go.RowKit Go.Proofs.YtbefcdidlfkmnaaW.PrintWords Go.Proofs.YtbefcdidlfkmnaaW.PrintLast
set_option linter.unusedVariables false
set_option linter.unusedSimpArgs false

theorem wrap_id {x : Int} (h0 : -9223372036854775808 ≤ x) (h1 : x ≤ 9223372036854775807) : wrap64 x = x := by
  unfold wrap64; omega

theorem rd_nat (s : List Int) (i : Nat) (h : i < s.length) : rd s (i : Int) = s[i] := by
  simp [rd, h]

theorem drop_cons (s : List Int) (i : Nat) (h : i < s.length) : s.drop i = rd s (i : Int) :: s.drop (i + 1) := by
  rw [rd_nat s i h]; exact List.drop_eq_getElem_cons h

/-- The product of a list. -/
def pr : List Int → Int
  | [] => 1
  | d :: ds => d * pr ds

theorem pr_pos : ∀ (s : List Int), (∀ d ∈ s, 1 ≤ d) → 1 ≤ pr s
  | [], _ => by simp [pr]
  | d :: ds, h => by
    have h1 := pr_pos ds (fun x hx => h x (List.mem_cons_of_mem _ hx))
    have h2 := h d (List.mem_cons_self ..)
    have : 1 * 1 ≤ d * pr ds := Int.mul_le_mul h2 h1 (by omega) (by omega)
    simpa [pr] using this

theorem pr_append (a b : List Int) : pr (a ++ b) = pr a * pr b := by
  induction a with
  | nil => simp [pr]
  | cons d ds ih => simp [pr, ih, Int.mul_assoc]

/-- 'product' as the program has it: it stops above 1024. -/
def prodS : Int → List Int → Int
  | n, [] => n
  | n, d :: ds => if d > 1024 / n then 1025 else prodS (n * d) ds

theorem gt_div {n d : Int} (hn : 1 ≤ n) : d > 1024 / n ↔ 1024 < n * d := by
  rw [gt_iff_lt, Int.ediv_lt_iff_lt_mul (by omega), Int.mul_comm]

theorem prodS_small : ∀ (ds : List Int) (n : Int), 1 ≤ n → (∀ d ∈ ds, 1 ≤ d) → n * pr ds ≤ 1024 → prodS n ds = n * pr ds
  | [], n, _, _, _ => by simp [prodS, pr]
  | d :: ds, n, hn, h, hp => by
    have h2 := h d (List.mem_cons_self ..)
    have h1 := pr_pos ds (fun x hx => h x (List.mem_cons_of_mem _ hx))
    have hnd : 1 ≤ n * d := by have := Int.mul_le_mul hn h2 (by omega) (by omega); omega
    have e : n * pr (d :: ds) = (n * d) * pr ds := by simp [pr, Int.mul_assoc]
    rw [e] at hp ⊢
    have hle : n * d ≤ 1024 := by
      have : n * d * 1 ≤ n * d * pr ds := Int.mul_le_mul_of_nonneg_left h1 (by omega)
      omega
    rw [prodS, if_neg (by rw [gt_div hn]; omega)]
    exact prodS_small ds (n * d) hnd (fun x hx => h x (List.mem_cons_of_mem _ hx)) hp

theorem prodS_big : ∀ (ds : List Int) (n : Int), 1 ≤ n → n ≤ 1024 → (∀ d ∈ ds, 1 ≤ d) → 1024 < n * pr ds → prodS n ds = 1025
  | [], n, _, hm, _, hp => by simp [pr] at hp; omega
  | d :: ds, n, hn, hm, h, hp => by
    have h2 := h d (List.mem_cons_self ..)
    have hnd : 1 ≤ n * d := by have := Int.mul_le_mul hn h2 (by omega) (by omega); omega
    have e : n * pr (d :: ds) = (n * d) * pr ds := by simp [pr, Int.mul_assoc]
    rw [e] at hp
    rw [prodS]
    by_cases hc : d > 1024 / n
    · rw [if_pos hc]
    · rw [if_neg hc]
      rw [gt_div hn] at hc
      exact prodS_big ds (n * d) hnd (by omega) (fun x hx => h x (List.mem_cons_of_mem _ hx)) hp

theorem product_loop (s : List Int) (hs : s.length ≤ 4611686018427387904) (hp : ∀ d ∈ s, 1 ≤ d) : ∀ (m : Nat) (i : Nat) (n : Int), s.length - i = m → i ≤ s.length → 1 ≤ n → n ≤ 1024 →
    Ev (fun k => shape_product.l0 k n s (s.length : Int) (i : Int)) (prodS n (s.drop i))
  | 0, i, n, hm, hi, hn, hn2 => by
    have e : i = s.length := by omega
    refine Ev.step (f := fun _ => some n) (fun k => ?_) ?_
    · simp only [shape_product.l0]; rw [if_neg (by omega)]
    · rw [e, List.drop_length]; exact Ev.now _
  | m + 1, i, n, hm, hi, hn, hn2 => by
    have hlt : i < s.length := by omega
    rw [drop_cons s i hlt]
    have hd : 1 ≤ rd s (i : Int) := by rw [rd_nat s i hlt]; exact hp _ (List.getElem_mem hlt)
    have hq : wrap64 (Int.tdiv (1024 : Int) n) = 1024 / n := by
      rw [Int.tdiv_eq_ediv_of_nonneg (by omega)]
      have h1 : 0 ≤ (1024 : Int) / n := Int.ediv_nonneg (by omega) (by omega)
      have h2 : (1024 : Int) / n ≤ 1024 := Int.ediv_le_self _ (by omega)
      exact wrap_id (by omega) (by omega)
    by_cases hc : rd s (i : Int) > 1024 / n
    · refine Ev.step (f := fun _ => some 1025) (fun k => ?_) ?_
      · simp only [shape_product.l0]; rw [if_pos (by omega), if_pos (by omega), if_pos (by omega), if_neg (by omega), hq, if_pos hc]
      · rw [prodS, if_pos hc]; exact Ev.now _
    · have hc' := hc
      rw [gt_div hn] at hc'
      have hnd : 1 ≤ n * rd s (i : Int) := by have := Int.mul_le_mul hn hd (by omega) (by omega); omega
      have ih := product_loop s hs hp m (i + 1) (n * rd s (i : Int)) (by omega) (by omega) hnd (by omega)
      refine Ev.step (fun k => ?_) (by rw [prodS, if_neg hc]; exact ih)
      simp only [shape_product.l0]; rw [if_pos (by omega), if_pos (by omega), if_pos (by omega), if_neg (by omega), hq, if_neg hc, wrap_id (by omega) (by omega), wrap_id (by omega) (by omega)]
      rfl

theorem product_ev (s : List Int) (hs : s.length ≤ 4611686018427387904) (hp : ∀ d ∈ s, 1 ≤ d) : Ev (fun k => shape_product.f k s) (prodS 1 s) := by
  have h := product_loop s hs hp s.length 0 1 (by omega) (by omega) (by omega) (by omega)
  exact h

/-- Why a shape may not be. -/
def mayS (s : List Int) : Int := if s.length > 4 then 14 else if s.any (fun d => decide (d < 1)) = true then 13 else if pr s > 1024 then 14 else 0

theorem any_false {s : List Int} (h : s.any (fun d => decide (d < 1)) = false) : ∀ d ∈ s, 1 ≤ d := by
  intro d hd
  have := List.any_eq_false.1 h d hd
  simp at this; omega

theorem may_loop (s : List Int) (hs : s.length ≤ 4) : ∀ (m : Nat) (i : Nat), s.length - i = m → i ≤ s.length → (∀ d ∈ s.take i, 1 ≤ d) →
    Ev (fun k => shape_May.l0 k s s (s.length : Int) (i : Int)) (if (s.drop i).any (fun d => decide (d < 1)) = true then 13 else if pr s > 1024 then 14 else 0)
  | 0, i, hm, hi, hp => by
    have e : i = s.length := by omega
    subst e
    have hp' : ∀ d ∈ s, 1 ≤ d := by simpa using hp
    have hpe := product_ev s (by omega) hp'
    rw [List.drop_length]
    simp only [List.any_nil, Bool.false_eq_true, if_false]
    refine Ev.step (f := fun k => (shape_product.f k s).bind fun t => if t > 1024 then some 14 else some 0) (fun k => ?_) (Ev.bind hpe ?_)
    · simp only [shape_May.l0]; rw [if_neg (by omega)]
    · by_cases hb : pr s > 1024
      · rw [prodS_big s 1 (by omega) (by omega) hp' (by omega), if_pos hb]; exact Ev.now _
      · rw [prodS_small s 1 (by omega) hp' (by omega), if_neg hb, if_neg (by omega)]; exact Ev.now _
  | m + 1, i, hm, hi, hp => by
    have hlt : i < s.length := by omega
    rw [drop_cons s i hlt]
    by_cases hc : rd s (i : Int) < 1
    · refine Ev.step (f := fun _ => some 13) (fun k => ?_) ?_
      · simp only [shape_May.l0]; rw [if_pos (by omega), if_pos (by omega), if_pos (by omega), if_pos hc]
      · simp only [List.any_cons, decide_eq_true hc, Bool.true_or, if_true]; exact Ev.now _
    · have ih := may_loop s hs m (i + 1) (by omega) (by omega) (by
        intro d hd
        rw [List.take_succ_eq_append_getElem hlt] at hd
        rcases List.mem_append.1 hd with h | h
        · exact hp d h
        · simp at h; rw [rd_nat s i hlt] at hc; omega)
      refine Ev.step (fun k => ?_) (by simp only [List.any_cons, decide_eq_false hc, Bool.false_or]; exact ih)
      simp only [shape_May.l0]; rw [if_pos (by omega), if_pos (by omega), if_pos (by omega), if_neg hc, wrap_id (by omega) (by omega)]
      rfl

theorem may_ev (s : List Int) (hs : s.length ≤ 4611686018427387904) : Ev (fun k => shape_May.f k s) (mayS s) := by
  unfold mayS
  by_cases hl : s.length > 4
  · rw [if_pos hl]
    refine Ev.congr (f := fun _ => some 14) (fun k => ?_) (Ev.now _)
    unfold shape_May.f; rw [if_pos (by omega)]
  · rw [if_neg hl]
    have h := may_loop s (by omega) s.length 0 (by omega) (by omega) (by simp)
    refine Ev.congr (fun k => ?_) h
    unfold shape_May.f; rw [if_neg (by omega)]; rfl

theorem may_ok {s : List Int} (h : mayS s = 0) : s.length ≤ 4 ∧ (∀ d ∈ s, 1 ≤ d) ∧ pr s ≤ 1024 := by
  unfold mayS at h
  split at h
  · omega
  · split at h
    · omega
    · split at h
      · omega
      · rename_i h1 h2 h3
        exact ⟨by omega, any_false (by simpa using h2), by omega⟩

theorem refmay_l1 (s : List Int) (hs : s.length ≤ 4) (hp : ∀ d ∈ s, 1 ≤ d) : ∀ (m : Nat) (i : Nat) (n : Int), s.length - i = m → i ≤ s.length → 1 ≤ n → n ≤ 1024 →
    Ev (fun k => fluxionref06_May.l1 k s n (i : Int)) (if n * pr (s.drop i) > 1024 then 14 else 0)
  | 0, i, n, hm, hi, hn, hn2 => by
    have e : i = s.length := by omega
    subst e
    rw [List.drop_length]; simp only [pr, Int.mul_one]; rw [if_neg (by omega)]
    refine Ev.step (f := fun _ => some 0) (fun k => ?_) (Ev.now _)
    simp only [fluxionref06_May.l1]; rw [if_neg (by omega)]
  | m + 1, i, n, hm, hi, hn, hn2 => by
    have hlt : i < s.length := by omega
    rw [drop_cons s i hlt]
    have hd : 1 ≤ rd s (i : Int) := by rw [rd_nat s i hlt]; exact hp _ (List.getElem_mem hlt)
    have hpp : 1 ≤ pr (s.drop (i + 1)) := pr_pos _ (fun d hd => hp d (List.mem_of_mem_drop hd))
    have e : n * pr (rd s (i : Int) :: s.drop (i + 1)) = (n * rd s (i : Int)) * pr (s.drop (i + 1)) := by simp [pr, Int.mul_assoc]
    rw [e]
    have hnd : 1 ≤ n * rd s (i : Int) := by have := Int.mul_le_mul hn hd (by omega) (by omega); omega
    have hge : n * rd s (i : Int) ≤ (n * rd s (i : Int)) * pr (s.drop (i + 1)) := by
      have : n * rd s (i : Int) * 1 ≤ n * rd s (i : Int) * pr (s.drop (i + 1)) := Int.mul_le_mul_of_nonneg_left hpp (by omega)
      omega
    have hge2 : rd s (i : Int) ≤ n * rd s (i : Int) := by
      have : 1 * rd s (i : Int) ≤ n * rd s (i : Int) := Int.mul_le_mul_of_nonneg_right hn (by omega)
      omega
    by_cases hc : rd s (i : Int) > 1024
    · rw [if_pos (by omega)]
      refine Ev.step (f := fun _ => some 14) (fun k => ?_) (Ev.now _)
      simp only [fluxionref06_May.l1]; rw [if_pos (by omega), if_pos (by omega), if_pos hc]
    · have hub : n * rd s (i : Int) ≤ 1024 * 1024 := Int.mul_le_mul hn2 (by omega) (by omega) (by omega)
      have hw : wrap64 (n * rd s (i : Int)) = n * rd s (i : Int) := wrap_id (by omega) (by omega)
      by_cases hc2 : n * rd s (i : Int) > 1024
      · rw [if_pos (by omega)]
        refine Ev.step (f := fun _ => some 14) (fun k => ?_) (Ev.now _)
        simp only [fluxionref06_May.l1]; rw [if_pos (by omega), if_pos (by omega), if_neg hc, hw, if_pos hc2]
      · have ih := refmay_l1 s hs hp m (i + 1) (n * rd s (i : Int)) (by omega) (by omega) hnd (by omega)
        refine Ev.step (fun k => ?_) ih
        simp only [fluxionref06_May.l1]; rw [if_pos (by omega), if_pos (by omega), if_neg hc, hw, if_neg hc2, wrap_id (by omega) (by omega)]
        rfl

theorem refmay_l0 (s : List Int) (hs : s.length ≤ 4) : ∀ (m : Nat) (i : Nat), s.length - i = m → i ≤ s.length → (∀ d ∈ s.take i, 1 ≤ d) →
    Ev (fun k => fluxionref06_May.l0 k s (i : Int)) (if (s.drop i).any (fun d => decide (d < 1)) = true then 13 else if pr s > 1024 then 14 else 0)
  | 0, i, hm, hi, hp => by
    have e : i = s.length := by omega
    subst e
    have hp' : ∀ d ∈ s, 1 ≤ d := by simpa using hp
    have h := refmay_l1 s hs hp' s.length 0 1 (by omega) (by omega) (by omega) (by omega)
    rw [List.drop_length]
    simp only [List.any_nil, Bool.false_eq_true, if_false]
    simp only [List.drop_zero, Int.one_mul] at h
    refine Ev.step (fun k => ?_) h
    simp only [fluxionref06_May.l0]; rw [if_neg (by omega)]; rfl
  | m + 1, i, hm, hi, hp => by
    have hlt : i < s.length := by omega
    rw [drop_cons s i hlt]
    by_cases hc : rd s (i : Int) < 1
    · refine Ev.step (f := fun _ => some 13) (fun k => ?_) ?_
      · simp only [fluxionref06_May.l0]; rw [if_pos (by omega), if_pos (by omega), if_pos hc]
      · simp only [List.any_cons, decide_eq_true hc, Bool.true_or, if_true]; exact Ev.now _
    · have ih := refmay_l0 s hs m (i + 1) (by omega) (by omega) (by
        intro d hd
        rw [List.take_succ_eq_append_getElem hlt] at hd
        rcases List.mem_append.1 hd with h | h
        · exact hp d h
        · simp at h; rw [rd_nat s i hlt] at hc; omega)
      refine Ev.step (fun k => ?_) (by simp only [List.any_cons, decide_eq_false hc, Bool.false_or]; exact ih)
      simp only [fluxionref06_May.l0]; rw [if_pos (by omega), if_pos (by omega), if_neg hc, wrap_id (by omega) (by omega)]
      rfl

theorem refmay_ev (s : List Int) (hs : s.length ≤ 4611686018427387904) : Ev (fun k => fluxionref06_May.f k s) (mayS s) := by
  unfold mayS
  by_cases hl : s.length > 4
  · rw [if_pos hl]
    refine Ev.congr (f := fun _ => some 14) (fun k => ?_) (Ev.now _)
    unfold fluxionref06_May.f; rw [if_pos (by omega)]
  · rw [if_neg hl]
    have h := refmay_l0 s (by omega) s.length 0 (by omega) (by omega) (by simp)
    refine Ev.congr (fun k => ?_) h
    unfold fluxionref06_May.f; rw [if_neg (by omega)]; rfl
end Go.Proofs.Ytbefcdidlfkmnaa.Print
