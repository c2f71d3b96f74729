/- Plain laws on ops and attributes: what op.Check and op.Explicit say is what the document says; no condition beyond those written. -/
import Derived.Test.YtbefcdidlfkmnaaHCheck
import Derived.Test.YtbefcdidlfkmnaaHExplicit
import Derived.Test.YtbefcdidlfkmnaaHOf
import Derived.Test.YtbefcdidlfkmnaaA1
import Derived.Test.YtbefcdidlfkmnaaA2
import Derived.Test.YtbefcdidlfkmnaaA7
import Derived.Test.YtbefcdidlfkmnaaA11
import Derived.Test.YtbefcdidlfkmnaaA16
import Derived.Test.YtbefcdidlfkmnaaA15
import Derived.Test.YtbefcdidlfkmnaaA5
namespace Go.Proofs.Ytbefcdidlfkmnaa.Print
open Go.RowKit Go.Proofs.YtbefcdidlfkmnaaW.PrintWords Go.Proofs.YtbefcdidlfkmnaaW.PrintLast Go.Proofs.YtbefcdidlfkmnaaW.PrintMore
set_option linter.unusedVariables false
set_option linter.unusedSimpArgs false


theorem wrap_id {x : Int} (h0 : -9223372036854775808 ≤ x) (h1 : x ≤ 9223372036854775807) : wrap64 x = x := by
  unfold wrap64; omega

theorem rd_nat (s : List Int) (i : Nat) (h : i < s.length) : rd s (i : Int) = s[i] := by
  simp [rd, h]

theorem drop_cons (s : List Int) (i : Nat) (h : i < s.length) : s.drop i = rd s (i : Int) :: s.drop (i + 1) := by
  rw [rd_nat s i h]; exact List.drop_eq_getElem_cons h

/-- The product of a list. -/
def pr : List Int → Int
  | [] => 1
  | d :: ds => d * pr ds

theorem pr_pos : ∀ (s : List Int), (∀ d ∈ s, 1 ≤ d) → 1 ≤ pr s
  | [], _ => by simp [pr]
  | d :: ds, h => by
    have h1 := pr_pos ds (fun x hx => h x (List.mem_cons_of_mem _ hx))
    have h2 := h d (List.mem_cons_self ..)
    have : 1 * 1 ≤ d * pr ds := Int.mul_le_mul h2 h1 (by omega) (by omega)
    simpa [pr] using this

theorem pr_append (a b : List Int) : pr (a ++ b) = pr a * pr b := by
  induction a with
  | nil => simp [pr]
  | cons d ds ih => simp [pr, ih, Int.mul_assoc]

/-- 'product' as the program has it: it stops above 1024. -/
def prodS : Int → List Int → Int
  | n, [] => n
  | n, d :: ds => if d > 1024 / n then 1025 else prodS (n * d) ds

theorem gt_div {n d : Int} (hn : 1 ≤ n) : d > 1024 / n ↔ 1024 < n * d := by
  rw [gt_iff_lt, Int.ediv_lt_iff_lt_mul (by omega), Int.mul_comm]

theorem prodS_small : ∀ (ds : List Int) (n : Int), 1 ≤ n → (∀ d ∈ ds, 1 ≤ d) → n * pr ds ≤ 1024 → prodS n ds = n * pr ds
  | [], n, _, _, _ => by simp [prodS, pr]
  | d :: ds, n, hn, h, hp => by
    have h2 := h d (List.mem_cons_self ..)
    have h1 := pr_pos ds (fun x hx => h x (List.mem_cons_of_mem _ hx))
    have hnd : 1 ≤ n * d := by have := Int.mul_le_mul hn h2 (by omega) (by omega); omega
    have e : n * pr (d :: ds) = (n * d) * pr ds := by simp [pr, Int.mul_assoc]
    rw [e] at hp ⊢
    have hle : n * d ≤ 1024 := by
      have : n * d * 1 ≤ n * d * pr ds := Int.mul_le_mul_of_nonneg_left h1 (by omega)
      omega
    rw [prodS, if_neg (by rw [gt_div hn]; omega)]
    exact prodS_small ds (n * d) hnd (fun x hx => h x (List.mem_cons_of_mem _ hx)) hp

theorem prodS_big : ∀ (ds : List Int) (n : Int), 1 ≤ n → n ≤ 1024 → (∀ d ∈ ds, 1 ≤ d) → 1024 < n * pr ds → prodS n ds = 1025
  | [], n, _, hm, _, hp => by simp [pr] at hp; omega
  | d :: ds, n, hn, hm, h, hp => by
    have h2 := h d (List.mem_cons_self ..)
    have hnd : 1 ≤ n * d := by have := Int.mul_le_mul hn h2 (by omega) (by omega); omega
    have e : n * pr (d :: ds) = (n * d) * pr ds := by simp [pr, Int.mul_assoc]
    rw [e] at hp
    rw [prodS]
    by_cases hc : d > 1024 / n
    · rw [if_pos hc]
    · rw [if_neg hc]
      rw [gt_div hn] at hc
      exact prodS_big ds (n * d) hnd (by omega) (fun x hx => h x (List.mem_cons_of_mem _ hx)) hp

theorem product_loop (s : List Int) (hs : s.length ≤ 4611686018427387904) (hp : ∀ d ∈ s, 1 ≤ d) : ∀ (m : Nat) (i : Nat) (n : Int), s.length - i = m → i ≤ s.length → 1 ≤ n → n ≤ 1024 →
    Ev (fun k => shape_product.l0 k n s (s.length : Int) (i : Int)) (prodS n (s.drop i))
  | 0, i, n, hm, hi, hn, hn2 => by
    have e : i = s.length := by omega
    refine Ev.step (f := fun _ => some n) (fun k => ?_) ?_
    · simp only [shape_product.l0]; rw [if_neg (by omega)]
    · rw [e, List.drop_length]; exact Ev.now _
  | m + 1, i, n, hm, hi, hn, hn2 => by
    have hlt : i < s.length := by omega
    rw [drop_cons s i hlt]
    have hd : 1 ≤ rd s (i : Int) := by rw [rd_nat s i hlt]; exact hp _ (List.getElem_mem hlt)
    have hq : wrap64 (Int.tdiv (1024 : Int) n) = 1024 / n := by
      rw [Int.tdiv_eq_ediv_of_nonneg (by omega)]
      have h1 : 0 ≤ (1024 : Int) / n := Int.ediv_nonneg (by omega) (by omega)
      have h2 : (1024 : Int) / n ≤ 1024 := Int.ediv_le_self _ (by omega)
      exact wrap_id (by omega) (by omega)
    by_cases hc : rd s (i : Int) > 1024 / n
    · refine Ev.step (f := fun _ => some 1025) (fun k => ?_) ?_
      · simp only [shape_product.l0]; rw [if_pos (by omega), if_pos (by omega), if_pos (by omega), if_neg (by omega), hq, if_pos hc]
      · rw [prodS, if_pos hc]; exact Ev.now _
    · have hc' := hc
      rw [gt_div hn] at hc'
      have hnd : 1 ≤ n * rd s (i : Int) := by have := Int.mul_le_mul hn hd (by omega) (by omega); omega
      have ih := product_loop s hs hp m (i + 1) (n * rd s (i : Int)) (by omega) (by omega) hnd (by omega)
      refine Ev.step (fun k => ?_) (by rw [prodS, if_neg hc]; exact ih)
      simp only [shape_product.l0]; rw [if_pos (by omega), if_pos (by omega), if_pos (by omega), if_neg (by omega), hq, if_neg hc, wrap_id (by omega) (by omega), wrap_id (by omega) (by omega)]
      rfl

theorem product_ev (s : List Int) (hs : s.length ≤ 4611686018427387904) (hp : ∀ d ∈ s, 1 ≤ d) : Ev (fun k => shape_product.f k s) (prodS 1 s) := by
  have h := product_loop s hs hp s.length 0 1 (by omega) (by omega) (by omega) (by omega)
  exact h

/-- Why a shape may not be. -/
def mayS (s : List Int) : Int := if s.length > 4 then 14 else if s.any (fun d => decide (d < 1)) = true then 13 else if pr s > 1024 then 14 else 0

theorem any_false {s : List Int} (h : s.any (fun d => decide (d < 1)) = false) : ∀ d ∈ s, 1 ≤ d := by
  intro d hd
  have := List.any_eq_false.1 h d hd
  simp at this; omega

theorem may_loop (s : List Int) (hs : s.length ≤ 4) : ∀ (m : Nat) (i : Nat), s.length - i = m → i ≤ s.length → (∀ d ∈ s.take i, 1 ≤ d) →
    Ev (fun k => shape_May.l0 k s s (s.length : Int) (i : Int)) (if (s.drop i).any (fun d => decide (d < 1)) = true then 13 else if pr s > 1024 then 14 else 0)
  | 0, i, hm, hi, hp => by
    have e : i = s.length := by omega
    subst e
    have hp' : ∀ d ∈ s, 1 ≤ d := by simpa using hp
    have hpe := product_ev s (by omega) hp'
    rw [List.drop_length]
    simp only [List.any_nil, Bool.false_eq_true, if_false]
    refine Ev.step (f := fun k => (shape_product.f k s).bind fun t => if t > 1024 then some 14 else some 0) (fun k => ?_) (Ev.bind hpe ?_)
    · simp only [shape_May.l0]; rw [if_neg (by omega)]
    · by_cases hb : pr s > 1024
      · rw [prodS_big s 1 (by omega) (by omega) hp' (by omega), if_pos hb]; exact Ev.now _
      · rw [prodS_small s 1 (by omega) hp' (by omega), if_neg hb, if_neg (by omega)]; exact Ev.now _
  | m + 1, i, hm, hi, hp => by
    have hlt : i < s.length := by omega
    rw [drop_cons s i hlt]
    by_cases hc : rd s (i : Int) < 1
    · refine Ev.step (f := fun _ => some 13) (fun k => ?_) ?_
      · simp only [shape_May.l0]; rw [if_pos (by omega), if_pos (by omega), if_pos (by omega), if_pos hc]
      · simp only [List.any_cons, decide_eq_true hc, Bool.true_or, if_true]; exact Ev.now _
    · have ih := may_loop s hs m (i + 1) (by omega) (by omega) (by
        intro d hd
        rw [List.take_succ_eq_append_getElem hlt] at hd
        rcases List.mem_append.1 hd with h | h
        · exact hp d h
        · simp at h; rw [rd_nat s i hlt] at hc; omega)
      refine Ev.step (fun k => ?_) (by simp only [List.any_cons, decide_eq_false hc, Bool.false_or]; exact ih)
      simp only [shape_May.l0]; rw [if_pos (by omega), if_pos (by omega), if_pos (by omega), if_neg hc, wrap_id (by omega) (by omega)]
      rfl

theorem may_ev (s : List Int) (hs : s.length ≤ 4611686018427387904) : Ev (fun k => shape_May.f k s) (mayS s) := by
  unfold mayS
  by_cases hl : s.length > 4
  · rw [if_pos hl]
    refine Ev.congr (f := fun _ => some 14) (fun k => ?_) (Ev.now _)
    unfold shape_May.f; rw [if_pos (by omega)]
  · rw [if_neg hl]
    have h := may_loop s (by omega) s.length 0 (by omega) (by omega) (by simp)
    refine Ev.congr (fun k => ?_) h
    unfold shape_May.f; rw [if_neg (by omega)]; rfl

theorem may_ok {s : List Int} (h : mayS s = 0) : s.length ≤ 4 ∧ (∀ d ∈ s, 1 ≤ d) ∧ pr s ≤ 1024 := by
  unfold mayS at h
  split at h
  · omega
  · split at h
    · omega
    · split at h
      · omega
      · rename_i h1 h2 h3
        exact ⟨by omega, any_false (by simpa using h2), by omega⟩

theorem refmay_l1 (s : List Int) (hs : s.length ≤ 4) (hp : ∀ d ∈ s, 1 ≤ d) : ∀ (m : Nat) (i : Nat) (n : Int), s.length - i = m → i ≤ s.length → 1 ≤ n → n ≤ 1024 →
    Ev (fun k => fluxionref06_May.l1 k s n (i : Int)) (if n * pr (s.drop i) > 1024 then 14 else 0)
  | 0, i, n, hm, hi, hn, hn2 => by
    have e : i = s.length := by omega
    subst e
    rw [List.drop_length]; simp only [pr, Int.mul_one]; rw [if_neg (by omega)]
    refine Ev.step (f := fun _ => some 0) (fun k => ?_) (Ev.now _)
    simp only [fluxionref06_May.l1]; rw [if_neg (by omega)]
  | m + 1, i, n, hm, hi, hn, hn2 => by
    have hlt : i < s.length := by omega
    rw [drop_cons s i hlt]
    have hd : 1 ≤ rd s (i : Int) := by rw [rd_nat s i hlt]; exact hp _ (List.getElem_mem hlt)
    have hpp : 1 ≤ pr (s.drop (i + 1)) := pr_pos _ (fun d hd => hp d (List.mem_of_mem_drop hd))
    have e : n * pr (rd s (i : Int) :: s.drop (i + 1)) = (n * rd s (i : Int)) * pr (s.drop (i + 1)) := by simp [pr, Int.mul_assoc]
    rw [e]
    have hnd : 1 ≤ n * rd s (i : Int) := by have := Int.mul_le_mul hn hd (by omega) (by omega); omega
    have hge : n * rd s (i : Int) ≤ (n * rd s (i : Int)) * pr (s.drop (i + 1)) := by
      have : n * rd s (i : Int) * 1 ≤ n * rd s (i : Int) * pr (s.drop (i + 1)) := Int.mul_le_mul_of_nonneg_left hpp (by omega)
      omega
    have hge2 : rd s (i : Int) ≤ n * rd s (i : Int) := by
      have : 1 * rd s (i : Int) ≤ n * rd s (i : Int) := Int.mul_le_mul_of_nonneg_right hn (by omega)
      omega
    by_cases hc : rd s (i : Int) > 1024
    · rw [if_pos (by omega)]
      refine Ev.step (f := fun _ => some 14) (fun k => ?_) (Ev.now _)
      simp only [fluxionref06_May.l1]; rw [if_pos (by omega), if_pos (by omega), if_pos hc]
    · have hub : n * rd s (i : Int) ≤ 1024 * 1024 := Int.mul_le_mul hn2 (by omega) (by omega) (by omega)
      have hw : wrap64 (n * rd s (i : Int)) = n * rd s (i : Int) := wrap_id (by omega) (by omega)
      by_cases hc2 : n * rd s (i : Int) > 1024
      · rw [if_pos (by omega)]
        refine Ev.step (f := fun _ => some 14) (fun k => ?_) (Ev.now _)
        simp only [fluxionref06_May.l1]; rw [if_pos (by omega), if_pos (by omega), if_neg hc, hw, if_pos hc2]
      · have ih := refmay_l1 s hs hp m (i + 1) (n * rd s (i : Int)) (by omega) (by omega) hnd (by omega)
        refine Ev.step (fun k => ?_) ih
        simp only [fluxionref06_May.l1]; rw [if_pos (by omega), if_pos (by omega), if_neg hc, hw, if_neg hc2, wrap_id (by omega) (by omega)]
        rfl

theorem refmay_l0 (s : List Int) (hs : s.length ≤ 4) : ∀ (m : Nat) (i : Nat), s.length - i = m → i ≤ s.length → (∀ d ∈ s.take i, 1 ≤ d) →
    Ev (fun k => fluxionref06_May.l0 k s (i : Int)) (if (s.drop i).any (fun d => decide (d < 1)) = true then 13 else if pr s > 1024 then 14 else 0)
  | 0, i, hm, hi, hp => by
    have e : i = s.length := by omega
    subst e
    have hp' : ∀ d ∈ s, 1 ≤ d := by simpa using hp
    have h := refmay_l1 s hs hp' s.length 0 1 (by omega) (by omega) (by omega) (by omega)
    rw [List.drop_length]
    simp only [List.any_nil, Bool.false_eq_true, if_false]
    simp only [List.drop_zero, Int.one_mul] at h
    refine Ev.step (fun k => ?_) h
    simp only [fluxionref06_May.l0]; rw [if_neg (by omega)]; rfl
  | m + 1, i, hm, hi, hp => by
    have hlt : i < s.length := by omega
    rw [drop_cons s i hlt]
    by_cases hc : rd s (i : Int) < 1
    · refine Ev.step (f := fun _ => some 13) (fun k => ?_) ?_
      · simp only [fluxionref06_May.l0]; rw [if_pos (by omega), if_pos (by omega), if_pos hc]
      · simp only [List.any_cons, decide_eq_true hc, Bool.true_or, if_true]; exact Ev.now _
    · have ih := refmay_l0 s hs m (i + 1) (by omega) (by omega) (by
        intro d hd
        rw [List.take_succ_eq_append_getElem hlt] at hd
        rcases List.mem_append.1 hd with h | h
        · exact hp d h
        · simp at h; rw [rd_nat s i hlt] at hc; omega)
      refine Ev.step (fun k => ?_) (by simp only [List.any_cons, decide_eq_false hc, Bool.false_or]; exact ih)
      simp only [fluxionref06_May.l0]; rw [if_pos (by omega), if_pos (by omega), if_neg hc, wrap_id (by omega) (by omega)]
      rfl

theorem refmay_ev (s : List Int) (hs : s.length ≤ 4611686018427387904) : Ev (fun k => fluxionref06_May.f k s) (mayS s) := by
  unfold mayS
  by_cases hl : s.length > 4
  · rw [if_pos hl]
    refine Ev.congr (f := fun _ => some 14) (fun k => ?_) (Ev.now _)
    unfold fluxionref06_May.f; rw [if_pos (by omega)]
  · rw [if_neg hl]
    have h := refmay_l0 s (by omega) s.length 0 (by omega) (by omega) (by simp)
    refine Ev.congr (fun k => ?_) h
    unfold fluxionref06_May.f; rw [if_neg (by omega)]; rfl


theorem lt20 {i : Nat} (h : i < 20) : i = 0 ∨ i = 1 ∨ i = 2 ∨ i = 3 ∨ i = 4 ∨ i = 5 ∨ i = 6 ∨ i = 7 ∨ i = 8 ∨ i = 9 ∨ i = 10 ∨ i = 11 ∨ i = 12 ∨ i = 13 ∨ i = 14 ∨ i = 15 ∨ i = 16 ∨ i = 17 ∨ i = 18 ∨ i = 19 := by omega
theorem opI_eq {i : Nat} (h : i < 20) : opI i = (i : Int) + 1 := by
  rcases lt20 h with rfl | rfl | rfl | rfl | rfl | rfl | rfl | rfl | rfl | rfl | rfl | rfl | rfl | rfl | rfl | rfl | rfl | rfl | rfl | rfl <;> rfl
theorem rowOf_in (i : Nat) (h : i < 20) : rowOf ((i : Int) + 1) = some i := by
  rcases lt20 h with rfl | rfl | rfl | rfl | rfl | rfl | rfl | rfl | rfl | rfl | rfl | rfl | rfl | rfl | rfl | rfl | rfl | rfl | rfl | rfl <;> decide +kernel
theorem rowOf_out (o : Int) (h : o < 1 ∨ 20 < o) : rowOf o = none := by
  unfold rowOf firstOf
  rw [List.find?_eq_none]
  intro i hi
  have hi : i < 20 := by simpa using hi
  rw [opI_eq hi]
  simp; omega
theorem rowOf_cases (o : Int) : (∃ i : Nat, i < 20 ∧ o = (i : Int) + 1) ∨ (o < 1 ∨ 20 < o) := by
  by_cases h : o < 1 ∨ 20 < o
  · exact .inr h
  · exact .inl ⟨(o - 1).toNat, by omega, by omega⟩
theorem first_last {i : Nat} (h : i < 20) : 1 ≤ firstI i ∧ lastI i ≤ 3 := by
  rcases lt20 h with rfl | rfl | rfl | rfl | rfl | rfl | rfl | rfl | rfl | rfl | rfl | rfl | rfl | rfl | rfl | rfl | rfl | rfl | rfl | rfl <;> decide
theorem in_eq (k : Nat) (o v : Int) : fluxionref11_In.f (k + 2) o v = some (inR v (rowOf o)) := by
  unfold fluxionref11_In.f
  rcases rowOf_cases o with ⟨i, hi, rfl⟩ | ho
  · rw [rowOf_in i hi, if_neg (by omega), if_neg (by omega)]
    have hfl := first_last hi
    by_cases h1 : v < 1
    · rw [if_pos h1]
      simp only [fluxionref11_In.j0, inR, if_true]
      rw [decide_eq_false (by omega : ¬ firstI i ≤ v)]; rfl
    · rw [if_neg h1]
      by_cases h3 : v > 3
      · rw [decide_eq_true h3]
        simp only [fluxionref11_In.j0, inR, if_true]
        rw [decide_eq_false (by omega : ¬ v ≤ lastI i), Bool.and_false]
      · rw [decide_eq_false h3]
        have hv : v = 1 ∨ v = 2 ∨ v = 3 := by omega
        rcases hv with rfl | rfl | rfl <;>
          rcases lt20 hi with rfl | rfl | rfl | rfl | rfl | rfl | rfl | rfl | rfl | rfl | rfl | rfl | rfl | rfl | rfl | rfl | rfl | rfl | rfl | rfl <;> rfl
  · rw [rowOf_out o ho]
    rcases ho with h | h
    · rw [if_pos h]; rfl
    · rw [if_neg (by omega), if_pos h]; rfl
theorem arity_eq (k : Nat) (o : Int) : fluxionref11_Arity.f (k + 1) o = some (arityR (rowOf o)) := by
  rcases rowOf_cases o with ⟨i, hi, rfl⟩ | ho
  · rw [rowOf_in i hi]
    rcases lt20 hi with rfl | rfl | rfl | rfl | rfl | rfl | rfl | rfl | rfl | rfl | rfl | rfl | rfl | rfl | rfl | rfl | rfl | rfl | rfl | rfl <;> rfl
  · rw [rowOf_out o ho]
    unfold fluxionref11_Arity.f
    rw [if_neg (by omega), if_neg (by omega), if_neg (by omega), if_neg (by omega)]
    simp only [fluxionref11_Arity.j0]
    rw [if_neg (by simp; omega), if_neg (by omega), if_neg (by omega)]
    rcases ho with h | h
    · rw [if_pos h]; rfl
    · rw [if_neg (by omega), if_pos h]; rfl


theorem pigeon : ∀ (a b : List Int), a.Nodup → (∀ x ∈ a, x ∈ b) → b.length ≤ a.length → a.Perm b
  | [], b, _, _, hl => by
    have : b = [] := List.eq_nil_of_length_eq_zero (by simpa using hl)
    rw [this]
  | x :: a, b, hn, hs, hl => by
    have hx := hs x (List.mem_cons_self ..)
    have hp := List.perm_cons_erase hx
    rw [List.nodup_cons] at hn
    have hlen := List.length_erase_of_mem hx
    have hpos := List.length_pos_of_mem hx
    refine (List.Perm.cons x (pigeon a (b.erase x) hn.2 (fun y hy => ?_) (by simp only [List.length_cons] at hl; omega))).trans hp.symm
    have hne : y ≠ x := fun e => hn.1 (e ▸ hy)
    exact (List.mem_erase_of_ne hne).2 (hs y (List.mem_cons_of_mem _ hy))

def rangeI (n : Nat) : List Int := (List.range n).map fun (i : Nat) => (i : Int)
theorem rangeI_length (n : Nat) : (rangeI n).length = n := by simp [rangeI]
theorem mem_rangeI {n : Nat} {x : Int} : x ∈ rangeI n ↔ ∃ i : Nat, i < n ∧ (i : Int) = x := by simp [rangeI]
theorem rangeI_lt (n : Nat) : (rangeI n).Pairwise (· < ·) := by
  unfold rangeI; rw [List.pairwise_map]
  exact List.pairwise_lt_range.imp (fun h => by omega)
theorem rangeI_nodup (n : Nat) : (rangeI n).Nodup := by
  rw [List.nodup_iff_pairwise_ne]
  exact (rangeI_lt n).imp (fun h => by omega)
theorem rd_rangeI (n i : Nat) (h : i < n) : rd (rangeI n) (i : Int) = (i : Int) := by
  rw [rd_nat _ _ (by rw [rangeI_length]; exact h)]; simp [rangeI]

/-- A permutation of 0, 1 and so on: each number below the length is named. -/
def IsP (p : List Int) : Prop := ∀ i : Nat, i < p.length → (i : Int) ∈ p
instance (p : List Int) : Decidable (IsP p) := by unfold IsP; infer_instance
theorem IsP.perm {p : List Int} (h : IsP p) : (rangeI p.length).Perm p := by
  refine pigeon _ _ (rangeI_nodup _) (fun x hx => ?_) (by rw [rangeI_length]; exact Nat.le_refl _)
  obtain ⟨i, hi, rfl⟩ := mem_rangeI.1 hx
  exact h i hi
theorem sorted_iff (p : List Int) : (∀ i : Nat, i < p.length → rd (sortedS p) (i : Int) = (i : Int)) ↔ IsP p := by
  have hperm : (sortedS p).Perm p := List.mergeSort_perm p _
  constructor
  · intro h i hi
    have hi' : i < (sortedS p).length := by rw [sortedS_length]; exact hi
    have := h i hi
    rw [rd_nat _ _ hi'] at this
    have hm : (sortedS p)[i] ∈ sortedS p := List.getElem_mem hi'
    rw [this] at hm
    exact hperm.mem_iff.1 hm
  · intro h i hi
    have e : sortedS p = rangeI p.length := by
      refine List.Perm.eq_of_pairwise (le := fun a b : Int => a ≤ b) (fun a b _ _ h1 h2 => by omega) ?_ ((rangeI_lt _).imp (fun h => by omega)) (hperm.trans h.perm.symm)
      exact (List.pairwise_mergeSort (le := fun x y : Int => decide (x ≤ y)) (fun a b c h1 h2 => by simp at *; omega) (fun a b => by simp; omega) p).imp (fun h => by simpa using h)
    rw [e, rd_rangeI _ _ hi]
theorem permS_eq (p : List Int) (rank : Int) : permS p rank = if IsP p ∧ (p.length : Int) = max rank 0 then 0 else 11 := by
  unfold permS
  by_cases h : IsP p
  · rw [if_pos ((sorted_iff p).2 h)]
    by_cases h2 : (p.length : Int) = max rank 0
    · rw [if_pos h2, if_pos ⟨h, h2⟩]
    · rw [if_neg h2, if_neg (fun c => h2 c.2)]
  · rw [if_neg (fun c => h ((sorted_iff p).1 c)), if_neg (fun c => h c.1)]
theorem perm_ev (p : List Int) (rank : Int) (hl : p.length ≤ 1000) : Ev (fun _ => shape_Perm.f p rank) (if IsP p ∧ (p.length : Int) = max rank 0 then 0 else 11) := by
  refine Ev.congr (fun k => ?_) (Ev.now _)
  unfold shape_Perm.f; rw [if_pos hl, permS_eq]

/-- Rising, above a number, below a rank. -/
def axesB (rank : Int) : Int → List Int → Bool
  | _, [] => true
  | last, n :: r => if n ≤ last then false else if n ≥ rank then false else axesB rank n r

theorem axes_loop (l : List Int) (rank : Int) (hs : l.length ≤ 4611686018427387904) : ∀ (m : Nat) (i : Nat) (last : Int), l.length - i = m → i ≤ l.length →
    Ev (fun k => shape_Axes.l0 k rank last l (l.length : Int) (i : Int)) (if axesB rank last (l.drop i) = true then 0 else 11)
  | 0, i, last, hm, hi => by
    have e : i = l.length := by omega
    rw [e, List.drop_length]
    refine Ev.step (f := fun _ => some 0) (fun k => ?_) (Ev.now _)
    simp only [shape_Axes.l0]; rw [if_neg (by omega)]
  | m + 1, i, last, hm, hi => by
    have hlt : i < l.length := by omega
    rw [drop_cons l i hlt, axesB]
    by_cases h1 : rd l (i : Int) ≤ last
    · rw [if_pos h1]
      refine Ev.step (f := fun _ => some 11) (fun k => ?_) (Ev.now _)
      simp only [shape_Axes.l0]; rw [if_pos (by omega), if_pos (by omega), if_pos (by omega), if_pos h1]
    · rw [if_neg h1]
      by_cases h2 : rd l (i : Int) ≥ rank
      · rw [if_pos h2]
        refine Ev.step (f := fun _ => some 11) (fun k => ?_) (Ev.now _)
        simp only [shape_Axes.l0]; rw [if_pos (by omega), if_pos (by omega), if_pos (by omega), if_neg h1, if_pos h2]
      · rw [if_neg h2]
        refine Ev.step (fun k => ?_) (axes_loop l rank hs m (i + 1) (rd l (i : Int)) (by omega) (by omega))
        simp only [shape_Axes.l0]; rw [if_pos (by omega), if_pos (by omega), if_pos (by omega), if_neg h1, if_neg h2, wrap_id (by omega) (by omega)]; rfl


/-! Scale: the two loops of Euclid -/
theorem red_div : ∀ (k : Nat) (p q : Int), fluxionref11_divisor.l0 k p q = (op_reduced.l0 k p q).map not
  | 0, _, _ => rfl
  | k + 1, p, q => by
    simp only [fluxionref11_divisor.l0, op_reduced.l0]
    by_cases h : q > 0
    · rw [if_pos h, if_pos h, if_neg (by omega), if_neg (by omega)]; exact red_div k _ _
    · rw [if_neg h, if_neg h]; rfl
theorem red_ends : ∀ (n : Nat) (p q : Int), q.toNat ≤ n → 0 ≤ p → ∃ b, Ev (fun k => op_reduced.l0 k p q) b
  | 0, p, q, hn, hp => ⟨p == 1, Ev.step (f := fun _ => some (p == 1)) (fun k => by simp only [op_reduced.l0]; rw [if_neg (by omega)]) (Ev.now _)⟩
  | n + 1, p, q, hn, hp => by
    by_cases h : q > 0
    · have h1 := Int.tmod_nonneg q hp
      have h2 := Int.tmod_lt_of_pos p h
      obtain ⟨b, hb⟩ := red_ends n q (Int.tmod p q) (by omega) (by omega)
      refine ⟨b, Ev.step (fun k => ?_) hb⟩
      simp only [op_reduced.l0]; rw [if_pos h, if_neg (by omega)]
    · exact ⟨p == 1, Ev.step (f := fun _ => some (p == 1)) (fun k => by simp only [op_reduced.l0]; rw [if_neg (by omega)]) (Ev.now _)⟩
theorem Ev.map {α β : Type} {g : Nat → Option α} {r : α} (h : Ev g r) (f : α → β) : Ev (fun k => (g k).map f) (f r) := by
  obtain ⟨K, hK⟩ := h
  exact ⟨K, fun k hk => by show (g k).map f = _; rw [hK k hk]; rfl⟩
theorem Ev.at {α : Type} {g : Nat → Option α} {r : α} (n : Nat) (h : ∀ k, g (k + n) = some r) : Ev g r :=
  ⟨n, fun k hk => by rw [show k = (k - n) + n by omega]; exact h _⟩

/-! The numbers that are too far -/
theorem attrs_loop (o : Int) (l : List Int) (hs : l.length ≤ 4611686018427387904) (b : Bool) (h : Ev (fun k => fluxionref11_attrs.l0 k o l (l.length : Int)) b) : ∀ (m i : Nat), l.length - i = m → i ≤ l.length →
    Ev (fun k => fluxionref11_attrs.l0 k o l (i : Int)) (if (l.drop i).any farB = true then false else b)
  | 0, i, hm, hi => by
    have e : i = l.length := by omega
    rw [e, List.drop_length]; exact h
  | m + 1, i, hm, hi => by
    have hlt : i < l.length := by omega
    have ih := attrs_loop o l hs b h m (i + 1) (by omega) (by omega)
    rw [drop_cons l i hlt, List.any_cons]
    by_cases h1 : rd l (i : Int) > 2147483647
    · rw [show farB (rd l (i : Int)) = true by simp [farB, h1]]
      refine Ev.step (f := fun _ => some false) (fun k => ?_) (Ev.now _)
      simp only [fluxionref11_attrs.l0]; rw [if_pos (by omega), if_pos (by omega), if_pos h1]
    · by_cases h2 : rd l (i : Int) < -2147483647
      · rw [show farB (rd l (i : Int)) = true by simp [farB, h2]]
        refine Ev.step (f := fun _ => some false) (fun k => ?_) (Ev.now _)
        simp only [fluxionref11_attrs.l0]; rw [if_pos (by omega), if_pos (by omega), if_neg h1, if_pos h2]
      · rw [show farB (rd l (i : Int)) = false by simp [farB, h1, h2], Bool.false_or]
        refine Ev.step (fun k => ?_) ih
        simp only [fluxionref11_attrs.l0]; rw [if_pos (by omega), if_pos (by omega), if_neg h1, if_neg h2, wrap_id (by omega) (by omega)]; rfl
theorem near_of {l : List Int} (h : l.any farB = false) (i : Nat) (hi : i < l.length) : -2147483647 ≤ rd l (i : Int) ∧ rd l (i : Int) ≤ 2147483647 := by
  have := List.any_eq_false.1 h (rd l (i : Int)) (by rw [rd_nat l i hi]; exact List.getElem_mem hi)
  simp [farB] at this; omega

/-- At the end of the numbers: what is asked of the op's own. -/
theorem attrs_no (o : Int) (l : List Int) (h : o ≠ 6 ∧ o ≠ 9 ∧ o ≠ 11 ∧ o ≠ 12 ∧ o ≠ 13 ∧ o ≠ 14 ∧ o ≠ 20 ∧ o ≠ 15 ∧ o ≠ 16 ∧ o ≠ 17) : Ev (fun k => fluxionref11_attrs.l0 k o l (l.length : Int)) ((l.length : Int) == 0) := by
  obtain ⟨h6, h9, h11, h12, h13, h14, h20, h15, h16, h17⟩ := h
  refine Ev.at 4 (fun k => ?_)
  simp only [fluxionref11_attrs.l0, fluxionref11_attrs.j4, fluxionref11_attrs.j5, fluxionref11_attrs.j7, if_neg (Int.lt_irrefl _), if_neg h6, if_neg h9, if_neg h11, if_neg h12, if_neg h14, if_neg h15, if_neg h17, show (o == 13) = false by simpa using h13, show (o == 20) = false by simpa using h20, show (o == 16) = false by simpa using h16, Bool.false_eq_true, if_false]
theorem attrs_pow (l : List Int) : Ev (fun k => fluxionref11_attrs.l0 k 6 l (l.length : Int)) (oneB 16 l) := by
  refine Ev.at 1 (fun k => ?_)
  simp only [fluxionref11_attrs.l0, if_neg (Int.lt_irrefl _), if_true, oneB]
  by_cases h1 : (l.length : Int) = 1
  · rw [if_pos h1, if_pos (by omega), decide_eq_true (by omega : l.length = 1)]
    by_cases h2 : rd l 0 ≥ 0
    · rw [if_pos h2, decide_eq_true (by omega : 0 ≤ rd l 0)]; simp
    · rw [if_neg h2, decide_eq_false (by omega : ¬ 0 ≤ rd l 0)]; simp
  · rw [if_neg h1, decide_eq_false (by omega : ¬ l.length = 1)]; simp
theorem attrs_concat (l : List Int) : Ev (fun k => fluxionref11_attrs.l0 k 17 l (l.length : Int)) (oneB 3 l) := by
  refine Ev.at 4 (fun k => ?_)
  simp only [fluxionref11_attrs.l0, fluxionref11_attrs.j4, fluxionref11_attrs.j5, fluxionref11_attrs.j7, if_neg (Int.lt_irrefl _), if_true, oneB, show ¬ ((17 : Int) = 6) by decide, show ¬ ((17 : Int) = 9) by decide, show ¬ ((17 : Int) = 11) by decide, show ¬ ((17 : Int) = 12) by decide, show ¬ ((17 : Int) = 14) by decide, show ¬ ((17 : Int) = 15) by decide, show ((17 : Int) == 13) = false by decide, show ((17 : Int) == 20) = false by decide, show ((17 : Int) == 16) = false by decide, Bool.false_eq_true, if_false]
  by_cases h1 : (l.length : Int) = 1
  · rw [if_pos h1, if_pos (by omega), decide_eq_true (by omega : l.length = 1)]
    by_cases h2 : rd l 0 ≥ 0
    · rw [if_pos h2, decide_eq_true (by omega : 0 ≤ rd l 0)]; simp
    · rw [if_neg h2, decide_eq_false (by omega : ¬ 0 ≤ rd l 0)]; simp
  · rw [if_neg h1, decide_eq_false (by omega : ¬ l.length = 1)]; simp
theorem attrs_scale (l : List Int) (hn : l.any farB = false) : ∃ b, Ev (fun k => op_reduced.f k l) b ∧ Ev (fun k => fluxionref11_attrs.l0 k 9 l (l.length : Int)) b := by
  by_cases h1 : (l.length : Int) = 2
  · have n0 := near_of hn 0 (by omega)
    have n1 := near_of hn 1 (by omega)
    have e0 : (((0 : Nat)) : Int) = 0 := rfl
    have e1 : (((1 : Nat)) : Int) = 1 := rfl
    rw [e0] at n0; rw [e1] at n1
    by_cases h2 : rd l 1 < 1
    · refine ⟨false, Ev.at 1 (fun k => ?_), Ev.at 1 (fun k => ?_)⟩
      · unfold op_reduced.f; rw [if_pos h1, if_pos (by omega), decide_eq_true h2]; simp only [op_reduced.j0, if_true]
      · simp only [fluxionref11_attrs.l0, if_neg (Int.lt_irrefl _), show ¬ ((9 : Int) = 6) by decide, if_false, if_true]
        rw [if_pos h1, if_pos (by omega), if_neg (by omega)]
    · have hw : wrap64 (-(rd l 0)) = -(rd l 0) := wrap_id (by omega) (by omega)
      have hm : mx (rd l 0) (-(rd l 0)) = if rd l 0 < 0 then -(rd l 0) else rd l 0 := by unfold mx; split <;> split <;> omega
      have hp : 0 ≤ mx (rd l 0) (-(rd l 0)) := by rw [hm]; split <;> omega
      obtain ⟨b, hb⟩ := red_ends _ _ (rd l 1) (Nat.le_refl _) hp
      refine ⟨b, Ev.step (fun k => ?_) hb, ?_⟩
      · unfold op_reduced.f; rw [if_pos h1, if_pos (by omega), decide_eq_false h2]
        simp only [op_reduced.j0, Bool.false_eq_true, if_false]
        rw [if_pos (by omega), if_pos (by omega), hw]
      · have hd : Ev (fun k => fluxionref11_divisor.f k (rd l 0) (rd l 1)) (!b) := by
          refine Ev.step (f := fun k => fluxionref11_divisor.l0 k (mx (rd l 0) (-(rd l 0))) (rd l 1)) (fun k => ?_) ?_
          · unfold fluxionref11_divisor.f
            rw [hm]
            by_cases h3 : rd l 0 < 0
            · rw [if_pos h3, if_pos h3, hw]; simp only [fluxionref11_divisor.j0]
            · rw [if_neg h3, if_neg h3]; simp only [fluxionref11_divisor.j0]
          · exact Ev.congr (fun k => red_div k _ _) (Ev.map hb not)
        refine Ev.step (f := fun k => (fluxionref11_divisor.f k (rd l 0) (rd l 1)).bind fun t => some (!t)) (fun k => ?_) ?_
        · simp only [fluxionref11_attrs.l0, if_neg (Int.lt_irrefl _), show ¬ ((9 : Int) = 6) by decide, if_false, if_true]
          rw [if_pos h1, if_pos (by omega), if_pos (by omega), if_pos (by omega)]
        · exact Ev.bind hd (by rw [Bool.not_not]; exact Ev.now _)
  · refine ⟨false, Ev.at 1 (fun k => ?_), Ev.at 1 (fun k => ?_)⟩
    · unfold op_reduced.f; rw [if_neg h1]; simp only [op_reduced.j0, if_true]
    · simp only [fluxionref11_attrs.l0, if_neg (Int.lt_irrefl _), show ¬ ((9 : Int) = 6) by decide, if_false, if_true]
      rw [if_neg h1]

/-! Reshape and Broadcast -/
theorem attrs_shape (o : Int) (ho : o = 12 ∨ o = 13) (l : List Int) (hs : l.length ≤ 4611686018427387904) : Ev (fun k => fluxionref11_attrs.l0 k o l (l.length : Int)) (mayS l == 0) := by
  refine Ev.step (f := fun k => fluxionref11_attrs.j4 k o l o true) (fun k => ?_) ?_
  · simp only [fluxionref11_attrs.l0, if_neg (Int.lt_irrefl _)]
    rcases ho with rfl | rfl <;> rfl
  · refine Ev.step (f := fun k => (fluxionref06_May.f k l).bind fun t => some (t == 0)) (fun k => by simp only [fluxionref11_attrs.j4, if_true]) ?_
    exact Ev.bind (refmay_ev l hs) (Ev.now _)

/-! Sum and Mean -/
theorem rising_loop (l : List Int) (hs : l.length ≤ 4611686018427387904) : ∀ (m : Nat) (i : Nat) (last : Int), l.length - i = m → i ≤ l.length → (i = 0 → last = -1) → (0 < i → last = rd l ((i : Int) - 1) ∧ 0 ≤ last) →
    Ev (fun k => fluxionref11_attrs.l3 k l (i : Int)) (axesB 4 last (l.drop i))
  | 0, i, last, hm, hi, _, _ => by
    have e : i = l.length := by omega
    rw [e, List.drop_length]
    refine Ev.step (f := fun _ => some true) (fun k => ?_) (Ev.now _)
    simp only [fluxionref11_attrs.l3]; rw [if_neg (by omega)]
  | m + 1, i, last, hm, hi, ha, hb => by
    have hlt : i < l.length := by omega
    rw [drop_cons l i hlt, axesB]
    by_cases h0 : rd l (i : Int) < 0
    · have h1 : rd l (i : Int) ≤ last := by
        by_cases e : i = 0
        · have := ha e; omega
        · have := (hb (by omega)).2; omega
      rw [if_pos h1]
      refine Ev.step (f := fun _ => some false) (fun k => ?_) (Ev.now _)
      simp only [fluxionref11_attrs.l3]; rw [if_pos (by omega), if_pos (by omega), if_pos h0]
    · by_cases h2 : rd l (i : Int) ≥ 4
      · rw [show (if rd l (i : Int) ≤ last then false else if rd l (i : Int) ≥ 4 then false else axesB 4 (rd l (i : Int)) (l.drop (i + 1))) = false by rw [if_pos h2]; simp]
        refine Ev.step (f := fun _ => some false) (fun k => ?_) (Ev.now _)
        simp only [fluxionref11_attrs.l3]; rw [if_pos (by omega), if_pos (by omega), if_neg h0, if_pos (by omega)]
      · rw [if_neg h2]
        have ih := rising_loop l hs m (i + 1) (rd l (i : Int)) (by omega) (by omega) (by omega) (fun _ => ⟨by congr 1; omega, by omega⟩)
        by_cases e : i = 0
        · have hl := ha e
          rw [if_neg (by omega)]
          refine Ev.step (fun k => ?_) ih
          simp only [fluxionref11_attrs.l3]; rw [if_pos (by omega), if_pos (by omega), if_neg h0, if_neg (by omega), if_neg (by omega), wrap_id (by omega) (by omega)]; rfl
        · obtain ⟨hl, hl0⟩ := hb (by omega)
          have hw : wrap64 ((i : Int) - 1) = (i : Int) - 1 := wrap_id (by omega) (by omega)
          by_cases h1 : rd l (i : Int) ≤ last
          · rw [if_pos h1]
            refine Ev.step (f := fun _ => some false) (fun k => ?_) (Ev.now _)
            simp only [fluxionref11_attrs.l3]; rw [if_pos (by omega), if_pos (by omega), if_neg h0, if_neg (by omega), if_pos (by omega), hw, if_pos (by omega), if_pos (by omega), if_pos (by rw [← hl]; exact h1)]
          · rw [if_neg h1]
            refine Ev.step (fun k => ?_) ih
            simp only [fluxionref11_attrs.l3]; rw [if_pos (by omega), if_pos (by omega), if_neg h0, if_neg (by omega), if_pos (by omega), hw, if_pos (by omega), if_pos (by omega), if_neg (by rw [← hl]; exact h1), wrap_id (by omega) (by omega)]; rfl
theorem attrs_rising (o : Int) (ho : o = 14 ∨ o = 20) (l : List Int) (hs : l.length ≤ 4611686018427387904) : Ev (fun k => fluxionref11_attrs.l0 k o l (l.length : Int)) (axesB 4 (-1) l) := by
  have h := rising_loop l hs l.length 0 (-1) (by omega) (by omega) (fun _ => rfl) (by omega)
  refine Ev.step (f := fun k => fluxionref11_attrs.j4 k o l o false) (fun k => ?_) ?_
  · simp only [fluxionref11_attrs.l0, if_neg (Int.lt_irrefl _)]
    rcases ho with rfl | rfl <;> rfl
  · refine Ev.step (f := fun k => fluxionref11_attrs.j5 k o l o true) (fun k => ?_) ?_
    · simp only [fluxionref11_attrs.j4, Bool.false_eq_true, if_false]
      rcases ho with rfl | rfl <;> rfl
    · exact Ev.step (fun k => by simp only [fluxionref11_attrs.j5, if_true]; try rfl) h
theorem rising_ev (l : List Int) (hs : l.length ≤ 4611686018427387904) : Ev (fun k => op_rising.f k l) (axesB 4 (-1) l) := by
  have h := axes_loop l 4 hs l.length 0 (-1) (by omega) (by omega)
  rw [List.drop_zero] at h
  refine Ev.bind (g := fun k => shape_Axes.f k l 4) h ?_
  cases axesB 4 (-1) l <;> exact Ev.now _

/-! Slice and Pad -/
theorem pairs_loop (o : Int) (p : Int → Int → Bool) (l : List Int) (h2 : l.length % 2 = 0) (h8 : l.length ≤ 8)
    (hp : ∀ x y, p x y = (decide (0 ≤ x) && (decide (0 ≤ y) && !(decide (o = 15) && decide (y ≤ x))))) : ∀ (m : Nat) (i : Nat), l.length - i = 2 * m → i ≤ l.length →
    Ev (fun k => fluxionref11_attrs.l4 k o l (i : Int)) (pairsAll p (l.drop i))
  | 0, i, hm, hi => by
    have e : i = l.length := by omega
    rw [e, List.drop_length]
    refine Ev.step (f := fun _ => some true) (fun k => ?_) (Ev.now _)
    simp only [fluxionref11_attrs.l4]; rw [if_neg (by omega)]
  | m + 1, i, hm, hi => by
    have hlt : i + 1 < l.length := by omega
    have ih := pairs_loop o p l h2 h8 hp m (i + 2) (by omega) (by omega)
    rw [drop_cons l i (by omega), drop_cons l (i + 1) hlt]
    have e1 : (((i + 1 : Nat)) : Int) = (i : Int) + 1 := by omega
    have e2 : (((i + 2 : Nat)) : Int) = (i : Int) + 2 := by omega
    rw [e1]; rw [e2] at ih
    rw [show pairsAll p (rd l (i : Int) :: rd l ((i : Int) + 1) :: l.drop (i + 1 + 1)) = (p (rd l (i : Int)) (rd l ((i : Int) + 1)) && pairsAll p (l.drop (i + 2))) from rfl, hp]
    have w1 : wrap64 ((i : Int) + 1) = (i : Int) + 1 := wrap_id (by omega) (by omega)
    have w2 : wrap64 ((i : Int) + 2) = (i : Int) + 2 := wrap_id (by omega) (by omega)
    by_cases c1 : rd l (i : Int) < 0
    · rw [decide_eq_false (by omega : ¬ 0 ≤ rd l (i : Int)), Bool.false_and, Bool.false_and]
      refine Ev.step (f := fun _ => some false) (fun k => ?_) (Ev.now _)
      simp only [fluxionref11_attrs.l4]; rw [if_pos (by omega), if_pos (by omega), if_pos c1]
    · rw [decide_eq_true (by omega : 0 ≤ rd l (i : Int)), Bool.true_and]
      by_cases c2 : rd l ((i : Int) + 1) < 0
      · rw [decide_eq_false (by omega : ¬ 0 ≤ rd l ((i : Int) + 1)), Bool.false_and, Bool.false_and]
        refine Ev.step (f := fun _ => some false) (fun k => ?_) (Ev.now _)
        simp only [fluxionref11_attrs.l4]; rw [if_pos (by omega), if_pos (by omega), if_neg c1, w1, if_pos (by omega), if_pos (by omega), if_pos c2]
      · rw [decide_eq_true (by omega : 0 ≤ rd l ((i : Int) + 1)), Bool.true_and]
        by_cases c3 : o = 15
        · rw [decide_eq_true c3, Bool.true_and]
          by_cases c4 : rd l ((i : Int) + 1) ≤ rd l (i : Int)
          · rw [decide_eq_true c4, Bool.not_true, Bool.false_and]
            refine Ev.step (f := fun _ => some false) (fun k => ?_) (Ev.now _)
            simp only [fluxionref11_attrs.l4]; rw [if_pos (by omega), if_pos (by omega), if_neg c1, w1, if_pos (by omega), if_pos (by omega), if_neg c2, if_pos c3, if_pos c4]
          · rw [decide_eq_false c4, Bool.not_false, Bool.true_and]
            refine Ev.step (fun k => ?_) ih
            simp only [fluxionref11_attrs.l4]; rw [if_pos (by omega), if_pos (by omega), if_neg c1, w1, if_pos (by omega), if_pos (by omega), if_neg c2, if_pos c3, if_neg c4, w2]
        · rw [decide_eq_false c3, Bool.false_and, Bool.not_false, Bool.true_and]
          refine Ev.step (fun k => ?_) ih
          simp only [fluxionref11_attrs.l4]; rw [if_pos (by omega), if_pos (by omega), if_neg c1, w1, if_pos (by omega), if_pos (by omega), if_neg c2, if_neg c3, w2]
theorem attrs_pairs (o : Int) (ho : o = 15 ∨ o = 16) (p : Int → Int → Bool) (l : List Int)
    (hp : ∀ x y, p x y = (decide (0 ≤ x) && (decide (0 ≤ y) && !(decide (o = 15) && decide (y ≤ x))))) : Ev (fun k => fluxionref11_attrs.l0 k o l (l.length : Int)) (pairsB p l) := by
  refine Ev.step (f := fun k => fluxionref11_attrs.j4 k o l o false) (fun k => ?_) ?_
  · simp only [fluxionref11_attrs.l0, if_neg (Int.lt_irrefl _)]
    rcases ho with rfl | rfl <;> rfl
  refine Ev.step (f := fun k => fluxionref11_attrs.j5 k o l o false) (fun k => ?_) ?_
  · simp only [fluxionref11_attrs.j4, Bool.false_eq_true, if_false]
    rcases ho with rfl | rfl <;> rfl
  refine Ev.step (f := fun k => fluxionref11_attrs.j7 k o l o true) (fun k => ?_) ?_
  · simp only [fluxionref11_attrs.j5, Bool.false_eq_true, if_false]
    rcases ho with rfl | rfl <;> rfl
  unfold pairsB
  by_cases h2 : l.length % 2 = 0
  · by_cases h8 : l.length ≤ 8
    · rw [if_pos ⟨h2, h8⟩]
      have h := pairs_loop o p l h2 h8 hp (l.length / 2) 0 (by omega) (by omega)
      rw [List.drop_zero] at h
      refine Ev.step (f := fun k => fluxionref11_attrs.j8 k o l false) (fun k => ?_) ?_
      · simp only [fluxionref11_attrs.j7, if_true]; rw [if_neg (by omega), decide_eq_false (by omega)]
      · exact Ev.step (fun k => by simp only [fluxionref11_attrs.j8, Bool.false_eq_true, if_false]; rfl) h
    · rw [if_neg (fun c => h8 c.2)]
      refine Ev.at 2 (fun k => ?_)
      simp only [fluxionref11_attrs.j7, if_true]; rw [if_neg (by omega), decide_eq_true (by omega)]; simp only [fluxionref11_attrs.j8, if_true]
  · rw [if_neg (fun c => h2 c.1)]
    refine Ev.at 2 (fun k => ?_)
    simp only [fluxionref11_attrs.j7, if_true]; rw [if_pos (by omega)]; simp only [fluxionref11_attrs.j8, if_true]

/-! Transpose -/
theorem perm_l2 (l : List Int) (hs : l.length ≤ 4611686018427387904) (i : Nat) (hi : i < l.length) (r : Bool) (h : Ev (fun k => fluxionref11_attrs.l1 k l ((i + 1 : Nat) : Int)) r) : ∀ (m j : Nat), i - j = m → j ≤ i → (∀ t, t < j → rd l (t : Int) ≠ rd l (i : Int)) →
    Ev (fun k => fluxionref11_attrs.l2 k l (i : Int) (j : Int)) (if ∀ t, t < i → rd l (t : Int) ≠ rd l (i : Int) then r else false)
  | 0, j, hm, hj, hd => by
    have e : j = i := by omega
    subst e
    rw [if_pos hd]
    refine Ev.step (fun k => ?_) h
    simp only [fluxionref11_attrs.l2]; rw [if_neg (by omega), wrap_id (by omega) (by omega)]; rfl
  | m + 1, j, hm, hj, hd => by
    have hlt : j < i := by omega
    by_cases c : rd l (j : Int) = rd l (i : Int)
    · rw [if_neg (fun x => x j hlt c)]
      refine Ev.step (f := fun _ => some false) (fun k => ?_) (Ev.now _)
      simp only [fluxionref11_attrs.l2]; rw [if_pos (by omega), if_pos (by omega), if_pos (by omega), if_pos (by omega), if_pos (by omega), if_pos c]
    · refine Ev.step (fun k => ?_) (perm_l2 l hs i hi r h m (j + 1) (by omega) (by omega) (fun t ht => by
        by_cases e : t = j
        · rw [e]; exact c
        · exact hd t (by omega)))
      simp only [fluxionref11_attrs.l2]; rw [if_pos (by omega), if_pos (by omega), if_pos (by omega), if_pos (by omega), if_pos (by omega), if_neg c, wrap_id (by omega) (by omega)]; rfl
/-- In range, and each one new. -/
def FreshAt (l : List Int) (i : Nat) : Prop := (0 ≤ rd l (i : Int) ∧ rd l (i : Int) < l.length) ∧ ∀ t, t < i → rd l (t : Int) ≠ rd l (i : Int)
instance (l : List Int) (i : Nat) : Decidable (FreshAt l i) := by unfold FreshAt; infer_instance
theorem perm_l1 (l : List Int) (hs : l.length ≤ 4611686018427387904) : ∀ (m i : Nat), l.length - i = m → i ≤ l.length → (∀ j, j < i → FreshAt l j) →
    Ev (fun k => fluxionref11_attrs.l1 k l (i : Int)) (decide ((∀ j, j < l.length → FreshAt l j) ∧ l.length ≤ 4))
  | 0, i, hm, hi, hd => by
    have e : i = l.length := by omega
    subst e
    refine Ev.step (f := fun _ => some (decide ((l.length : Int) ≤ 4))) (fun k => ?_) ?_
    · simp only [fluxionref11_attrs.l1]; rw [if_neg (by omega)]
    · rw [show decide ((∀ j, j < l.length → FreshAt l j) ∧ l.length ≤ 4) = decide ((l.length : Int) ≤ 4) from decide_eq_decide.2 ⟨fun c => by have := c.2; omega, fun c => ⟨hd, by omega⟩⟩]
      exact Ev.now _
  | m + 1, i, hm, hi, hd => by
    have hlt : i < l.length := by omega
    by_cases c : 0 ≤ rd l (i : Int) ∧ rd l (i : Int) < l.length
    · by_cases c2 : ∀ t, t < i → rd l (t : Int) ≠ rd l (i : Int)
      · have ih := perm_l1 l hs m (i + 1) (by omega) (by omega) (fun j hj => by
          by_cases e : j = i
          · rw [e]; exact ⟨c, c2⟩
          · exact hd j (by omega))
        have h2 := perm_l2 l hs i hlt _ ih i 0 (by omega) (by omega) (fun t ht => absurd ht (by omega))
        rw [if_pos c2] at h2
        refine Ev.step (f := fun k => fluxionref11_attrs.j2 k l (i : Int) false) (fun k => ?_) (Ev.step (fun k => ?_) h2)
        · simp only [fluxionref11_attrs.l1]; rw [if_pos (by omega), if_pos (by omega), if_neg (by omega), decide_eq_false (by omega)]
        · simp only [fluxionref11_attrs.j2, Bool.false_eq_true, if_false]; rfl
      · rw [decide_eq_false (fun x => c2 (x.1 i hlt).2)]
        have h2 : Ev (fun k => fluxionref11_attrs.l2 k l (i : Int) ((0 : Nat) : Int)) false := by
          have : ∀ (m j : Nat), i - j = m → j ≤ i → (∀ t, t < j → rd l (t : Int) ≠ rd l (i : Int)) → Ev (fun k => fluxionref11_attrs.l2 k l (i : Int) (j : Int)) false := by
            intro m
            induction m with
            | zero => intro j hm hj hd2; exact absurd (show ∀ t, t < i → rd l (t : Int) ≠ rd l (i : Int) from fun t ht => hd2 t (by omega)) c2
            | succ m ihm =>
              intro j hm hj hd2
              by_cases c3 : rd l (j : Int) = rd l (i : Int)
              · refine Ev.step (f := fun _ => some false) (fun k => ?_) (Ev.now _)
                simp only [fluxionref11_attrs.l2]; rw [if_pos (by omega), if_pos (by omega), if_pos (by omega), if_pos (by omega), if_pos (by omega), if_pos c3]
              · refine Ev.step (fun k => ?_) (ihm (j + 1) (by omega) (by omega) (fun t ht => by
                  by_cases e : t = j
                  · rw [e]; exact c3
                  · exact hd2 t (by omega)))
                simp only [fluxionref11_attrs.l2]; rw [if_pos (by omega), if_pos (by omega), if_pos (by omega), if_pos (by omega), if_pos (by omega), if_neg c3, wrap_id (by omega) (by omega)]; rfl
          exact this i 0 (by omega) (by omega) (fun t ht => absurd ht (by omega))
        refine Ev.step (f := fun k => fluxionref11_attrs.j2 k l (i : Int) false) (fun k => ?_) (Ev.step (fun k => ?_) h2)
        · simp only [fluxionref11_attrs.l1]; rw [if_pos (by omega), if_pos (by omega), if_neg (by omega), decide_eq_false (by omega)]
        · simp only [fluxionref11_attrs.j2, Bool.false_eq_true, if_false]; rfl
    · rw [decide_eq_false (fun x => c (x.1 i hlt).1)]
      refine Ev.at 2 (fun k => ?_)
      simp only [fluxionref11_attrs.l1]; rw [if_pos (by omega), if_pos (by omega)]
      by_cases c1 : rd l (i : Int) < 0
      · rw [if_pos c1]; simp only [fluxionref11_attrs.j2, if_true]
      · rw [if_neg c1, decide_eq_true (by omega)]; simp only [fluxionref11_attrs.j2, if_true]
theorem rd_rangeOf {l : List Int} {x : Int} (h : x ∈ l) : ∃ i, i < l.length ∧ rd l (i : Int) = x := by
  obtain ⟨i, hi, e⟩ := List.getElem_of_mem h
  exact ⟨i, hi, by rw [rd_nat l i hi, e]⟩
theorem fresh_iff (l : List Int) : (∀ j, j < l.length → FreshAt l j) ↔ IsP l := by
  constructor
  · intro h
    have hn : l.Nodup := by
      rw [List.nodup_iff_pairwise_ne, List.pairwise_iff_getElem]
      intro i j hi hj hij
      have := (h j hj).2 i hij
      rwa [rd_nat l i hi, rd_nat l j hj] at this
    have hp := pigeon l (rangeI l.length) hn (fun x hx => by
      obtain ⟨i, hi, e⟩ := rd_rangeOf hx
      have := (h i hi).1
      rw [e] at this
      exact mem_rangeI.2 ⟨x.toNat, by omega, by omega⟩) (by rw [rangeI_length]; exact Nat.le_refl _)
    intro i hi
    exact hp.mem_iff.2 (mem_rangeI.2 ⟨i, hi, rfl⟩)
  · intro h j hj
    have hp := h.perm
    have hn : l.Nodup := hp.nodup_iff.1 (rangeI_nodup _)
    rw [List.nodup_iff_pairwise_ne, List.pairwise_iff_getElem] at hn
    refine ⟨?_, fun t ht => ?_⟩
    · have hm : rd l (j : Int) ∈ l := by rw [rd_nat l j hj]; exact List.getElem_mem hj
      obtain ⟨i, hi, e⟩ := mem_rangeI.1 (hp.mem_iff.2 hm)
      omega
    · rw [rd_nat l t (by omega), rd_nat l j hj]
      exact hn t j (by omega) hj ht
theorem attrs_perm (l : List Int) (hs : l.length ≤ 4611686018427387904) : ∃ b, Ev (fun _ => op_turned.f l) b ∧ Ev (fun k => fluxionref11_attrs.l0 k 11 l (l.length : Int)) b := by
  have h1 := perm_l1 l hs l.length 0 (by omega) (by omega) (fun j hj => absurd hj (by omega))
  refine ⟨_, ?_, Ev.step (fun k => ?_) h1⟩
  · by_cases h4 : l.length ≤ 4
    · rw [show decide ((∀ j, j < l.length → FreshAt l j) ∧ l.length ≤ 4) = decide (IsP l) from decide_eq_decide.2 ⟨fun c => (fresh_iff l).1 c.1, fun c => ⟨(fresh_iff l).2 c, h4⟩⟩]
      refine Ev.congr (f := fun _ => (shape_Perm.f l (l.length : Int)).bind fun t => some (t == 0)) (fun k => by unfold op_turned.f; rw [if_pos (by omega)]) ?_
      refine Ev.bind (g := fun _ => shape_Perm.f l (l.length : Int)) (perm_ev l (l.length : Int) (by omega)) ?_
      by_cases hp : IsP l
      · rw [if_pos ⟨hp, by omega⟩, decide_eq_true hp]; exact Ev.now _
      · rw [if_neg (fun c => hp c.1), decide_eq_false hp]; exact Ev.now _
    · rw [decide_eq_false (fun c => h4 c.2)]
      refine Ev.congr (fun k => ?_) (Ev.now _)
      unfold op_turned.f; rw [if_neg (by omega)]
  · simp only [fluxionref11_attrs.l0, if_neg (Int.lt_irrefl _)]; rfl

/-- What is asked of a row's attributes is what the document asks. -/
theorem attrs_may (i : Nat) (hi : i < 20) (l : List Int) (hs : l.length ≤ 4611686018427387904) (hn : l.any farB = false) :
    ∃ b, Ev (fun k => mayF k l i) b ∧ Ev (fun k => fluxionref11_attrs.l0 k ((i : Int) + 1) l (l.length : Int)) b := by
  have no : ∀ o : Int, (o ≠ 6 ∧ o ≠ 9 ∧ o ≠ 11 ∧ o ≠ 12 ∧ o ≠ 13 ∧ o ≠ 14 ∧ o ≠ 20 ∧ o ≠ 15 ∧ o ≠ 16 ∧ o ≠ 17) → ∃ b, Ev (fun _ => op_no.f l) b ∧ Ev (fun k => fluxionref11_attrs.l0 k o l (l.length : Int)) b := fun o ho => ⟨_, Ev.now _, attrs_no o l ho⟩
  have sh : Ev (fun k => op_dims.f k l) (mayS l == 0) := Ev.bind (may_ev l hs) (Ev.now _)
  rcases lt20 hi with rfl | rfl | rfl | rfl | rfl | rfl | rfl | rfl | rfl | rfl | rfl | rfl | rfl | rfl | rfl | rfl | rfl | rfl | rfl | rfl
  · exact no 1 (by decide)
  · exact no 2 (by decide)
  · exact no 3 (by decide)
  · exact no 4 (by decide)
  · exact no 5 (by decide)
  · exact ⟨_, Ev.now _, attrs_pow l⟩
  · exact no 7 (by decide)
  · exact no 8 (by decide)
  · exact attrs_scale l hn
  · exact no 10 (by decide)
  · exact attrs_perm l hs
  · exact ⟨_, sh, attrs_shape 12 (.inl rfl) l hs⟩
  · exact ⟨_, sh, attrs_shape 13 (.inr rfl) l hs⟩
  · exact ⟨_, rising_ev l hs, attrs_rising 14 (.inl rfl) l hs⟩
  · refine ⟨_, Ev.now _, attrs_pairs 15 (.inl rfl) cutB l (fun x y => ?_)⟩
    unfold cutB
    by_cases h1 : 0 ≤ x <;> by_cases h2 : x < y <;> by_cases h3 : 0 ≤ y <;> simp [h1, h2, h3] <;> omega
  · refine ⟨_, Ev.now _, attrs_pairs 16 (.inr rfl) rimB l (fun x y => ?_)⟩
    unfold rimB mn
    by_cases h1 : 0 ≤ x <;> by_cases h3 : 0 ≤ y <;> by_cases h2 : y < x <;> simp [h1, h2, h3] <;> omega
  · exact ⟨_, Ev.now _, attrs_concat l⟩
  · exact no 18 (by decide)
  · exact no 19 (by decide)
  · exact ⟨_, rising_ev l hs, attrs_rising 20 (.inr rfl) l hs⟩

/-! op.Check and the document's Check -/
theorem none_ev (v : Int) (i : Nat) (hi : i < 20) (hv : 1 ≤ v ∧ v ≤ 3) : Ev (fun k => fluxionref11_None.f k v ((i : Int) + 1)) (decide (v ≤ noneI i)) := by
  refine Ev.at 1 (fun k => ?_)
  have hv : v = 1 ∨ v = 2 ∨ v = 3 := by omega
  rcases hv with rfl | rfl | rfl <;>
    rcases lt20 hi with rfl | rfl | rfl | rfl | rfl | rfl | rfl | rfl | rfl | rfl | rfl | rfl | rfl | rfl | rfl | rfl | rfl | rfl | rfl | rfl <;> rfl
theorem check_ev (v o : Int) (a l : List Int) (hs : l.length ≤ 4611686018427387904) : ∃ r, Ev (fun k => op_Check.f k v o a l) r ∧ Ev (fun k => fluxionref11_Check.f k v o a l) r := by
  by_cases hv : v < 1 ∨ 3 < v
  · refine ⟨8, Ev.congr (fun k => by unfold op_Check.f; rw [if_pos hv]) (Ev.now _), Ev.at 1 (fun k => ?_)⟩
    unfold fluxionref11_Check.f
    rcases hv with h | h
    · rw [if_pos h]; simp only [fluxionref11_Check.j0, if_true]
    · rw [if_neg (by omega), decide_eq_true (by omega)]; simp only [fluxionref11_Check.j0, if_true]
  have e0 : ∀ k, fluxionref11_Check.f (k + 1) v o a l = (fluxionref11_In.f k o v).bind fun t => if t = true then ((fluxionref11_Arity.f k o).bind fun b => if (a.length : Int) < b.1 then fluxionref11_Check.j1 k v true o a l else fluxionref11_Check.j1 k v (decide ((a.length : Int) > b.2)) o a l) else some 9 := fun k => by
    unfold fluxionref11_Check.f
    rw [if_neg (by omega), decide_eq_false (by omega)]; simp only [fluxionref11_Check.j0, Bool.false_eq_true, if_false]
  have hin : Ev (fun k => fluxionref11_In.f k o v) (inR v (rowOf o)) := Ev.at 2 (fun k => in_eq k o v)
  rcases (rowOf_cases o).symm with ho | ⟨i, hi, rfl⟩
  · have hr := rowOf_out o ho
    rw [hr] at hin
    refine ⟨9, Ev.congr (fun k => by unfold op_Check.f; rw [if_neg hv, hr]) (Ev.now _), Ev.step e0 (Ev.bind hin ?_)⟩
    exact Ev.now _
  have hr := rowOf_in i hi
  rw [hr] at hin
  by_cases hb : ¬ (firstI i ≤ v ∧ v ≤ lastI i)
  · refine ⟨9, Ev.congr (fun k => by unfold op_Check.f; rw [if_neg hv, hr]; simp only []; rw [if_neg hb]) (Ev.now _), Ev.step e0 (Ev.bind hin ?_)⟩
    have : inR v (some i) = false := by
      show (decide (firstI i ≤ v) && decide (v ≤ lastI i)) = false
      by_cases h : firstI i ≤ v
      · rw [decide_eq_false (fun c => hb ⟨h, c⟩), Bool.and_false]
      · rw [decide_eq_false h, Bool.false_and]
    rw [this]; exact Ev.now _
  have hb : firstI i ≤ v ∧ v ≤ lastI i := Decidable.not_not.1 hb
  have hti : inR v (some i) = true := by
    show (decide (firstI i ≤ v) && decide (v ≤ lastI i)) = true
    rw [decide_eq_true hb.1, decide_eq_true hb.2]; rfl
  rw [hti] at hin
  have har : Ev (fun k => fluxionref11_Arity.f k ((i : Int) + 1)) (leastI i, mostI i) := Ev.at 1 (fun k => by rw [arity_eq, hr]; rfl)
  have ec : ∀ k, op_Check.f k v ((i : Int) + 1) a l = (if (a.length : Int) < leastI i ∨ mostI i < (a.length : Int) then some 10 else if l.length = 0 ∧ v ≤ noneI i then some 0 else if l.any farB = true then some 11 else (mayF k l i).bind fun b => if b = true then some 0 else some 11) := fun k => by
    unfold op_Check.f; rw [if_neg hv, hr]; simp only []; rw [if_pos hb]
  by_cases ha : (a.length : Int) < leastI i ∨ mostI i < (a.length : Int)
  · refine ⟨10, Ev.congr (fun k => by rw [ec k, if_pos ha]) (Ev.now _), Ev.step e0 (Ev.bind hin ?_)⟩
    simp only [if_true]
    refine Ev.bind har ?_
    refine Ev.at 1 (fun k => ?_)
    rcases ha with h | h
    · rw [if_pos h]; simp only [fluxionref11_Check.j1, if_true]
    · by_cases h2 : (a.length : Int) < leastI i
      · rw [if_pos h2]; simp only [fluxionref11_Check.j1, if_true]
      · rw [if_neg h2, decide_eq_true (by omega)]; simp only [fluxionref11_Check.j1, if_true]
  have ej : ∀ r, Ev (fun k => fluxionref11_Check.j1 k v false ((i : Int) + 1) a l) r → Ev (fun k => fluxionref11_Check.f k v ((i : Int) + 1) a l) r := fun r h => by
    refine Ev.step e0 (Ev.bind hin ?_)
    simp only [if_true]
    refine Ev.bind har ?_
    refine Ev.congr (fun k => ?_) h
    rw [if_neg (by omega), decide_eq_false (by omega)]
  have hnv := none_ev v i hi (by omega)
  by_cases hl : l.length = 0 ∧ v ≤ noneI i
  · refine ⟨0, Ev.congr (fun k => by rw [ec k, if_neg ha, if_pos hl]) (Ev.now _), ej _ ?_⟩
    refine Ev.step (f := fun k => (fluxionref11_None.f k v ((i : Int) + 1)).bind fun t => fluxionref11_Check.j2 k t ((i : Int) + 1) a l) (fun k => ?_) (Ev.bind hnv ?_)
    · simp only [fluxionref11_Check.j1, Bool.false_eq_true, if_false]; rw [if_pos (by omega)]
    · rw [decide_eq_true hl.2]; exact Ev.at 1 (fun k => by simp only [fluxionref11_Check.j2, if_true])
  have ek : ∀ r, Ev (fun k => fluxionref11_Check.j2 k false ((i : Int) + 1) a l) r → Ev (fun k => fluxionref11_Check.f k v ((i : Int) + 1) a l) r := fun r h => by
    refine ej _ ?_
    by_cases h0 : l.length = 0
    · refine Ev.step (f := fun k => (fluxionref11_None.f k v ((i : Int) + 1)).bind fun t => fluxionref11_Check.j2 k t ((i : Int) + 1) a l) (fun k => ?_) (Ev.bind hnv ?_)
      · simp only [fluxionref11_Check.j1, Bool.false_eq_true, if_false]; rw [if_pos (by omega)]
      · rw [decide_eq_false (fun c => hl ⟨h0, c⟩)]; exact h
    · refine Ev.step (fun k => ?_) h
      simp only [fluxionref11_Check.j1, Bool.false_eq_true, if_false]; rw [if_neg (by omega)]
  have el : ∀ b, Ev (fun k => fluxionref11_attrs.f k ((i : Int) + 1) l) b → Ev (fun k => fluxionref11_Check.f k v ((i : Int) + 1) a l) (if b = true then 0 else 11) := fun b h => by
    refine ek _ ?_
    refine Ev.step (f := fun k => (fluxionref11_attrs.f k ((i : Int) + 1) l).bind fun t => if t = true then some 0 else some 11) (fun k => ?_) (Ev.bind h ?_)
    · simp only [fluxionref11_Check.j2, Bool.false_eq_true, if_false]
    · cases b <;> exact Ev.now _
  cases hf : l.any farB with
  | true =>
    refine ⟨11, Ev.congr (fun k => by rw [ec k, if_neg ha, if_neg hl, hf, if_pos rfl]) (Ev.now _), el false ?_⟩
    -- a number that is too far
    have far : ∀ (m j : Nat), l.length - j = m → j ≤ l.length → (l.drop j).any farB = true → Ev (fun k => fluxionref11_attrs.l0 k ((i : Int) + 1) l (j : Int)) false := by
      intro m
      induction m with
      | zero => intro j hm hj hd; rw [show j = l.length by omega, List.drop_length] at hd; exact absurd hd (by simp)
      | succ m ih =>
        intro j hm hj hd
        have hlt : j < l.length := by omega
        rw [drop_cons l j hlt, List.any_cons] at hd
        by_cases h1 : rd l (j : Int) > 2147483647
        · refine Ev.step (f := fun _ => some false) (fun k => ?_) (Ev.now _)
          simp only [fluxionref11_attrs.l0]; rw [if_pos (by omega), if_pos (by omega), if_pos h1]
        · by_cases h2 : rd l (j : Int) < -2147483647
          · refine Ev.step (f := fun _ => some false) (fun k => ?_) (Ev.now _)
            simp only [fluxionref11_attrs.l0]; rw [if_pos (by omega), if_pos (by omega), if_neg h1, if_pos h2]
          · rw [show farB (rd l (j : Int)) = false by simp [farB]; omega, Bool.false_or] at hd
            refine Ev.step (fun k => ?_) (ih (j + 1) (by omega) (by omega) hd)
            simp only [fluxionref11_attrs.l0]; rw [if_pos (by omega), if_pos (by omega), if_neg h1, if_neg h2, wrap_id (by omega) (by omega)]; rfl
    exact far l.length 0 (by omega) (by omega) hf
  | false =>
    obtain ⟨b, hb1, hb2⟩ := attrs_may i hi l hs hf
    refine ⟨if b = true then 0 else 11, Ev.congr (fun k => by rw [ec k, if_neg ha, if_neg hl, hf, if_neg (by decide)]) (Ev.bind hb1 (by cases b <;> exact Ev.now _)), el b ?_⟩
    have h := attrs_loop ((i : Int) + 1) l hs b hb2 l.length 0 (by omega) (by omega)
    rw [List.drop_zero, hf] at h
    exact h

/-! Same lists -/
theorem sameS_l0 (a : List Int) (hs : a.length ≤ 4611686018427387904) : ∀ (m : Nat) (i : Nat), a.length - i = m → i ≤ a.length → Ev (fun k => fluxionref07_SameShape.l0 k a a (i : Int)) true
  | 0, i, hm, hi => by
    refine Ev.step (f := fun _ => some true) (fun k => ?_) (Ev.now _)
    simp only [fluxionref07_SameShape.l0]; rw [if_neg (by omega)]
  | m + 1, i, hm, hi => by
    refine Ev.step (fun k => ?_) (sameS_l0 a hs m (i + 1) (by omega) (by omega))
    simp only [fluxionref07_SameShape.l0]; rw [if_pos (by omega), if_pos (by omega), if_pos (by omega), wrap_id (by omega) (by omega)]; simp
theorem sameS_ev (a : List Int) (hs : a.length ≤ 4611686018427387904) : Ev (fun k => fluxionref07_SameShape.f k a a) true := by
  refine Ev.congr (fun k => ?_) (sameS_l0 a hs a.length 0 (by omega) (by omega))
  unfold fluxionref07_SameShape.f; rw [if_pos rfl]; rfl
/-! What op.Check says -/
def CheckOk (k : Nat) (v o : Int) (a l : List Int) (i : Nat) : Prop := (1 ≤ v ∧ v ≤ 3) ∧ rowOf o = some i ∧ (firstI i ≤ v ∧ v ≤ lastI i) ∧ ¬ ((a.length : Int) < leastI i ∨ mostI i < (a.length : Int)) ∧ ((l.length = 0 ∧ v ≤ noneI i) ∨ (l.any farB = false ∧ mayF k l i = some true))
theorem check_ok {k : Nat} {v o : Int} {a l : List Int} (h : op_Check.f k v o a l = some 0) : ∃ i, CheckOk k v o a l i := by
  unfold op_Check.f at h
  by_cases hv : v < 1 ∨ 3 < v
  · rw [if_pos hv] at h; cases h
  rw [if_neg hv] at h
  cases hr : rowOf o with
  | none => rw [hr] at h; cases h
  | some i =>
    rw [hr] at h
    simp only [] at h
    by_cases hb : firstI i ≤ v ∧ v ≤ lastI i
    · rw [if_pos hb] at h
      by_cases ha : (a.length : Int) < leastI i ∨ mostI i < (a.length : Int)
      · rw [if_pos ha] at h; cases h
      rw [if_neg ha] at h
      refine ⟨i, by omega, hr, hb, ha, ?_⟩
      by_cases hl : l.length = 0 ∧ v ≤ noneI i
      · exact .inl hl
      rw [if_neg hl] at h
      cases hf : l.any farB with
      | true => rw [hf] at h; cases h
      | false =>
        rw [hf, if_neg (by decide)] at h
        obtain ⟨b, hb1, hb2⟩ := Option.bind_eq_some_iff.1 h
        cases b with
        | true => exact .inr ⟨rfl, hb1⟩
        | false => cases hb2
    · rw [if_neg hb] at h; cases h
theorem ok_check {k : Nat} {v o : Int} {a l : List Int} {i : Nat} (h : CheckOk k v o a l i) : op_Check.f k v o a l = some 0 := by
  obtain ⟨hv, hr, hb, ha, h⟩ := h
  unfold op_Check.f
  rw [if_neg (by omega), hr]
  simp only []
  rw [if_pos hb, if_neg ha]
  by_cases hl : l.length = 0 ∧ v ≤ noneI i
  · rw [if_pos hl]
  · rw [if_neg hl]
    rcases h with h | ⟨hf, hm⟩
    · exact absurd h hl
    · rw [hf, if_neg (by decide), hm]; rfl
theorem row_lt {o : Int} {i : Nat} (h : rowOf o = some i) : i < 20 ∧ o = (i : Int) + 1 := by
  rcases rowOf_cases o with ⟨j, hj, rfl⟩ | ho
  · rw [rowOf_in j hj] at h
    obtain rfl := Option.some.inj h
    exact ⟨hj, rfl⟩
  · rw [rowOf_out o ho] at h; cases h
theorem explS_length (o r : Int) (h : r ≤ 4) : (explS o r).length ≤ 4 := by
  unfold explS
  split
  · simp
  · split
    · simp
    · split
      · rw [List.length_reverse, upToI_length]; omega
      · rw [upToI_length]; omega
theorem rankS_le (rs : List Int) : 0 ≤ rankS rs ∧ rankS rs ≤ 4 := by
  unfold rankS; split
  · rename_i h; exact h.2
  · omega

/-! What is told is explicit -/
theorem built_ok (i : Nat) (hi : i < 20) (hn : 1 ≤ noneI i) (r : Int) (hr : 0 ≤ r ∧ r ≤ 4) : (explS ((i : Int) + 1) r).any farB = false ∧ Ev (fun k => mayF k (explS ((i : Int) + 1) r) i) true := by
  have hr5 : r = 0 ∨ r = 1 ∨ r = 2 ∨ r = 3 ∨ r = 4 := by omega
  have up : ∀ m : Nat, m ≤ 4 → axesB 4 (-1) (upToI m) = true := fun m hm => by
    rcases (by omega : m = 0 ∨ m = 1 ∨ m = 2 ∨ m = 3 ∨ m = 4) with rfl | rfl | rfl | rfl | rfl <;> decide
  have upe : ∀ m : Nat, m ≤ 4 → Ev (fun k => op_rising.f k (upToI m)) true := fun m hm => by
    have h := rising_ev (upToI m) (by rw [upToI_length]; omega)
    rw [up m hm] at h; exact h
  have far : ∀ m : Nat, m ≤ 4 → (upToI m).any farB = false := fun m hm => by
    rcases (by omega : m = 0 ∨ m = 1 ∨ m = 2 ∨ m = 3 ∨ m = 4) with rfl | rfl | rfl | rfl | rfl <;> decide
  have farr : ∀ m : Nat, m ≤ 4 → (upToI m).reverse.any farB = false := fun m hm => by
    rcases (by omega : m = 0 ∨ m = 1 ∨ m = 2 ∨ m = 3 ∨ m = 4) with rfl | rfl | rfl | rfl | rfl <;> decide
  have isp : ∀ m : Nat, m ≤ 4 → IsP (upToI m).reverse := fun m hm => by
    rcases (by omega : m = 0 ∨ m = 1 ∨ m = 2 ∨ m = 3 ∨ m = 4) with rfl | rfl | rfl | rfl | rfl <;>
      · intro j hj
        simp only [List.length_reverse, upToI_length] at hj
        simp only [List.mem_reverse, upToI, List.mem_map, List.mem_range]
        exact ⟨j, hj, rfl⟩
  have tur : ∀ m : Nat, m ≤ 4 → op_turned.f (upToI m).reverse = some true := fun m hm => by
    have hl : (upToI m).reverse.length = m := by rw [List.length_reverse, upToI_length]
    obtain ⟨k, hk⟩ := (perm_ev (upToI m).reverse ((upToI m).reverse.length : Int) (by omega)).rounds
    unfold op_turned.f
    rw [if_pos (by omega), hk, if_pos ⟨isp m hm, by omega⟩]; rfl
  have h4 : r.toNat ≤ 4 := by omega
  rcases lt20 hi with rfl | rfl | rfl | rfl | rfl | rfl | rfl | rfl | rfl | rfl | rfl | rfl | rfl | rfl | rfl | rfl | rfl | rfl | rfl | rfl
  all_goals first
    | exact absurd hn (by decide)
    | exact ⟨(by decide : ([2] : List Int).any farB = false), (Ev.now true : Ev (fun _ => some (oneB 16 [2])) true)⟩
    | exact ⟨(by decide : ([0] : List Int).any farB = false), (Ev.now true : Ev (fun _ => some (oneB 3 [0])) true)⟩
    | exact ⟨far r.toNat h4, upe r.toNat h4⟩
    | (refine ⟨farr r.toNat h4, Ev.congr (f := fun _ => some true) (fun k => ?_) (Ev.now _)⟩; exact tur r.toNat h4)
def onwardE (v o : Int) (l : List Int) (x : Int) (i : Nat) : List Int := if l.length = 0 ∧ v ≤ noneI i then explS o (rankS [x]) else l
theorem onward_check {k : Nat} {v o : Int} {a l : List Int} {i : Nat} (x v' : Int) (h : CheckOk k v o a l i) (hv : 1 ≤ v' ∧ v' ≤ 3) (hb : firstI i ≤ v' ∧ v' ≤ lastI i) : Ev (fun k => op_Check.f k v' o a (onwardE v o l x i)) 0 := by
  obtain ⟨hv0, hr, hb0, ha, h⟩ := h
  obtain ⟨hi, rfl⟩ := row_lt hr
  unfold onwardE
  by_cases hc : l.length = 0 ∧ v ≤ noneI i
  · rw [if_pos hc]
    obtain ⟨h1, h2⟩ := built_ok i hi (by omega) (rankS [x]) (rankS_le [x])
    obtain ⟨K, hK⟩ := h2.rounds
    exact Ev.of (fun k => op_Check.mono _ _ _ _ k) (k := K) (ok_check ⟨hv, hr, hb, ha, .inr ⟨h1, hK⟩⟩)
  · rw [if_neg hc]
    rcases h with h | h
    · exact absurd h hc
    · exact Ev.of (fun k => op_Check.mono _ _ _ _ k) (k := k) (ok_check ⟨hv, hr, hb, ha, .inr h⟩)
end Go.Proofs.Ytbefcdidlfkmnaa.Print
