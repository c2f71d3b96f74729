/- Plain laws: the digits of a place, the place of digits, the next digits (mixed radix, the innermost dimension first). No condition beyond those written. -/
import Derived.Test.YtfkohjngogjmkaaPu2
namespace Go.Proofs.Ytfkohjngogjmkaa.Print
open Go.RowKit Go.Proofs.YtfkohjngogjmkaaW.PrintWords Go.Proofs.YtfkohjngogjmkaaW.PrintLast

def digR : List Int → Int → List Int
  | [], _ => []
  | d :: r, p => p % d :: digR r (p / d)
def offR : List Int → List Int → Int
  | d :: r, i :: j => offR r j * d + i
  | _, _ => 0
def inB : List Int → List Int → Bool
  | [], [] => true
  | d :: r, i :: j => (decide (0 ≤ i) && decide (i < d)) && inB r j
  | _, _ => false
def nextR : List Int → List Int → List Int × Bool
  | d :: r, i :: j => if i + 1 < d then ((i + 1) :: j, true) else (0 :: (nextR r j).1, (nextR r j).2)
  | _, _ => ([], false)

theorem digR_length : ∀ (r : List Int) (p : Int), (digR r p).length = r.length
  | [], _ => rfl
  | d :: r, p => by simp [digR, digR_length r]

theorem pr_reverse : ∀ (s : List Int), pr s.reverse = pr s
  | [] => rfl
  | d :: s => by rw [List.reverse_cons, pr_append, pr_reverse s]; simp [pr, Int.mul_comm]

theorem offR_digR : ∀ (r : List Int) (p : Int), (∀ d ∈ r, 1 ≤ d) → 0 ≤ p → p < pr r → offR r (digR r p) = p ∧ inB r (digR r p) = true
  | [], p, _, h0, h1 => by simp [pr] at h1; exact ⟨by simp [offR]; omega, rfl⟩
  | d :: r, p, hp, h0, h1 => by
    have hd := hp d (List.mem_cons_self ..)
    rw [pr, Int.mul_comm] at h1
    obtain ⟨a, b⟩ := offR_digR r (p / d) (fun x hx => hp x (List.mem_cons_of_mem _ hx)) (Int.ediv_nonneg h0 (by omega)) (Int.ediv_lt_of_lt_mul (by omega) h1)
    have e := Int.mul_ediv_add_emod p d
    have m0 := Int.emod_nonneg p (b := d) (by omega)
    have m1 := Int.emod_lt_of_pos p (b := d) (by omega)
    rw [digR, offR, inB, a, b]
    refine ⟨by rw [Int.mul_comm]; exact e, by simp [m0, m1]⟩

theorem digR_offR : ∀ (r j : List Int), inB r j = true → digR r (offR r j) = j ∧ 0 ≤ offR r j ∧ offR r j < pr r
  | [], [], _ => by simp [digR, offR, pr]
  | [], _ :: _, h => by simp [inB] at h
  | _ :: _, [], h => by simp [inB] at h
  | d :: r, i :: j, h => by
    simp only [inB, Bool.and_eq_true, decide_eq_true_eq] at h
    obtain ⟨⟨h0, h1⟩, h2⟩ := h
    obtain ⟨a, b, c⟩ := digR_offR r j h2
    have e1 : (offR r j * d + i) % d = i := by rw [Int.add_comm, Int.add_mul_emod_self_right, Int.emod_eq_of_lt h0 h1]
    have e2 : (offR r j * d + i) / d = offR r j := by rw [Int.add_comm, Int.add_mul_ediv_right _ _ (by omega), Int.ediv_eq_zero_of_lt h0 h1, Int.zero_add]
    rw [digR, offR, e1, e2, a]
    have b2 : 0 ≤ offR r j * d := Int.mul_nonneg b (by omega)
    have c2 : (offR r j + 1) * d ≤ pr r * d := Int.mul_le_mul_of_nonneg_right (by omega) (by omega)
    rw [Int.add_mul, Int.one_mul] at c2
    rw [pr, Int.mul_comm d]
    exact ⟨rfl, by omega, by omega⟩

theorem inB_length : ∀ (r j : List Int), inB r j = true → r.length = j.length
  | [], [], _ => rfl
  | [], _ :: _, h => by simp [inB] at h
  | _ :: _, [], h => by simp [inB] at h
  | d :: r, i :: j, h => by simp only [inB, Bool.and_eq_true] at h; simp [inB_length r j h.2]

theorem inB_append : ∀ (x u y v : List Int), x.length = u.length → inB (x ++ y) (u ++ v) = (inB x u && inB y v)
  | [], [], y, v, _ => by simp [inB]
  | [], _ :: _, _, _, h => by simp at h
  | _ :: _, [], _, _, h => by simp at h
  | d :: x, i :: u, y, v, h => by
    simp only [List.cons_append, inB, inB_append x u y v (by simpa using h), Bool.and_assoc]

theorem digR_zero : ∀ (r : List Int), digR r 0 = List.replicate r.length 0
  | [] => rfl
  | d :: r => by simp [digR, digR_zero r, List.replicate_succ]

theorem nextR_digR : ∀ (r : List Int) (p : Int), (∀ d ∈ r, 1 ≤ d) → 0 ≤ p → p < pr r → nextR r (digR r p) = if p + 1 < pr r then (digR r (p + 1), true) else (digR r 0, false)
  | [], p, _, h0, h1 => by simp [pr] at h1; rw [if_neg (by simp [pr]; omega)]; rfl
  | d :: r, p, hp, h0, h1 => by
    have hd := hp d (List.mem_cons_self ..)
    have h1' := h1
    rw [pr, Int.mul_comm] at h1
    have q0 : 0 ≤ p / d := Int.ediv_nonneg h0 (by omega)
    have q1 : p / d < pr r := Int.ediv_lt_of_lt_mul (by omega) h1
    have ih := nextR_digR r (p / d) (fun x hx => hp x (List.mem_cons_of_mem _ hx)) q0 q1
    have e := Int.mul_ediv_add_emod p d
    have m0 := Int.emod_nonneg p (b := d) (by omega)
    have m1 := Int.emod_lt_of_pos p (b := d) (by omega)
    have c2 : (p / d + 1) * d ≤ pr r * d := Int.mul_le_mul_of_nonneg_right (by omega) (by omega)
    rw [Int.add_mul, Int.one_mul, Int.mul_comm (p / d)] at c2
    rw [digR, nextR]
    by_cases hc : p % d + 1 < d
    · rw [if_pos hc, if_pos (by rw [pr, Int.mul_comm]; omega)]
      have e1 : (p + 1) % d = p % d + 1 := by
        rw [show p + 1 = (p % d + 1) + p / d * d by rw [Int.mul_comm (p / d)]; omega, Int.add_mul_emod_self_right, Int.emod_eq_of_lt (by omega) hc]
      have e2 : (p + 1) / d = p / d := by
        rw [show p + 1 = (p % d + 1) + p / d * d by rw [Int.mul_comm (p / d)]; omega, Int.add_mul_ediv_right _ _ (by omega), Int.ediv_eq_zero_of_lt (by omega) hc, Int.zero_add]
      rw [digR, e1, e2]
    · rw [if_neg hc, ih]
      have e0 : p + 1 = 0 + (p / d + 1) * d := by rw [Int.add_mul, Int.one_mul, Int.mul_comm (p / d)]; omega
      have e1 : (p + 1) % d = 0 := by rw [e0, Int.add_mul_emod_self_right, Int.zero_emod]
      have e2 : (p + 1) / d = p / d + 1 := by rw [e0, Int.add_mul_ediv_right _ _ (by omega), Int.zero_ediv, Int.zero_add]
      by_cases hq : p / d + 1 < pr r
      · have c3 : (p / d + 1 + 1) * d ≤ pr r * d := Int.mul_le_mul_of_nonneg_right (by omega) (by omega)
        rw [Int.add_mul, Int.one_mul, Int.add_mul, Int.one_mul, Int.mul_comm (p / d)] at c3
        rw [if_pos hq, if_pos (by rw [pr, Int.mul_comm]; omega), digR, e1, e2]
      · have c3 : pr r * d ≤ (p / d + 1) * d := Int.mul_le_mul_of_nonneg_right (by omega) (by omega)
        rw [Int.add_mul, Int.one_mul, Int.mul_comm (p / d)] at c3
        rw [if_neg hq, if_neg (by rw [pr, Int.mul_comm d]; omega), digR, Int.zero_emod, Int.zero_ediv]

/-- The index of a place. -/
def ixOf (s : List Int) (p : Int) : List Int := (digR s.reverse p).reverse
theorem ixOf_length (s : List Int) (p : Int) : (ixOf s p).length = s.length := by simp [ixOf, digR_length]

theorem rev_take (s : List Int) (t : Nat) (h : t < s.length) : (s.take (t + 1)).reverse = rd s (t : Int) :: (s.take t).reverse := by
  rw [List.take_succ_eq_append_getElem h, List.reverse_append, rd_nat s t h]; rfl
theorem rev_split (s : List Int) (t : Nat) (h : t < s.length) : s.reverse = (s.drop (t + 1)).reverse ++ (rd s (t : Int) :: (s.take t).reverse) := by
  conv => lhs; rw [← List.take_append_drop (t + 1) s]
  rw [List.reverse_append, rev_take s t h]
end Go.Proofs.Ytfkohjngogjmkaa.Print
