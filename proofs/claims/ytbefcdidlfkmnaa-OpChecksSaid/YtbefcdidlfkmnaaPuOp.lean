/- Plain laws on the table of ops: the row of an op, the reference's versions, arity, names. No condition beyond those written. -/
import Derived.Test.YtbefcdidlfkmnaaHOf
import Derived.Test.YtbefcdidlfkmnaaA1
import Derived.Test.YtbefcdidlfkmnaaA2
namespace Go.Proofs.Ytbefcdidlfkmnaa.Print
open Go.RowKit Go.Proofs.YtbefcdidlfkmnaaW.PrintWords Go.Proofs.YtbefcdidlfkmnaaW.PrintLast

theorem lt20 {i : Nat} (h : i < 20) : i = 0 ∨ i = 1 ∨ i = 2 ∨ i = 3 ∨ i = 4 ∨ i = 5 ∨ i = 6 ∨ i = 7 ∨ i = 8 ∨ i = 9 ∨ i = 10 ∨ i = 11 ∨ i = 12 ∨ i = 13 ∨ i = 14 ∨ i = 15 ∨ i = 16 ∨ i = 17 ∨ i = 18 ∨ i = 19 := by omega
theorem opI_eq {i : Nat} (h : i < 20) : opI i = (i : Int) + 1 := by
  rcases lt20 h with rfl | rfl | rfl | rfl | rfl | rfl | rfl | rfl | rfl | rfl | rfl | rfl | rfl | rfl | rfl | rfl | rfl | rfl | rfl | rfl <;> rfl
theorem rowOf_in (i : Nat) (h : i < 20) : rowOf ((i : Int) + 1) = some i := by
  rcases lt20 h with rfl | rfl | rfl | rfl | rfl | rfl | rfl | rfl | rfl | rfl | rfl | rfl | rfl | rfl | rfl | rfl | rfl | rfl | rfl | rfl <;> decide +kernel
theorem rowOf_out (o : Int) (h : o < 1 ∨ 20 < o) : rowOf o = none := by
  unfold rowOf firstOf
  rw [List.find?_eq_none]
  intro i hi
  have hi : i < 20 := by simpa using hi
  rw [opI_eq hi]
  simp; omega
theorem rowOf_cases (o : Int) : (∃ i : Nat, i < 20 ∧ o = (i : Int) + 1) ∨ (o < 1 ∨ 20 < o) := by
  by_cases h : o < 1 ∨ 20 < o
  · exact .inr h
  · exact .inl ⟨(o - 1).toNat, by omega, by omega⟩
theorem first_last {i : Nat} (h : i < 20) : 1 ≤ firstI i ∧ lastI i ≤ 3 := by
  rcases lt20 h with rfl | rfl | rfl | rfl | rfl | rfl | rfl | rfl | rfl | rfl | rfl | rfl | rfl | rfl | rfl | rfl | rfl | rfl | rfl | rfl <;> decide
theorem in_eq (k : Nat) (o v : Int) : fluxionref11_In.f (k + 2) o v = some (inR v (rowOf o)) := by
  unfold fluxionref11_In.f
  rcases rowOf_cases o with ⟨i, hi, rfl⟩ | ho
  · rw [rowOf_in i hi, if_neg (by omega), if_neg (by omega)]
    have hfl := first_last hi
    by_cases h1 : v < 1
    · rw [if_pos h1]
      simp only [fluxionref11_In.j0, inR, if_true]
      rw [decide_eq_false (by omega : ¬ firstI i ≤ v)]; rfl
    · rw [if_neg h1]
      by_cases h3 : v > 3
      · rw [decide_eq_true h3]
        simp only [fluxionref11_In.j0, inR, if_true]
        rw [decide_eq_false (by omega : ¬ v ≤ lastI i), Bool.and_false]
      · rw [decide_eq_false h3]
        have hv : v = 1 ∨ v = 2 ∨ v = 3 := by omega
        rcases hv with rfl | rfl | rfl <;>
          rcases lt20 hi with rfl | rfl | rfl | rfl | rfl | rfl | rfl | rfl | rfl | rfl | rfl | rfl | rfl | rfl | rfl | rfl | rfl | rfl | rfl | rfl <;> rfl
  · rw [rowOf_out o ho]
    rcases ho with h | h
    · rw [if_pos h]; rfl
    · rw [if_neg (by omega), if_pos h]; rfl
theorem arity_eq (k : Nat) (o : Int) : fluxionref11_Arity.f (k + 1) o = some (arityR (rowOf o)) := by
  rcases rowOf_cases o with ⟨i, hi, rfl⟩ | ho
  · rw [rowOf_in i hi]
    rcases lt20 hi with rfl | rfl | rfl | rfl | rfl | rfl | rfl | rfl | rfl | rfl | rfl | rfl | rfl | rfl | rfl | rfl | rfl | rfl | rfl | rfl <;> rfl
  · rw [rowOf_out o ho]
    unfold fluxionref11_Arity.f
    rw [if_neg (by omega), if_neg (by omega), if_neg (by omega), if_neg (by omega)]
    simp only [fluxionref11_Arity.j0]
    rw [if_neg (by simp; omega), if_neg (by omega), if_neg (by omega)]
    rcases ho with h | h
    · rw [if_pos h]; rfl
    · rw [if_neg (by omega), if_pos h]; rfl
end Go.Proofs.Ytbefcdidlfkmnaa.Print
