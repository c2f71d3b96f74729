/- Written by a program of this session (wip/tools/myprint.py): Lean functions with the same answers as Go functions of the program, and proofs that the Go code comes to them; no condition beyond those written. -/
import Derived.Test.YtbefcdidlfkmnaaK0
import Derived.Test.YtbefcdidlfkmnaaA4
import Derived.Test.YtbefcdidlfkmnaaA5
namespace Go.Proofs.Ytbefcdidlfkmnaa.Print
open Go.RowKit Go.Proofs.YtbefcdidlfkmnaaW.PrintWords Go.Proofs.YtbefcdidlfkmnaaW.PrintLast Go.Proofs.YtbefcdidlfkmnaaW.PrintMore
attribute [local go_sem] max2_int min2_int max_two min_two max_three min_three max_four min_four   -- for this text's walks alone
set_option linter.unusedVariables false
set_option linter.unusedSimpArgs false

/-! ### fluxionref11_attrs: function 29 -/
mutual
def fluxionref11_attrs.l0 : Nat → Int → List Int → Int → Option (Bool)
  | 0, _, _, _ => none
  | k + 1, x0, x1, x5 => if x5 < (x1.length : Int) then (if 0 ≤ x5 then (if (rd x1 x5) > 2147483647 then (some false) else (if (rd x1 x5) < (-2147483647) then (some false) else (fluxionref11_attrs.l0 k x0 x1 (wrap64 (x5 + 1))))) else (none)) else (if x0 = 6 then (if (x1.length : Int) = 1 then (if 0 < (x1.length : Int) then (if (rd x1 0) ≥ 0 then (some (decide ((rd x1 0) ≤ 16))) else (some false)) else (none)) else (some false)) else (if x0 = 9 then (if (x1.length : Int) = 2 then (if 1 < (x1.length : Int) then (if (rd x1 1) ≥ 1 then (if 0 < (x1.length : Int) then ((fluxionref11_divisor.f k (rd x1 0) (rd x1 1)).bind fun t111 => (some (!t111))) else (none)) else (some false)) else (none)) else (some false)) else (if x0 = 11 then (fluxionref11_attrs.l1 k x1 0) else (if x0 = 12 then (fluxionref11_attrs.j4 k x0 x1 x0 (x0 == 12)) else (fluxionref11_attrs.j4 k x0 x1 x0 (x0 == 13))))))
def fluxionref11_attrs.l1 : Nat → List Int → Int → Option (Bool)
  | 0, _, _ => none
  | k + 1, x1, x6 => if x6 < (x1.length : Int) then (if 0 ≤ x6 then (if (rd x1 x6) < 0 then (fluxionref11_attrs.j2 k x1 x6 true) else (fluxionref11_attrs.j2 k x1 x6 (decide ((rd x1 x6) ≥ (x1.length : Int))))) else (none)) else (some (decide ((x1.length : Int) ≤ 4)))
def fluxionref11_attrs.j2 : Nat → List Int → Int → Bool → Option (Bool)
  | 0, _, _, _ => none
  | k + 1, x1, x6, x88 => if x88 = true then (some false) else (fluxionref11_attrs.l2 k x1 x6 0)
def fluxionref11_attrs.l2 : Nat → List Int → Int → Int → Option (Bool)
  | 0, _, _, _ => none
  | k + 1, x1, x6, x7 => if x7 < x6 then (if 0 ≤ x7 then (if x7 < (x1.length : Int) then (if 0 ≤ x6 then (if x6 < (x1.length : Int) then (if (rd x1 x7) = (rd x1 x6) then (some false) else (fluxionref11_attrs.l2 k x1 x6 (wrap64 (x7 + 1)))) else (none)) else (none)) else (none)) else (none)) else (fluxionref11_attrs.l1 k x1 (wrap64 (x6 + 1)))
def fluxionref11_attrs.j4 : Nat → Int → List Int → Int → Bool → Option (Bool)
  | 0, _, _, _, _ => none
  | k + 1, x0, x1, x28, x106 => if x106 = true then ((fluxionref06_May.f k x1).bind fun t116 => (some (t116 == 0))) else (if x28 = 14 then (fluxionref11_attrs.j5 k x0 x1 x28 (x28 == 14)) else (fluxionref11_attrs.j5 k x0 x1 x28 (x28 == 20)))
def fluxionref11_attrs.j5 : Nat → Int → List Int → Int → Bool → Option (Bool)
  | 0, _, _, _, _ => none
  | k + 1, x0, x1, x28, x112 => if x112 = true then (fluxionref11_attrs.l3 k x1 0) else (if x28 = 15 then (fluxionref11_attrs.j7 k x0 x1 x28 (x28 == 15)) else (fluxionref11_attrs.j7 k x0 x1 x28 (x28 == 16)))
def fluxionref11_attrs.l3 : Nat → List Int → Int → Option (Bool)
  | 0, _, _ => none
  | k + 1, x1, x8 => if x8 < (x1.length : Int) then (if 0 ≤ x8 then (if (rd x1 x8) < 0 then (some false) else (if (rd x1 x8) > 3 then (some false) else (if x8 > 0 then (if 0 ≤ (wrap64 (x8 - 1)) then (if (wrap64 (x8 - 1)) < (x1.length : Int) then (if (rd x1 x8) ≤ (rd x1 (wrap64 (x8 - 1))) then (some false) else (fluxionref11_attrs.l3 k x1 (wrap64 (x8 + 1)))) else (none)) else (none)) else (fluxionref11_attrs.l3 k x1 (wrap64 (x8 + 1)))))) else (none)) else (some true)
def fluxionref11_attrs.j7 : Nat → Int → List Int → Int → Bool → Option (Bool)
  | 0, _, _, _, _ => none
  | k + 1, x0, x1, x28, x149 => if x149 = true then (if ((x1.length : Int) % 2) = 1 then (fluxionref11_attrs.j8 k x0 x1 true) else (fluxionref11_attrs.j8 k x0 x1 (decide ((x1.length : Int) > 8)))) else (if x28 = 17 then (if (x1.length : Int) = 1 then (if 0 < (x1.length : Int) then (if (rd x1 0) ≥ 0 then (some (decide ((rd x1 0) ≤ 3))) else (some false)) else (none)) else (some false)) else (some ((x1.length : Int) == 0)))
def fluxionref11_attrs.j8 : Nat → Int → List Int → Bool → Option (Bool)
  | 0, _, _, _ => none
  | k + 1, x0, x1, x160 => if x160 = true then (some false) else (fluxionref11_attrs.l4 k x0 x1 0)
def fluxionref11_attrs.l4 : Nat → Int → List Int → Int → Option (Bool)
  | 0, _, _, _ => none
  | k + 1, x0, x1, x9 => if x9 < (x1.length : Int) then (if 0 ≤ x9 then (if (rd x1 x9) < 0 then (some false) else (if 0 ≤ (wrap64 (x9 + 1)) then (if (wrap64 (x9 + 1)) < (x1.length : Int) then (if (rd x1 (wrap64 (x9 + 1))) < 0 then (some false) else (if x0 = 15 then (if (rd x1 (wrap64 (x9 + 1))) ≤ (rd x1 x9) then (some false) else (fluxionref11_attrs.l4 k x0 x1 (wrap64 (x9 + 2)))) else (fluxionref11_attrs.l4 k x0 x1 (wrap64 (x9 + 2))))) else (none)) else (none))) else (none)) else (some true)
end
def fluxionref11_attrs.f (k : Nat) (a0 : Int) (l1 : List Int) : Option (Bool) := fluxionref11_attrs.l0 k a0 l1 0
theorem fluxionref11_attrs.mono_l : ∀ k, (∀ y0 y1 y2, LeO (fluxionref11_attrs.l0 k y0 y1 y2) (fluxionref11_attrs.l0 (k + 1) y0 y1 y2)) ∧ (∀ y0 y1, LeO (fluxionref11_attrs.l1 k y0 y1) (fluxionref11_attrs.l1 (k + 1) y0 y1)) ∧ (∀ y0 y1 y2, LeO (fluxionref11_attrs.j2 k y0 y1 y2) (fluxionref11_attrs.j2 (k + 1) y0 y1 y2)) ∧ (∀ y0 y1 y2, LeO (fluxionref11_attrs.l2 k y0 y1 y2) (fluxionref11_attrs.l2 (k + 1) y0 y1 y2)) ∧ (∀ y0 y1 y2 y3, LeO (fluxionref11_attrs.j4 k y0 y1 y2 y3) (fluxionref11_attrs.j4 (k + 1) y0 y1 y2 y3)) ∧ (∀ y0 y1 y2 y3, LeO (fluxionref11_attrs.j5 k y0 y1 y2 y3) (fluxionref11_attrs.j5 (k + 1) y0 y1 y2 y3)) ∧ (∀ y0 y1, LeO (fluxionref11_attrs.l3 k y0 y1) (fluxionref11_attrs.l3 (k + 1) y0 y1)) ∧ (∀ y0 y1 y2 y3, LeO (fluxionref11_attrs.j7 k y0 y1 y2 y3) (fluxionref11_attrs.j7 (k + 1) y0 y1 y2 y3)) ∧ (∀ y0 y1 y2, LeO (fluxionref11_attrs.j8 k y0 y1 y2) (fluxionref11_attrs.j8 (k + 1) y0 y1 y2)) ∧ (∀ y0 y1 y2, LeO (fluxionref11_attrs.l4 k y0 y1 y2) (fluxionref11_attrs.l4 (k + 1) y0 y1 y2))
  | 0 => ⟨fun _ _ _ r h => by simp [fluxionref11_attrs.l0] at h, fun _ _ r h => by simp [fluxionref11_attrs.l1] at h, fun _ _ _ r h => by simp [fluxionref11_attrs.j2] at h, fun _ _ _ r h => by simp [fluxionref11_attrs.l2] at h, fun _ _ _ _ r h => by simp [fluxionref11_attrs.j4] at h, fun _ _ _ _ r h => by simp [fluxionref11_attrs.j5] at h, fun _ _ r h => by simp [fluxionref11_attrs.l3] at h, fun _ _ _ _ r h => by simp [fluxionref11_attrs.j7] at h, fun _ _ _ r h => by simp [fluxionref11_attrs.j8] at h, fun _ _ _ r h => by simp [fluxionref11_attrs.l4] at h⟩
  | k + 1 => by
    obtain ⟨ih0, ih1, ih2, ih3, ih4, ih5, ih6, ih7, ih8, ih9⟩ := fluxionref11_attrs.mono_l k
    refine ⟨?_, ?_, ?_, ?_, ?_, ?_, ?_, ?_, ?_, ?_⟩
    · intro y0 y1 y2
      unfold fluxionref11_attrs.l0
      repeat' first
      | (with_reducible exact ih0 _ _ _)
      | (with_reducible exact ih1 _ _)
      | (with_reducible exact ih2 _ _ _)
      | (with_reducible exact ih3 _ _ _)
      | (with_reducible exact ih4 _ _ _ _)
      | (with_reducible exact ih5 _ _ _ _)
      | (with_reducible exact ih6 _ _)
      | (with_reducible exact ih7 _ _ _ _)
      | (with_reducible exact ih8 _ _ _)
      | (with_reducible exact ih9 _ _ _)
      | (with_reducible exact fluxionref06_May.mono _ _)
      | (with_reducible exact fluxionref11_divisor.mono _ _ _)
      | (with_reducible exact LeO.refl _)
      | (with_reducible exact LeO.none _)
      | (with_reducible refine LeO.ite ?_ ?_)
      | (with_reducible refine LeO.bind ?_ (fun _ => ?_))
      | exact ih0 _ _ _
      | exact ih1 _ _
      | exact ih2 _ _ _
      | exact ih3 _ _ _
      | exact ih4 _ _ _ _
      | exact ih5 _ _ _ _
      | exact ih6 _ _
      | exact ih7 _ _ _ _
      | exact ih8 _ _ _
      | exact ih9 _ _ _
      | exact fluxionref06_May.mono _ _
      | exact fluxionref11_divisor.mono _ _ _
      | exact LeO.none _
      | refine LeO.ite ?_ ?_
      | refine LeO.bind ?_ (fun _ => ?_)
    · intro y0 y1
      unfold fluxionref11_attrs.l1
      repeat' first
      | (with_reducible exact ih0 _ _ _)
      | (with_reducible exact ih1 _ _)
      | (with_reducible exact ih2 _ _ _)
      | (with_reducible exact ih3 _ _ _)
      | (with_reducible exact ih4 _ _ _ _)
      | (with_reducible exact ih5 _ _ _ _)
      | (with_reducible exact ih6 _ _)
      | (with_reducible exact ih7 _ _ _ _)
      | (with_reducible exact ih8 _ _ _)
      | (with_reducible exact ih9 _ _ _)
      | (with_reducible exact fluxionref06_May.mono _ _)
      | (with_reducible exact fluxionref11_divisor.mono _ _ _)
      | (with_reducible exact LeO.refl _)
      | (with_reducible exact LeO.none _)
      | (with_reducible refine LeO.ite ?_ ?_)
      | (with_reducible refine LeO.bind ?_ (fun _ => ?_))
      | exact ih0 _ _ _
      | exact ih1 _ _
      | exact ih2 _ _ _
      | exact ih3 _ _ _
      | exact ih4 _ _ _ _
      | exact ih5 _ _ _ _
      | exact ih6 _ _
      | exact ih7 _ _ _ _
      | exact ih8 _ _ _
      | exact ih9 _ _ _
      | exact fluxionref06_May.mono _ _
      | exact fluxionref11_divisor.mono _ _ _
      | exact LeO.none _
      | refine LeO.ite ?_ ?_
      | refine LeO.bind ?_ (fun _ => ?_)
    · intro y0 y1 y2
      unfold fluxionref11_attrs.j2
      repeat' first
      | (with_reducible exact ih0 _ _ _)
      | (with_reducible exact ih1 _ _)
      | (with_reducible exact ih2 _ _ _)
      | (with_reducible exact ih3 _ _ _)
      | (with_reducible exact ih4 _ _ _ _)
      | (with_reducible exact ih5 _ _ _ _)
      | (with_reducible exact ih6 _ _)
      | (with_reducible exact ih7 _ _ _ _)
      | (with_reducible exact ih8 _ _ _)
      | (with_reducible exact ih9 _ _ _)
      | (with_reducible exact fluxionref06_May.mono _ _)
      | (with_reducible exact fluxionref11_divisor.mono _ _ _)
      | (with_reducible exact LeO.refl _)
      | (with_reducible exact LeO.none _)
      | (with_reducible refine LeO.ite ?_ ?_)
      | (with_reducible refine LeO.bind ?_ (fun _ => ?_))
      | exact ih0 _ _ _
      | exact ih1 _ _
      | exact ih2 _ _ _
      | exact ih3 _ _ _
      | exact ih4 _ _ _ _
      | exact ih5 _ _ _ _
      | exact ih6 _ _
      | exact ih7 _ _ _ _
      | exact ih8 _ _ _
      | exact ih9 _ _ _
      | exact fluxionref06_May.mono _ _
      | exact fluxionref11_divisor.mono _ _ _
      | exact LeO.none _
      | refine LeO.ite ?_ ?_
      | refine LeO.bind ?_ (fun _ => ?_)
    · intro y0 y1 y2
      unfold fluxionref11_attrs.l2
      repeat' first
      | (with_reducible exact ih0 _ _ _)
      | (with_reducible exact ih1 _ _)
      | (with_reducible exact ih2 _ _ _)
      | (with_reducible exact ih3 _ _ _)
      | (with_reducible exact ih4 _ _ _ _)
      | (with_reducible exact ih5 _ _ _ _)
      | (with_reducible exact ih6 _ _)
      | (with_reducible exact ih7 _ _ _ _)
      | (with_reducible exact ih8 _ _ _)
      | (with_reducible exact ih9 _ _ _)
      | (with_reducible exact fluxionref06_May.mono _ _)
      | (with_reducible exact fluxionref11_divisor.mono _ _ _)
      | (with_reducible exact LeO.refl _)
      | (with_reducible exact LeO.none _)
      | (with_reducible refine LeO.ite ?_ ?_)
      | (with_reducible refine LeO.bind ?_ (fun _ => ?_))
      | exact ih0 _ _ _
      | exact ih1 _ _
      | exact ih2 _ _ _
      | exact ih3 _ _ _
      | exact ih4 _ _ _ _
      | exact ih5 _ _ _ _
      | exact ih6 _ _
      | exact ih7 _ _ _ _
      | exact ih8 _ _ _
      | exact ih9 _ _ _
      | exact fluxionref06_May.mono _ _
      | exact fluxionref11_divisor.mono _ _ _
      | exact LeO.none _
      | refine LeO.ite ?_ ?_
      | refine LeO.bind ?_ (fun _ => ?_)
    · intro y0 y1 y2 y3
      unfold fluxionref11_attrs.j4
      repeat' first
      | (with_reducible exact ih0 _ _ _)
      | (with_reducible exact ih1 _ _)
      | (with_reducible exact ih2 _ _ _)
      | (with_reducible exact ih3 _ _ _)
      | (with_reducible exact ih4 _ _ _ _)
      | (with_reducible exact ih5 _ _ _ _)
      | (with_reducible exact ih6 _ _)
      | (with_reducible exact ih7 _ _ _ _)
      | (with_reducible exact ih8 _ _ _)
      | (with_reducible exact ih9 _ _ _)
      | (with_reducible exact fluxionref06_May.mono _ _)
      | (with_reducible exact fluxionref11_divisor.mono _ _ _)
      | (with_reducible exact LeO.refl _)
      | (with_reducible exact LeO.none _)
      | (with_reducible refine LeO.ite ?_ ?_)
      | (with_reducible refine LeO.bind ?_ (fun _ => ?_))
      | exact ih0 _ _ _
      | exact ih1 _ _
      | exact ih2 _ _ _
      | exact ih3 _ _ _
      | exact ih4 _ _ _ _
      | exact ih5 _ _ _ _
      | exact ih6 _ _
      | exact ih7 _ _ _ _
      | exact ih8 _ _ _
      | exact ih9 _ _ _
      | exact fluxionref06_May.mono _ _
      | exact fluxionref11_divisor.mono _ _ _
      | exact LeO.none _
      | refine LeO.ite ?_ ?_
      | refine LeO.bind ?_ (fun _ => ?_)
    · intro y0 y1 y2 y3
      unfold fluxionref11_attrs.j5
      repeat' first
      | (with_reducible exact ih0 _ _ _)
      | (with_reducible exact ih1 _ _)
      | (with_reducible exact ih2 _ _ _)
      | (with_reducible exact ih3 _ _ _)
      | (with_reducible exact ih4 _ _ _ _)
      | (with_reducible exact ih5 _ _ _ _)
      | (with_reducible exact ih6 _ _)
      | (with_reducible exact ih7 _ _ _ _)
      | (with_reducible exact ih8 _ _ _)
      | (with_reducible exact ih9 _ _ _)
      | (with_reducible exact fluxionref06_May.mono _ _)
      | (with_reducible exact fluxionref11_divisor.mono _ _ _)
      | (with_reducible exact LeO.refl _)
      | (with_reducible exact LeO.none _)
      | (with_reducible refine LeO.ite ?_ ?_)
      | (with_reducible refine LeO.bind ?_ (fun _ => ?_))
      | exact ih0 _ _ _
      | exact ih1 _ _
      | exact ih2 _ _ _
      | exact ih3 _ _ _
      | exact ih4 _ _ _ _
      | exact ih5 _ _ _ _
      | exact ih6 _ _
      | exact ih7 _ _ _ _
      | exact ih8 _ _ _
      | exact ih9 _ _ _
      | exact fluxionref06_May.mono _ _
      | exact fluxionref11_divisor.mono _ _ _
      | exact LeO.none _
      | refine LeO.ite ?_ ?_
      | refine LeO.bind ?_ (fun _ => ?_)
    · intro y0 y1
      unfold fluxionref11_attrs.l3
      repeat' first
      | (with_reducible exact ih0 _ _ _)
      | (with_reducible exact ih1 _ _)
      | (with_reducible exact ih2 _ _ _)
      | (with_reducible exact ih3 _ _ _)
      | (with_reducible exact ih4 _ _ _ _)
      | (with_reducible exact ih5 _ _ _ _)
      | (with_reducible exact ih6 _ _)
      | (with_reducible exact ih7 _ _ _ _)
      | (with_reducible exact ih8 _ _ _)
      | (with_reducible exact ih9 _ _ _)
      | (with_reducible exact fluxionref06_May.mono _ _)
      | (with_reducible exact fluxionref11_divisor.mono _ _ _)
      | (with_reducible exact LeO.refl _)
      | (with_reducible exact LeO.none _)
      | (with_reducible refine LeO.ite ?_ ?_)
      | (with_reducible refine LeO.bind ?_ (fun _ => ?_))
      | exact ih0 _ _ _
      | exact ih1 _ _
      | exact ih2 _ _ _
      | exact ih3 _ _ _
      | exact ih4 _ _ _ _
      | exact ih5 _ _ _ _
      | exact ih6 _ _
      | exact ih7 _ _ _ _
      | exact ih8 _ _ _
      | exact ih9 _ _ _
      | exact fluxionref06_May.mono _ _
      | exact fluxionref11_divisor.mono _ _ _
      | exact LeO.none _
      | refine LeO.ite ?_ ?_
      | refine LeO.bind ?_ (fun _ => ?_)
    · intro y0 y1 y2 y3
      unfold fluxionref11_attrs.j7
      repeat' first
      | (with_reducible exact ih0 _ _ _)
      | (with_reducible exact ih1 _ _)
      | (with_reducible exact ih2 _ _ _)
      | (with_reducible exact ih3 _ _ _)
      | (with_reducible exact ih4 _ _ _ _)
      | (with_reducible exact ih5 _ _ _ _)
      | (with_reducible exact ih6 _ _)
      | (with_reducible exact ih7 _ _ _ _)
      | (with_reducible exact ih8 _ _ _)
      | (with_reducible exact ih9 _ _ _)
      | (with_reducible exact fluxionref06_May.mono _ _)
      | (with_reducible exact fluxionref11_divisor.mono _ _ _)
      | (with_reducible exact LeO.refl _)
      | (with_reducible exact LeO.none _)
      | (with_reducible refine LeO.ite ?_ ?_)
      | (with_reducible refine LeO.bind ?_ (fun _ => ?_))
      | exact ih0 _ _ _
      | exact ih1 _ _
      | exact ih2 _ _ _
      | exact ih3 _ _ _
      | exact ih4 _ _ _ _
      | exact ih5 _ _ _ _
      | exact ih6 _ _
      | exact ih7 _ _ _ _
      | exact ih8 _ _ _
      | exact ih9 _ _ _
      | exact fluxionref06_May.mono _ _
      | exact fluxionref11_divisor.mono _ _ _
      | exact LeO.none _
      | refine LeO.ite ?_ ?_
      | refine LeO.bind ?_ (fun _ => ?_)
    · intro y0 y1 y2
      unfold fluxionref11_attrs.j8
      repeat' first
      | (with_reducible exact ih0 _ _ _)
      | (with_reducible exact ih1 _ _)
      | (with_reducible exact ih2 _ _ _)
      | (with_reducible exact ih3 _ _ _)
      | (with_reducible exact ih4 _ _ _ _)
      | (with_reducible exact ih5 _ _ _ _)
      | (with_reducible exact ih6 _ _)
      | (with_reducible exact ih7 _ _ _ _)
      | (with_reducible exact ih8 _ _ _)
      | (with_reducible exact ih9 _ _ _)
      | (with_reducible exact fluxionref06_May.mono _ _)
      | (with_reducible exact fluxionref11_divisor.mono _ _ _)
      | (with_reducible exact LeO.refl _)
      | (with_reducible exact LeO.none _)
      | (with_reducible refine LeO.ite ?_ ?_)
      | (with_reducible refine LeO.bind ?_ (fun _ => ?_))
      | exact ih0 _ _ _
      | exact ih1 _ _
      | exact ih2 _ _ _
      | exact ih3 _ _ _
      | exact ih4 _ _ _ _
      | exact ih5 _ _ _ _
      | exact ih6 _ _
      | exact ih7 _ _ _ _
      | exact ih8 _ _ _
      | exact ih9 _ _ _
      | exact fluxionref06_May.mono _ _
      | exact fluxionref11_divisor.mono _ _ _
      | exact LeO.none _
      | refine LeO.ite ?_ ?_
      | refine LeO.bind ?_ (fun _ => ?_)
    · intro y0 y1 y2
      unfold fluxionref11_attrs.l4
      repeat' first
      | (with_reducible exact ih0 _ _ _)
      | (with_reducible exact ih1 _ _)
      | (with_reducible exact ih2 _ _ _)
      | (with_reducible exact ih3 _ _ _)
      | (with_reducible exact ih4 _ _ _ _)
      | (with_reducible exact ih5 _ _ _ _)
      | (with_reducible exact ih6 _ _)
      | (with_reducible exact ih7 _ _ _ _)
      | (with_reducible exact ih8 _ _ _)
      | (with_reducible exact ih9 _ _ _)
      | (with_reducible exact fluxionref06_May.mono _ _)
      | (with_reducible exact fluxionref11_divisor.mono _ _ _)
      | (with_reducible exact LeO.refl _)
      | (with_reducible exact LeO.none _)
      | (with_reducible refine LeO.ite ?_ ?_)
      | (with_reducible refine LeO.bind ?_ (fun _ => ?_))
      | exact ih0 _ _ _
      | exact ih1 _ _
      | exact ih2 _ _ _
      | exact ih3 _ _ _
      | exact ih4 _ _ _ _
      | exact ih5 _ _ _ _
      | exact ih6 _ _
      | exact ih7 _ _ _ _
      | exact ih8 _ _ _
      | exact ih9 _ _ _
      | exact fluxionref06_May.mono _ _
      | exact fluxionref11_divisor.mono _ _ _
      | exact LeO.none _
      | refine LeO.ite ?_ ?_
      | refine LeO.bind ?_ (fun _ => ?_)
theorem fluxionref11_attrs.mono : ∀ a0 a1 k, LeO (fluxionref11_attrs.f k a0 a1) (fluxionref11_attrs.f (k + 1) a0 a1) := by
  intro a0 a1 k
  obtain ⟨ih0, ih1, ih2, ih3, ih4, ih5, ih6, ih7, ih8, ih9⟩ := fluxionref11_attrs.mono_l k
  unfold fluxionref11_attrs.f
  repeat' first
      | (with_reducible exact ih0 _ _ _)
      | (with_reducible exact ih1 _ _)
      | (with_reducible exact ih2 _ _ _)
      | (with_reducible exact ih3 _ _ _)
      | (with_reducible exact ih4 _ _ _ _)
      | (with_reducible exact ih5 _ _ _ _)
      | (with_reducible exact ih6 _ _)
      | (with_reducible exact ih7 _ _ _ _)
      | (with_reducible exact ih8 _ _ _)
      | (with_reducible exact ih9 _ _ _)
      | (with_reducible exact fluxionref06_May.mono _ _)
      | (with_reducible exact fluxionref11_divisor.mono _ _ _)
      | (with_reducible exact LeO.refl _)
      | (with_reducible exact LeO.none _)
      | (with_reducible refine LeO.ite ?_ ?_)
      | (with_reducible refine LeO.bind ?_ (fun _ => ?_))
      | exact ih0 _ _ _
      | exact ih1 _ _
      | exact ih2 _ _ _
      | exact ih3 _ _ _
      | exact ih4 _ _ _ _
      | exact ih5 _ _ _ _
      | exact ih6 _ _
      | exact ih7 _ _ _ _
      | exact ih8 _ _ _
      | exact ih9 _ _ _
      | exact fluxionref06_May.mono _ _
      | exact fluxionref11_divisor.mono _ _ _
      | exact LeO.none _
      | refine LeO.ite ?_ ?_
      | refine LeO.bind ?_ (fun _ => ?_)
set_option maxHeartbeats 8000000 in
set_option maxRecDepth 100000 in
theorem fluxionref11_attrs.calls (k : Nat) (a0 : Int) (A1 : Option Addr) (c1 : Nat) (l1 : List Int) (r : Bool) (w : World) (hr1 : Kd.C (Kd.int .i64) w A1 l1.length l1) (hc1 : l1.length ≤ c1) (h : fluxionref11_attrs.f k a0 l1 = some r) :
    Calls Try.prog 29 #[.int .i64 a0, .slice A1 l1.length c1] w fun e w' => e = .returned (.bool r) ∧ Drawn0 w w' := by
  have HR1 := Aside0.mk hr1
  have HC1 := Aside0.mk hc1
  clear hr1 hc1
  have H : (fluxionref11_attrs.l0 k a0 l1 0) = some r := h
  clear h
  have H' := Aside0.mk H
  clear H
  go_enter Try.func29, Try.ntmps29
  go_wp2
  repeat (go_quiet (fail); try go_wp2)
  go_loopg [5] k (fun kq v5 w' => ∃ (x5_1 : Int), v5 = .int .i64 x5_1 ∧ Aside0 (fluxionref11_attrs.l0 kq a0 l1 x5_1 = some r) ∧ Aside0 (kq ≤ k) ∧ Drawn0 w w')
  case atStart => exact ⟨(0), (by first | rfl | (simp; done) | (simp [*]; done)), H', ⟨Nat.le_refl _⟩, by repeat (first | exact Drawn0.refl _ | apply Drawn0.step)⟩
  case round => as_aux_lemma =>
    clear H'
    try clear c1
    try clear c2
    try clear p2
    obtain ⟨x5_1, rfl, HA, HK1, ⟨m1, rfl⟩⟩ := hrel
    cases gk with
    | zero => exact absurd HA.out (by simp [fluxionref11_attrs.l0])
    | succ k1 =>
      have H := HA.out
      clear HA
      simp only [fluxionref11_attrs.l0] at H
      by_cases c3 : x5_1 < (l1.length : Int)
      · rw [if_pos c3] at H
        have c3b0 : decide (x5_1 < (l1.length : Int)) = true := decide_eq_true c3
        clear c3
        by_cases c4 : 0 ≤ x5_1
        · rw [if_pos c4] at H
          have c4b0 : decide (0 ≤ x5_1) = true := decide_eq_true c4
          clear c4
          by_cases c5 : (rd l1 x5_1) > 2147483647
          · rw [if_pos c5] at H
            have c5b0 : decide (2147483647 < (rd l1 x5_1)) = true := decide_eq_true c5
            clear c5
            obtain rfl := Option.some.inj H
            have p104 : 0 ≤ (x5_1 : Int) := of_decide_eq_true (by first | (with_reducible assumption) | assumption)
            have q104 : x5_1 < (l1.length : Int) := of_decide_eq_true (by first | (with_reducible assumption) | assumption)
            obtain ⟨ad104, e104, hx104_0⟩ := Kd.at_int HR1.out x5_1 p104 q104
            cases e104
            replace p104 := eq_true p104
            replace q104 := eq_true q104
            go_wp2
            repeat (go_quiet (fail); try go_wp2)
            go_ret
            exact ⟨by first | rfl | (simp; done) | (simp [*]; done), by repeat (first | exact Drawn0.refl _ | apply Drawn0.step)⟩
          · rw [if_neg c5] at H
            have c5b0 : decide (2147483647 < (rd l1 x5_1)) = false := decide_eq_false c5
            clear c5
            by_cases c6 : (rd l1 x5_1) < (-2147483647)
            · rw [if_pos c6] at H
              have c6b0 : decide ((rd l1 x5_1) < (-2147483647)) = true := decide_eq_true c6
              clear c6
              obtain rfl := Option.some.inj H
              have p104 : 0 ≤ (x5_1 : Int) := of_decide_eq_true (by first | (with_reducible assumption) | assumption)
              have q104 : x5_1 < (l1.length : Int) := of_decide_eq_true (by first | (with_reducible assumption) | assumption)
              obtain ⟨ad104, e104, hx104_0⟩ := Kd.at_int HR1.out x5_1 p104 q104
              cases e104
              replace p104 := eq_true p104
              replace q104 := eq_true q104
              have p105 : 0 ≤ (x5_1 : Int) := of_decide_eq_true (by first | (with_reducible assumption) | assumption)
              have q105 : x5_1 < (l1.length : Int) := of_decide_eq_true (by first | (with_reducible assumption) | assumption)
              obtain ⟨ad105, e105, hx105_0⟩ := Kd.at_int HR1.out x5_1 p105 q105
              obtain rfl : ad104 = ad105 := (by injection e105)
              replace p105 := eq_true p105
              replace q105 := eq_true q105
              go_wp2
              repeat (go_quiet (fail); try go_wp2)
              go_ret
              exact ⟨by first | rfl | (simp; done) | (simp [*]; done), by repeat (first | exact Drawn0.refl _ | apply Drawn0.step)⟩
            · rw [if_neg c6] at H
              have c6b0 : decide ((rd l1 x5_1) < (-2147483647)) = false := decide_eq_false c6
              clear c6
              have H' := Aside0.mk H
              clear H
              have p104 : 0 ≤ (x5_1 : Int) := of_decide_eq_true (by first | (with_reducible assumption) | assumption)
              have q104 : x5_1 < (l1.length : Int) := of_decide_eq_true (by first | (with_reducible assumption) | assumption)
              obtain ⟨ad104, e104, hx104_0⟩ := Kd.at_int HR1.out x5_1 p104 q104
              cases e104
              replace p104 := eq_true p104
              replace q104 := eq_true q104
              have p105 : 0 ≤ (x5_1 : Int) := of_decide_eq_true (by first | (with_reducible assumption) | assumption)
              have q105 : x5_1 < (l1.length : Int) := of_decide_eq_true (by first | (with_reducible assumption) | assumption)
              obtain ⟨ad105, e105, hx105_0⟩ := Kd.at_int HR1.out x5_1 p105 q105
              obtain rfl : ad104 = ad105 := (by injection e105)
              replace p105 := eq_true p105
              replace q105 := eq_true q105
              go_wp2
              repeat (go_quiet (fail); try go_wp2)
              go_roundg k1
              case measure => have := HK1.out; omega
              case rel => exact ⟨(wrap64 (x5_1 + 1)), (by first | rfl | (simp; done) | (simp [*]; done)), H', ⟨by have := HK1.out; omega⟩, by repeat (first | exact Drawn0.refl _ | apply Drawn0.step)⟩
        · rw [if_neg c4] at H
          exact absurd H (by simp)
      · rw [if_neg c3] at H
        have c3b0 : decide (x5_1 < (l1.length : Int)) = false := decide_eq_false c3
        clear c3
        by_cases c7 : a0 = 6
        · rw [if_pos c7] at H
          have c7b0 : (a0 == 6) = true := beq_iff_eq.mpr c7
          have c7b1 : (a0 != 6) = false := bne_eq_false_iff_eq.mpr c7
          clear c7
          by_cases c8 : (l1.length : Int) = 1
          · rw [if_pos c8] at H
            have c8b0 : ((l1.length : Int) == 1) = true := beq_iff_eq.mpr c8
            have c8b1 : ((l1.length : Int) != 1) = false := bne_eq_false_iff_eq.mpr c8
            clear c8
            by_cases c9 : 0 < (l1.length : Int)
            · rw [if_pos c9] at H
              have c9b0 : decide (0 < (l1.length : Int)) = true := decide_eq_true c9
              have c9b1 : decide (0 < l1.length) = true := decide_eq_true (by omega)
              clear c9
              by_cases c10 : (rd l1 0) ≥ 0
              · rw [if_pos c10] at H
                have c10b0 : decide (0 ≤ (rd l1 0)) = true := decide_eq_true c10
                clear c10
                obtain rfl := Option.some.inj H
                have p106 : 0 ≤ (0 : Int) := (by omega)
                have q106 : 0 < (l1.length : Int) := of_decide_eq_true (by first | (with_reducible assumption) | assumption)
                obtain ⟨ad106, e106, hx106_0⟩ := Kd.at_int HR1.out 0 p106 q106
                cases e106
                have qi106 : (0 < l1.length) = True := eq_true (by omega)
                (try rw [show ((0 : Int)).toNat = 0 from rfl] at hx106_0)
                (try rw [Addr.add_zero'] at hx106_0)
                replace p106 := eq_true p106
                replace q106 := eq_true q106
                have p107 : 0 ≤ (0 : Int) := (by omega)
                have q107 : 0 < (l1.length : Int) := of_decide_eq_true (by first | (with_reducible assumption) | assumption)
                obtain ⟨ad107, e107, hx107_0⟩ := Kd.at_int HR1.out 0 p107 q107
                obtain rfl : ad106 = ad107 := (by injection e107)
                have qi107 : (0 < l1.length) = True := eq_true (by omega)
                (try rw [show ((0 : Int)).toNat = 0 from rfl] at hx107_0)
                (try rw [Addr.add_zero'] at hx107_0)
                replace p107 := eq_true p107
                replace q107 := eq_true q107
                go_wp2
                repeat (go_quiet (fail); try go_wp2)
                go_ret
                exact ⟨by first | rfl | (simp; done) | (simp [*]; done), by repeat (first | exact Drawn0.refl _ | apply Drawn0.step)⟩
              · rw [if_neg c10] at H
                have c10b0 : decide (0 ≤ (rd l1 0)) = false := decide_eq_false c10
                clear c10
                obtain rfl := Option.some.inj H
                have p106 : 0 ≤ (0 : Int) := (by omega)
                have q106 : 0 < (l1.length : Int) := of_decide_eq_true (by first | (with_reducible assumption) | assumption)
                obtain ⟨ad106, e106, hx106_0⟩ := Kd.at_int HR1.out 0 p106 q106
                cases e106
                have qi106 : (0 < l1.length) = True := eq_true (by omega)
                (try rw [show ((0 : Int)).toNat = 0 from rfl] at hx106_0)
                (try rw [Addr.add_zero'] at hx106_0)
                replace p106 := eq_true p106
                replace q106 := eq_true q106
                go_wp2
                repeat (go_quiet (fail); try go_wp2)
                go_ret
                exact ⟨by first | rfl | (simp; done) | (simp [*]; done), by repeat (first | exact Drawn0.refl _ | apply Drawn0.step)⟩
            · rw [if_neg c9] at H
              exact absurd H (by simp)
          · rw [if_neg c8] at H
            have c8b0 : ((l1.length : Int) == 1) = false := beq_eq_false_iff_ne.mpr c8
            have c8b1 : ((l1.length : Int) != 1) = true := bne_iff_ne.mpr c8
            obtain rfl := Option.some.inj H
            go_wp2
            repeat (go_quiet (fail); try go_wp2)
            go_ret
            exact ⟨by first | rfl | (simp; done) | (simp [*]; done), by repeat (first | exact Drawn0.refl _ | apply Drawn0.step)⟩
        · rw [if_neg c7] at H
          have c7b0 : (a0 == 6) = false := beq_eq_false_iff_ne.mpr c7
          have c7b1 : (a0 != 6) = true := bne_iff_ne.mpr c7
          by_cases c11 : a0 = 9
          · rw [if_pos c11] at H
            have c11b0 : (a0 == 9) = true := beq_iff_eq.mpr c11
            have c11b1 : (a0 != 9) = false := bne_eq_false_iff_eq.mpr c11
            clear c11
            by_cases c12 : (l1.length : Int) = 2
            · rw [if_pos c12] at H
              have c12b0 : ((l1.length : Int) == 2) = true := beq_iff_eq.mpr c12
              have c12b1 : ((l1.length : Int) != 2) = false := bne_eq_false_iff_eq.mpr c12
              clear c12
              by_cases c13 : 1 < (l1.length : Int)
              · rw [if_pos c13] at H
                have c13b0 : decide (1 < (l1.length : Int)) = true := decide_eq_true c13
                have c13b1 : decide (1 < l1.length) = true := decide_eq_true (by omega)
                clear c13
                by_cases c14 : (rd l1 1) ≥ 1
                · rw [if_pos c14] at H
                  have c14b0 : decide (1 ≤ (rd l1 1)) = true := decide_eq_true c14
                  clear c14
                  by_cases c15 : 0 < (l1.length : Int)
                  · rw [if_pos c15] at H
                    have c15b0 : decide (0 < (l1.length : Int)) = true := decide_eq_true c15
                    have c15b1 : decide (0 < l1.length) = true := decide_eq_true (by omega)
                    clear c15
                    replace H := Option.bind_eq_some_iff.mp H
                    obtain ⟨t111, A160, H⟩ := H
                    replace H : (some (!t111)) = some r := H
                    have A16 := Aside0.mk A160
                    clear A160
                    obtain rfl := Option.some.inj H
                    have p108 : 0 ≤ (1 : Int) := (by omega)
                    have q108 : 1 < (l1.length : Int) := of_decide_eq_true (by first | (with_reducible assumption) | assumption)
                    obtain ⟨ad108, e108, hx108_0⟩ := Kd.at_int HR1.out 1 p108 q108
                    cases e108
                    (try simp only [show (1 : Int).toNat = 1 from rfl, Nat.reduceMul, Nat.reduceEqDiff, Go.Addr.add, ↓reduceIte] at hx108_0)
                    have qi108 : (1 < l1.length) = True := eq_true (by omega)
                    (try rw [show ((1 : Int)).toNat = 1 from rfl] at hx108_0)
                    replace p108 := eq_true p108
                    replace q108 := eq_true q108
                    have p109 : 0 ≤ (0 : Int) := (by omega)
                    have q109 : 0 < (l1.length : Int) := of_decide_eq_true (by first | (with_reducible assumption) | assumption)
                    obtain ⟨ad109, e109, hx109_0⟩ := Kd.at_int HR1.out 0 p109 q109
                    obtain rfl : ad108 = ad109 := (by injection e109)
                    have qi109 : (0 < l1.length) = True := eq_true (by omega)
                    (try rw [show ((0 : Int)).toNat = 0 from rfl] at hx109_0)
                    (try rw [Addr.add_zero'] at hx109_0)
                    replace p109 := eq_true p109
                    replace q109 := eq_true q109
                    have p110 : 0 ≤ (1 : Int) := (by omega)
                    have q110 : 1 < (l1.length : Int) := of_decide_eq_true (by first | (with_reducible assumption) | assumption)
                    obtain ⟨ad110, e110, hx110_0⟩ := Kd.at_int HR1.out 1 p110 q110
                    obtain rfl : ad108 = ad110 := (by injection e110)
                    (try simp only [show (1 : Int).toNat = 1 from rfl, Nat.reduceMul, Nat.reduceEqDiff, Go.Addr.add, ↓reduceIte] at hx110_0)
                    have qi110 : (1 < l1.length) = True := eq_true (by omega)
                    (try rw [show ((1 : Int)).toNat = 1 from rfl] at hx110_0)
                    replace p110 := eq_true p110
                    replace q110 := eq_true q110
                    go_wp2_with (first | (go_at_call 38; (with_reducible refine (fluxionref11_divisor.calls k1 (rd l1 0) (rd l1 1) t111 _ A16.out).mono ?_); rintro e w' ⟨rfl, ⟨nd, rfl⟩⟩; (try first | exact ⟨rfl, _, World.drewN_drewN _ _ _⟩ | exact ⟨rfl, _, Eq.trans (World.drewN_drewN _ _ _) (congrArg (World.drewN _) (Nat.add_assoc _ _ _))⟩)))
                    repeat (go_quiet (first | (go_at_call 38; (with_reducible refine (fluxionref11_divisor.calls k1 (rd l1 0) (rd l1 1) t111 _ A16.out).mono ?_); rintro e w' ⟨rfl, ⟨nd, rfl⟩⟩; (try first | exact ⟨rfl, _, World.drewN_drewN _ _ _⟩ | exact ⟨rfl, _, Eq.trans (World.drewN_drewN _ _ _) (congrArg (World.drewN _) (Nat.add_assoc _ _ _))⟩))); try go_wp2_with (first | (go_at_call 38; (with_reducible refine (fluxionref11_divisor.calls k1 (rd l1 0) (rd l1 1) t111 _ A16.out).mono ?_); rintro e w' ⟨rfl, ⟨nd, rfl⟩⟩; (try first | exact ⟨rfl, _, World.drewN_drewN _ _ _⟩ | exact ⟨rfl, _, Eq.trans (World.drewN_drewN _ _ _) (congrArg (World.drewN _) (Nat.add_assoc _ _ _))⟩))))
                    go_ret
                    exact ⟨by first | rfl | (simp; done) | (simp [*]; done), by repeat (first | exact Drawn0.refl _ | apply Drawn0.step)⟩
                  · rw [if_neg c15] at H
                    exact absurd H (by simp)
                · rw [if_neg c14] at H
                  have c14b0 : decide (1 ≤ (rd l1 1)) = false := decide_eq_false c14
                  clear c14
                  obtain rfl := Option.some.inj H
                  have p108 : 0 ≤ (1 : Int) := (by omega)
                  have q108 : 1 < (l1.length : Int) := of_decide_eq_true (by first | (with_reducible assumption) | assumption)
                  obtain ⟨ad108, e108, hx108_0⟩ := Kd.at_int HR1.out 1 p108 q108
                  cases e108
                  (try simp only [show (1 : Int).toNat = 1 from rfl, Nat.reduceMul, Nat.reduceEqDiff, Go.Addr.add, ↓reduceIte] at hx108_0)
                  have qi108 : (1 < l1.length) = True := eq_true (by omega)
                  (try rw [show ((1 : Int)).toNat = 1 from rfl] at hx108_0)
                  replace p108 := eq_true p108
                  replace q108 := eq_true q108
                  go_wp2
                  repeat (go_quiet (fail); try go_wp2)
                  go_ret
                  exact ⟨by first | rfl | (simp; done) | (simp [*]; done), by repeat (first | exact Drawn0.refl _ | apply Drawn0.step)⟩
              · rw [if_neg c13] at H
                exact absurd H (by simp)
            · rw [if_neg c12] at H
              have c12b0 : ((l1.length : Int) == 2) = false := beq_eq_false_iff_ne.mpr c12
              have c12b1 : ((l1.length : Int) != 2) = true := bne_iff_ne.mpr c12
              obtain rfl := Option.some.inj H
              go_wp2
              repeat (go_quiet (fail); try go_wp2)
              go_ret
              exact ⟨by first | rfl | (simp; done) | (simp [*]; done), by repeat (first | exact Drawn0.refl _ | apply Drawn0.step)⟩
          · rw [if_neg c11] at H
            have c11b0 : (a0 == 9) = false := beq_eq_false_iff_ne.mpr c11
            have c11b1 : (a0 != 9) = true := bne_iff_ne.mpr c11
            by_cases c17 : a0 = 11
            · rw [if_pos c17] at H
              have c17b0 : (a0 == 11) = true := beq_iff_eq.mpr c17
              have c17b1 : (a0 != 11) = false := bne_eq_false_iff_eq.mpr c17
              clear c17
              have H' := Aside0.mk H
              clear H
              go_wp2
              repeat (go_quiet (fail); try go_wp2)
              go_loopg [6] k1 (fun kq v6 w' => ∃ (x6_2 : Int), v6 = .int .i64 x6_2 ∧ Aside0 (fluxionref11_attrs.l1 kq l1 x6_2 = some r) ∧ Aside0 (kq ≤ k1) ∧ Drawn0 w w')
              case atStart => exact ⟨(0), (by first | rfl | (simp; done) | (simp [*]; done)), H', ⟨Nat.le_refl _⟩, by repeat (first | exact Drawn0.refl _ | apply Drawn0.step)⟩
              case round => as_aux_lemma =>
                clear H'
                try clear c1
                try clear p1
                try clear q1
                try clear hx1
                try clear qi1
                try clear c2
                try clear p2
                try clear c3
                try clear c3b0
                try clear c4
                try clear c4b0
                try clear c5
                try clear c5b0
                try clear c6
                try clear c6b0
                try clear p6
                try clear c7
                try clear c7b0
                try clear c7b1
                try clear c8
                try clear c8b0
                try clear c8b1
                try clear c9
                try clear c9b0
                try clear c9b1
                try clear c10
                try clear c10b0
                try clear p10
                try clear q10
                try clear hx10
                try clear qi10
                try clear c11
                try clear c11b0
                try clear c11b1
                try clear p11
                try clear q11
                try clear hx11
                try clear qi11
                try clear c12
                try clear c12b0
                try clear c12b1
                try clear c13
                try clear c13b0
                try clear c13b1
                try clear c14
                try clear c14b0
                try clear c15
                try clear c15b0
                try clear c15b1
                try clear c17
                try clear c17b0
                try clear c17b1
                try clear hx104_0
                try clear hx105_0
                try clear hx106_0
                try clear hx107_0
                try clear hx108_0
                try clear hx109_0
                try clear hx110_0
                try clear p104
                try clear p105
                try clear p106
                try clear p107
                try clear p108
                try clear p109
                try clear p110
                try clear p2
                try clear q104
                try clear q105
                try clear q106
                try clear q107
                try clear q108
                try clear q109
                try clear q110
                obtain ⟨x6_2, rfl, HA, HK2, ⟨m2, rfl⟩⟩ := hrel
                cases gk with
                | zero => exact absurd HA.out (by simp [fluxionref11_attrs.l1])
                | succ k2 =>
                  have H := HA.out
                  clear HA
                  simp only [fluxionref11_attrs.l1] at H
                  by_cases c18 : x6_2 < (l1.length : Int)
                  · rw [if_pos c18] at H
                    have c18b0 : decide (x6_2 < (l1.length : Int)) = true := decide_eq_true c18
                    clear c18
                    have HC19 := Aside0.mk H
                    clear H
                    go_upto_region 15 with (fail)
                    repeat (go_quiet (fail); go_upto_region 15 with (fail))
                    go_cut [88] (fun v88 wc => ∃ (kq : Nat) (x88_18 : Bool), v88 = .bool x88_18 ∧ Aside0 (fluxionref11_attrs.j2 kq l1 x6_2 x88_18 = some r) ∧ Aside0 (kq ≤ k2) ∧ Drawn0 w wc)
                    case first =>
                      have H := HC19.out
                      clear HC19
                      by_cases c20 : 0 ≤ x6_2
                      · rw [if_pos c20] at H
                        have c20b0 : decide (0 ≤ x6_2) = true := decide_eq_true c20
                        clear c20
                        (first | rw [c20b0] | (simp only [i64_w, i32_w]; rw [c20b0]) | skip)
                        by_cases c21 : (rd l1 x6_2) < 0
                        · rw [if_pos c21] at H
                          have c21b0 : decide ((rd l1 x6_2) < 0) = true := decide_eq_true c21
                          clear c21
                          have H' := Aside0.mk H
                          clear H
                          have p112 : 0 ≤ (x6_2 : Int) := of_decide_eq_true (by first | (with_reducible assumption) | assumption)
                          have q112 : x6_2 < (l1.length : Int) := of_decide_eq_true (by first | (with_reducible assumption) | assumption)
                          obtain ⟨ad112, e112, hx112_0⟩ := Kd.at_int HR1.out x6_2 p112 q112
                          cases e112
                          replace p112 := eq_true p112
                          replace q112 := eq_true q112
                          go_wp2
                          repeat (go_quiet (fail); try go_wp2)
                          go_meet
                          case rel => exact ⟨_, (true), (by first | rfl | (simp; done) | (simp [*]; done)), H', ⟨by have := HK1.out; have := HK2.out; first | omega | exact Nat.le_refl _⟩, by repeat (first | exact Drawn0.refl _ | apply Drawn0.step)⟩
                        · rw [if_neg c21] at H
                          have c21b0 : decide ((rd l1 x6_2) < 0) = false := decide_eq_false c21
                          clear c21
                          have H' := Aside0.mk H
                          clear H
                          have p112 : 0 ≤ (x6_2 : Int) := of_decide_eq_true (by first | (with_reducible assumption) | assumption)
                          have q112 : x6_2 < (l1.length : Int) := of_decide_eq_true (by first | (with_reducible assumption) | assumption)
                          obtain ⟨ad112, e112, hx112_0⟩ := Kd.at_int HR1.out x6_2 p112 q112
                          cases e112
                          replace p112 := eq_true p112
                          replace q112 := eq_true q112
                          have p113 : 0 ≤ (x6_2 : Int) := of_decide_eq_true (by first | (with_reducible assumption) | assumption)
                          have q113 : x6_2 < (l1.length : Int) := of_decide_eq_true (by first | (with_reducible assumption) | assumption)
                          obtain ⟨ad113, e113, hx113_0⟩ := Kd.at_int HR1.out x6_2 p113 q113
                          obtain rfl : ad112 = ad113 := (by injection e113)
                          replace p113 := eq_true p113
                          replace q113 := eq_true q113
                          go_wp2
                          repeat (go_quiet (fail); try go_wp2)
                          go_meet
                          case rel => exact ⟨_, (decide ((rd l1 x6_2) ≥ (l1.length : Int))), (by first | rfl | (simp; done) | (simp [*]; done)), H', ⟨by have := HK1.out; have := HK2.out; first | omega | exact Nat.le_refl _⟩, by repeat (first | exact Drawn0.refl _ | apply Drawn0.step)⟩
                      · rw [if_neg c20] at H
                        exact absurd H (by simp)
                    case rest => as_aux_lemma =>
                      clear HC19
                      try clear c1
                      try clear p1
                      try clear q1
                      try clear hx1
                      try clear qi1
                      try clear c2
                      try clear p2
                      try clear c3
                      try clear c3b0
                      try clear c4
                      try clear c4b0
                      try clear c5
                      try clear c5b0
                      try clear c6
                      try clear c6b0
                      try clear p6
                      try clear c7
                      try clear c7b0
                      try clear c7b1
                      try clear c8
                      try clear c8b0
                      try clear c8b1
                      try clear c9
                      try clear c9b0
                      try clear c9b1
                      try clear c10
                      try clear c10b0
                      try clear p10
                      try clear q10
                      try clear hx10
                      try clear qi10
                      try clear c11
                      try clear c11b0
                      try clear c11b1
                      try clear p11
                      try clear q11
                      try clear hx11
                      try clear qi11
                      try clear c12
                      try clear c12b0
                      try clear c12b1
                      try clear c13
                      try clear c13b0
                      try clear c13b1
                      try clear c14
                      try clear c14b0
                      try clear c15
                      try clear c15b0
                      try clear c15b1
                      try clear c17
                      try clear c17b0
                      try clear c17b1
                      try clear c18
                      try clear c18b0
                      try clear c20
                      try clear c20b0
                      try clear c21
                      try clear c21b0
                      try clear hx104_0
                      try clear hx105_0
                      try clear hx106_0
                      try clear hx107_0
                      try clear hx108_0
                      try clear hx109_0
                      try clear hx110_0
                      try clear hx112_0
                      try clear hx113_0
                      try clear p1
                      try clear p10
                      try clear p104
                      try clear p105
                      try clear p106
                      try clear p107
                      try clear p108
                      try clear p109
                      try clear p11
                      try clear p110
                      try clear p112
                      try clear p113
                      try clear p2
                      try clear p6
                      try clear q1
                      try clear q10
                      try clear q104
                      try clear q105
                      try clear q106
                      try clear q107
                      try clear q108
                      try clear q109
                      try clear q11
                      try clear q110
                      try clear q112
                      try clear q113
                      obtain ⟨kq, x88_18, rfl, HA, HJ18, ⟨mc18, rfl⟩⟩ := hcut
                      cases kq with
                      | zero => exact absurd HA.out (by simp [fluxionref11_attrs.j2])
                      | succ kj18 =>
                        have H := HA.out
                        clear HA
                        simp only [fluxionref11_attrs.j2] at H
                        by_cases c22 : x88_18 = true
                        · subst c22
                          have H1 : (some false) = some r := by rw [if_pos rfl] at H; exact H
                          clear H
                          have H := H1
                          clear H1
                          obtain rfl := Option.some.inj H
                          go_wp2
                          repeat (go_quiet (fail); try go_wp2)
                          go_ret
                          exact ⟨by first | rfl | (simp; done) | (simp [*]; done), by repeat (first | exact Drawn0.refl _ | apply Drawn0.step)⟩
                        · replace c22 := Bool.eq_false_iff.mpr c22
                          subst c22
                          have H1 : (fluxionref11_attrs.l2 kj18 l1 x6_2 0) = some r := by rw [if_neg (show ¬ (false = true) by decide)] at H; exact H
                          clear H
                          have H := H1
                          clear H1
                          have H' := Aside0.mk H
                          clear H
                          go_wp2
                          repeat (go_quiet (fail); try go_wp2)
                          go_loopg [7] kj18 (fun kq v7 w' => ∃ (x7_4 : Int), v7 = .int .i64 x7_4 ∧ Aside0 (fluxionref11_attrs.l2 kq l1 x6_2 x7_4 = some r) ∧ Aside0 (kq ≤ kj18) ∧ Drawn0 w w')
                          case atStart => exact ⟨(0), (by first | rfl | (simp; done) | (simp [*]; done)), H', ⟨Nat.le_refl _⟩, by repeat (first | exact Drawn0.refl _ | apply Drawn0.step)⟩
                          case round => as_aux_lemma =>
                            clear H'
                            try clear c1
                            try clear p1
                            try clear q1
                            try clear hx1
                            try clear qi1
                            try clear c2
                            try clear p2
                            try clear c3
                            try clear c3b0
                            try clear c4
                            try clear c4b0
                            try clear c5
                            try clear c5b0
                            try clear c6
                            try clear c6b0
                            try clear p6
                            try clear c7
                            try clear c7b0
                            try clear c7b1
                            try clear c8
                            try clear c8b0
                            try clear c8b1
                            try clear c9
                            try clear c9b0
                            try clear c9b1
                            try clear c10
                            try clear c10b0
                            try clear p10
                            try clear q10
                            try clear hx10
                            try clear qi10
                            try clear c11
                            try clear c11b0
                            try clear c11b1
                            try clear p11
                            try clear q11
                            try clear hx11
                            try clear qi11
                            try clear c12
                            try clear c12b0
                            try clear c12b1
                            try clear c13
                            try clear c13b0
                            try clear c13b1
                            try clear c14
                            try clear c14b0
                            try clear c15
                            try clear c15b0
                            try clear c15b1
                            try clear c17
                            try clear c17b0
                            try clear c17b1
                            try clear c18
                            try clear c18b0
                            try clear c20
                            try clear c20b0
                            try clear c21
                            try clear c21b0
                            try clear c22
                            try clear hx104_0
                            try clear hx105_0
                            try clear hx106_0
                            try clear hx107_0
                            try clear hx108_0
                            try clear hx109_0
                            try clear hx110_0
                            try clear hx112_0
                            try clear hx113_0
                            try clear p1
                            try clear p10
                            try clear p104
                            try clear p105
                            try clear p106
                            try clear p107
                            try clear p108
                            try clear p109
                            try clear p11
                            try clear p110
                            try clear p112
                            try clear p113
                            try clear p2
                            try clear p6
                            try clear q1
                            try clear q10
                            try clear q104
                            try clear q105
                            try clear q106
                            try clear q107
                            try clear q108
                            try clear q109
                            try clear q11
                            try clear q110
                            try clear q112
                            try clear q113
                            obtain ⟨x7_4, rfl, HA, HK4, ⟨m4, rfl⟩⟩ := hrel
                            cases gk with
                            | zero => exact absurd HA.out (by simp [fluxionref11_attrs.l2])
                            | succ k4 =>
                              have H := HA.out
                              clear HA
                              simp only [fluxionref11_attrs.l2] at H
                              by_cases c23 : x7_4 < x6_2
                              · rw [if_pos c23] at H
                                have c23b0 : decide (x7_4 < x6_2) = true := decide_eq_true c23
                                clear c23
                                by_cases c24 : 0 ≤ x7_4
                                · rw [if_pos c24] at H
                                  have c24b0 : decide (0 ≤ x7_4) = true := decide_eq_true c24
                                  clear c24
                                  by_cases c25 : x7_4 < (l1.length : Int)
                                  · rw [if_pos c25] at H
                                    have c25b0 : decide (x7_4 < (l1.length : Int)) = true := decide_eq_true c25
                                    clear c25
                                    by_cases c26 : 0 ≤ x6_2
                                    · rw [if_pos c26] at H
                                      have c26b0 : decide (0 ≤ x6_2) = true := decide_eq_true c26
                                      clear c26
                                      by_cases c27 : x6_2 < (l1.length : Int)
                                      · rw [if_pos c27] at H
                                        have c27b0 : decide (x6_2 < (l1.length : Int)) = true := decide_eq_true c27
                                        clear c27
                                        by_cases c28 : (rd l1 x7_4) = (rd l1 x6_2)
                                        · rw [if_pos c28] at H
                                          have c28b0 : ((rd l1 x7_4) == (rd l1 x6_2)) = true := beq_iff_eq.mpr c28
                                          have c28b1 : ((rd l1 x7_4) != (rd l1 x6_2)) = false := bne_eq_false_iff_eq.mpr c28
                                          clear c28
                                          obtain rfl := Option.some.inj H
                                          have p114 : 0 ≤ (x7_4 : Int) := of_decide_eq_true (by first | (with_reducible assumption) | assumption)
                                          have q114 : x7_4 < (l1.length : Int) := of_decide_eq_true (by first | (with_reducible assumption) | assumption)
                                          obtain ⟨ad114, e114, hx114_0⟩ := Kd.at_int HR1.out x7_4 p114 q114
                                          cases e114
                                          replace p114 := eq_true p114
                                          replace q114 := eq_true q114
                                          have p115 : 0 ≤ (x6_2 : Int) := of_decide_eq_true (by first | (with_reducible assumption) | assumption)
                                          have q115 : x6_2 < (l1.length : Int) := of_decide_eq_true (by first | (with_reducible assumption) | assumption)
                                          obtain ⟨ad115, e115, hx115_0⟩ := Kd.at_int HR1.out x6_2 p115 q115
                                          obtain rfl : ad114 = ad115 := (by injection e115)
                                          replace p115 := eq_true p115
                                          replace q115 := eq_true q115
                                          go_wp2
                                          repeat (go_quiet (fail); try go_wp2)
                                          go_ret
                                          exact ⟨by first | rfl | (simp; done) | (simp [*]; done), by repeat (first | exact Drawn0.refl _ | apply Drawn0.step)⟩
                                        · rw [if_neg c28] at H
                                          have c28b0 : ((rd l1 x7_4) == (rd l1 x6_2)) = false := beq_eq_false_iff_ne.mpr c28
                                          have c28b1 : ((rd l1 x7_4) != (rd l1 x6_2)) = true := bne_iff_ne.mpr c28
                                          have H' := Aside0.mk H
                                          clear H
                                          have p114 : 0 ≤ (x7_4 : Int) := of_decide_eq_true (by first | (with_reducible assumption) | assumption)
                                          have q114 : x7_4 < (l1.length : Int) := of_decide_eq_true (by first | (with_reducible assumption) | assumption)
                                          obtain ⟨ad114, e114, hx114_0⟩ := Kd.at_int HR1.out x7_4 p114 q114
                                          cases e114
                                          replace p114 := eq_true p114
                                          replace q114 := eq_true q114
                                          have p115 : 0 ≤ (x6_2 : Int) := of_decide_eq_true (by first | (with_reducible assumption) | assumption)
                                          have q115 : x6_2 < (l1.length : Int) := of_decide_eq_true (by first | (with_reducible assumption) | assumption)
                                          obtain ⟨ad115, e115, hx115_0⟩ := Kd.at_int HR1.out x6_2 p115 q115
                                          obtain rfl : ad114 = ad115 := (by injection e115)
                                          replace p115 := eq_true p115
                                          replace q115 := eq_true q115
                                          go_wp2
                                          repeat (go_quiet (fail); try go_wp2)
                                          go_roundg k4
                                          case measure => have := HK1.out; have := HK2.out; have := HJ18.out; have := HK4.out; omega
                                          case rel => exact ⟨(wrap64 (x7_4 + 1)), (by first | rfl | (simp; done) | (simp [*]; done)), H', ⟨by have := HK1.out; have := HK2.out; have := HJ18.out; have := HK4.out; omega⟩, by repeat (first | exact Drawn0.refl _ | apply Drawn0.step)⟩
                                      · rw [if_neg c27] at H
                                        exact absurd H (by simp)
                                    · rw [if_neg c26] at H
                                      exact absurd H (by simp)
                                  · rw [if_neg c25] at H
                                    exact absurd H (by simp)
                                · rw [if_neg c24] at H
                                  exact absurd H (by simp)
                              · rw [if_neg c23] at H
                                have c23b0 : decide (x7_4 < x6_2) = false := decide_eq_false c23
                                clear c23
                                have H' := Aside0.mk H
                                clear H
                                go_wp2
                                repeat (go_quiet (fail); try go_wp2)
                                go_roundg k4
                                case measure => have := HK1.out; have := HK2.out; have := HJ18.out; have := HK4.out; omega
                                case rel => exact ⟨(wrap64 (x6_2 + 1)), (by first | rfl | (simp; done) | (simp [*]; done)), H', ⟨by have := HK1.out; have := HK2.out; have := HJ18.out; have := HK4.out; omega⟩, by repeat (first | exact Drawn0.refl _ | apply Drawn0.step)⟩
                  · rw [if_neg c18] at H
                    have c18b0 : decide (x6_2 < (l1.length : Int)) = false := decide_eq_false c18
                    clear c18
                    obtain rfl := Option.some.inj H
                    go_wp2
                    repeat (go_quiet (fail); try go_wp2)
                    go_ret
                    exact ⟨by first | rfl | (simp; done) | (simp [*]; done), by repeat (first | exact Drawn0.refl _ | apply Drawn0.step)⟩
            · rw [if_neg c17] at H
              have c17b0 : (a0 == 11) = false := beq_eq_false_iff_ne.mpr c17
              have c17b1 : (a0 != 11) = true := bne_iff_ne.mpr c17
              have HC29 := Aside0.mk H
              clear H
              go_upto_if 106 with (fail)
              repeat (go_quiet (fail); go_upto_if 106 with (fail))
              go_cut [106] (fun v106 wc => ∃ (kq : Nat) (x106_28 : Bool), v106 = .bool x106_28 ∧ Aside0 (fluxionref11_attrs.j4 kq a0 l1 a0 x106_28 = some r) ∧ Aside0 (kq ≤ k1) ∧ Drawn0 w wc)
              case first =>
                have H := HC29.out
                clear HC29
                by_cases c30 : a0 = 12
                · rw [if_pos c30] at H
                  have c30b0 : (a0 == 12) = true := beq_iff_eq.mpr c30
                  have c30b1 : (a0 != 12) = false := bne_eq_false_iff_eq.mpr c30
                  clear c30
                  (first | rw [c30b0] | (simp only [i64_w, i32_w]; rw [c30b0]) | skip)
                  have H' := Aside0.mk H
                  clear H
                  go_wp2
                  repeat (go_quiet (fail); try go_wp2)
                  go_meet
                  case rel => exact ⟨_, ((a0 == 12)), (by first | rfl | (simp; done) | (simp [*]; done)), H', ⟨by have := HK1.out; first | omega | exact Nat.le_refl _⟩, by repeat (first | exact Drawn0.refl _ | apply Drawn0.step)⟩
                · rw [if_neg c30] at H
                  have c30b0 : (a0 == 12) = false := beq_eq_false_iff_ne.mpr c30
                  have c30b1 : (a0 != 12) = true := bne_iff_ne.mpr c30
                  (first | rw [c30b0] | (simp only [i64_w, i32_w]; rw [c30b0]) | skip)
                  have H' := Aside0.mk H
                  clear H
                  go_wp2
                  repeat (go_quiet (fail); try go_wp2)
                  go_meet
                  case rel => exact ⟨_, ((a0 == 13)), (by first | rfl | (simp; done) | (simp [*]; done)), H', ⟨by have := HK1.out; first | omega | exact Nat.le_refl _⟩, by repeat (first | exact Drawn0.refl _ | apply Drawn0.step)⟩
              case rest => as_aux_lemma =>
                clear HC29
                try clear c1
                try clear p1
                try clear q1
                try clear hx1
                try clear qi1
                try clear c2
                try clear p2
                try clear c3
                try clear c3b0
                try clear c4
                try clear c4b0
                try clear c5
                try clear c5b0
                try clear c6
                try clear c6b0
                try clear p6
                try clear c7
                try clear c7b0
                try clear c7b1
                try clear c8
                try clear c8b0
                try clear c8b1
                try clear c9
                try clear c9b0
                try clear c9b1
                try clear c10
                try clear c10b0
                try clear p10
                try clear q10
                try clear hx10
                try clear qi10
                try clear c11
                try clear c11b0
                try clear c11b1
                try clear p11
                try clear q11
                try clear hx11
                try clear qi11
                try clear c12
                try clear c12b0
                try clear c12b1
                try clear c13
                try clear c13b0
                try clear c13b1
                try clear c14
                try clear c14b0
                try clear c15
                try clear c15b0
                try clear c15b1
                try clear c17
                try clear c17b0
                try clear c17b1
                try clear c18
                try clear c18b0
                try clear c20
                try clear c20b0
                try clear c21
                try clear c21b0
                try clear c22
                try clear c23
                try clear c23b0
                try clear c24
                try clear c24b0
                try clear c25
                try clear c25b0
                try clear c26
                try clear c26b0
                try clear c27
                try clear c27b0
                try clear c28
                try clear c28b0
                try clear c28b1
                try clear c30
                try clear c30b0
                try clear c30b1
                try clear hx104_0
                try clear hx105_0
                try clear hx106_0
                try clear hx107_0
                try clear hx108_0
                try clear hx109_0
                try clear hx110_0
                try clear hx112_0
                try clear hx113_0
                try clear hx114_0
                try clear hx115_0
                try clear p1
                try clear p10
                try clear p104
                try clear p105
                try clear p106
                try clear p107
                try clear p108
                try clear p109
                try clear p11
                try clear p110
                try clear p112
                try clear p113
                try clear p114
                try clear p115
                try clear p2
                try clear p6
                try clear q1
                try clear q10
                try clear q104
                try clear q105
                try clear q106
                try clear q107
                try clear q108
                try clear q109
                try clear q11
                try clear q110
                try clear q112
                try clear q113
                try clear q114
                try clear q115
                obtain ⟨kq, x106_28, rfl, HA, HJ28, ⟨mc28, rfl⟩⟩ := hcut
                cases kq with
                | zero => exact absurd HA.out (by simp [fluxionref11_attrs.j4])
                | succ kj28 =>
                  have H := HA.out
                  clear HA
                  simp only [fluxionref11_attrs.j4] at H
                  by_cases c31 : x106_28 = true
                  · subst c31
                    have H1 : ((fluxionref06_May.f kj28 l1).bind fun t116 => (some (t116 == 0))) = some r := by rw [if_pos rfl] at H; exact H
                    clear H
                    have H := H1
                    clear H1
                    replace H := Option.bind_eq_some_iff.mp H
                    obtain ⟨t116, A320, H⟩ := H
                    replace H : (some (t116 == 0)) = some r := H
                    have A32 := Aside0.mk A320
                    clear A320
                    obtain rfl := Option.some.inj H
                    go_wp2_with (first | (go_at_call 39; (with_reducible refine (fluxionref06_May.calls kj28 _ _ l1 t116 _ ?side1 ?side2 A32.out).mono ?_); (case side1 => repeat (first | exact HR1.out | (with_reducible refine Kd.C_alloc ?_ _) | (with_reducible refine Kd.C_drewN ?_ _) | (with_reducible refine Kd.C_drew ?_))); (case side2 => exact HC1.out); rintro e w' ⟨rfl, ⟨nd, rfl⟩⟩; (try first | exact ⟨rfl, _, World.drewN_drewN _ _ _⟩ | exact ⟨rfl, _, Eq.trans (World.drewN_drewN _ _ _) (congrArg (World.drewN _) (Nat.add_assoc _ _ _))⟩)))
                    repeat (go_quiet (first | (go_at_call 39; (with_reducible refine (fluxionref06_May.calls kj28 _ _ l1 t116 _ ?side1 ?side2 A32.out).mono ?_); (case side1 => repeat (first | exact HR1.out | (with_reducible refine Kd.C_alloc ?_ _) | (with_reducible refine Kd.C_drewN ?_ _) | (with_reducible refine Kd.C_drew ?_))); (case side2 => exact HC1.out); rintro e w' ⟨rfl, ⟨nd, rfl⟩⟩; (try first | exact ⟨rfl, _, World.drewN_drewN _ _ _⟩ | exact ⟨rfl, _, Eq.trans (World.drewN_drewN _ _ _) (congrArg (World.drewN _) (Nat.add_assoc _ _ _))⟩))); try go_wp2_with (first | (go_at_call 39; (with_reducible refine (fluxionref06_May.calls kj28 _ _ l1 t116 _ ?side1 ?side2 A32.out).mono ?_); (case side1 => repeat (first | exact HR1.out | (with_reducible refine Kd.C_alloc ?_ _) | (with_reducible refine Kd.C_drewN ?_ _) | (with_reducible refine Kd.C_drew ?_))); (case side2 => exact HC1.out); rintro e w' ⟨rfl, ⟨nd, rfl⟩⟩; (try first | exact ⟨rfl, _, World.drewN_drewN _ _ _⟩ | exact ⟨rfl, _, Eq.trans (World.drewN_drewN _ _ _) (congrArg (World.drewN _) (Nat.add_assoc _ _ _))⟩))))
                    go_ret
                    exact ⟨by first | rfl | (simp; done) | (simp [*]; done), by repeat (first | exact Drawn0.refl _ | apply Drawn0.step)⟩
                  · replace c31 := Bool.eq_false_iff.mpr c31
                    subst c31
                    have H1 : (if a0 = 14 then (fluxionref11_attrs.j5 kj28 a0 l1 a0 (a0 == 14)) else (fluxionref11_attrs.j5 kj28 a0 l1 a0 (a0 == 20))) = some r := by rw [if_neg (show ¬ (false = true) by decide)] at H; exact H
                    clear H
                    have H := H1
                    clear H1
                    have HC33 := Aside0.mk H
                    clear H
                    go_upto_if 112 with (fail)
                    repeat (go_quiet (fail); go_upto_if 112 with (fail))
                    go_cut [112] (fun v112 wc => ∃ (kq : Nat) (x112_32 : Bool), v112 = .bool x112_32 ∧ Aside0 (fluxionref11_attrs.j5 kq a0 l1 a0 x112_32 = some r) ∧ Aside0 (kq ≤ kj28) ∧ Drawn0 w wc)
                    case first =>
                      have H := HC33.out
                      clear HC33
                      by_cases c34 : a0 = 14
                      · rw [if_pos c34] at H
                        have c34b0 : (a0 == 14) = true := beq_iff_eq.mpr c34
                        have c34b1 : (a0 != 14) = false := bne_eq_false_iff_eq.mpr c34
                        clear c34
                        (first | rw [c34b0] | (simp only [i64_w, i32_w]; rw [c34b0]) | skip)
                        have H' := Aside0.mk H
                        clear H
                        go_wp2
                        repeat (go_quiet (fail); try go_wp2)
                        go_meet
                        case rel => exact ⟨_, ((a0 == 14)), (by first | rfl | (simp; done) | (simp [*]; done)), H', ⟨by have := HK1.out; have := HJ28.out; first | omega | exact Nat.le_refl _⟩, by repeat (first | exact Drawn0.refl _ | apply Drawn0.step)⟩
                      · rw [if_neg c34] at H
                        have c34b0 : (a0 == 14) = false := beq_eq_false_iff_ne.mpr c34
                        have c34b1 : (a0 != 14) = true := bne_iff_ne.mpr c34
                        (first | rw [c34b0] | (simp only [i64_w, i32_w]; rw [c34b0]) | skip)
                        have H' := Aside0.mk H
                        clear H
                        go_wp2
                        repeat (go_quiet (fail); try go_wp2)
                        go_meet
                        case rel => exact ⟨_, ((a0 == 20)), (by first | rfl | (simp; done) | (simp [*]; done)), H', ⟨by have := HK1.out; have := HJ28.out; first | omega | exact Nat.le_refl _⟩, by repeat (first | exact Drawn0.refl _ | apply Drawn0.step)⟩
                    case rest => as_aux_lemma =>
                      clear HC33
                      try clear c1
                      try clear p1
                      try clear q1
                      try clear hx1
                      try clear qi1
                      try clear c2
                      try clear p2
                      try clear c3
                      try clear c3b0
                      try clear c4
                      try clear c4b0
                      try clear c5
                      try clear c5b0
                      try clear c6
                      try clear c6b0
                      try clear p6
                      try clear c7
                      try clear c7b0
                      try clear c7b1
                      try clear c8
                      try clear c8b0
                      try clear c8b1
                      try clear c9
                      try clear c9b0
                      try clear c9b1
                      try clear c10
                      try clear c10b0
                      try clear p10
                      try clear q10
                      try clear hx10
                      try clear qi10
                      try clear c11
                      try clear c11b0
                      try clear c11b1
                      try clear p11
                      try clear q11
                      try clear hx11
                      try clear qi11
                      try clear c12
                      try clear c12b0
                      try clear c12b1
                      try clear c13
                      try clear c13b0
                      try clear c13b1
                      try clear c14
                      try clear c14b0
                      try clear c15
                      try clear c15b0
                      try clear c15b1
                      try clear c17
                      try clear c17b0
                      try clear c17b1
                      try clear c18
                      try clear c18b0
                      try clear c20
                      try clear c20b0
                      try clear c21
                      try clear c21b0
                      try clear c22
                      try clear c23
                      try clear c23b0
                      try clear c24
                      try clear c24b0
                      try clear c25
                      try clear c25b0
                      try clear c26
                      try clear c26b0
                      try clear c27
                      try clear c27b0
                      try clear c28
                      try clear c28b0
                      try clear c28b1
                      try clear c30
                      try clear c30b0
                      try clear c30b1
                      try clear c31
                      try clear c34
                      try clear c34b0
                      try clear c34b1
                      try clear hx104_0
                      try clear hx105_0
                      try clear hx106_0
                      try clear hx107_0
                      try clear hx108_0
                      try clear hx109_0
                      try clear hx110_0
                      try clear hx112_0
                      try clear hx113_0
                      try clear hx114_0
                      try clear hx115_0
                      try clear p1
                      try clear p10
                      try clear p104
                      try clear p105
                      try clear p106
                      try clear p107
                      try clear p108
                      try clear p109
                      try clear p11
                      try clear p110
                      try clear p112
                      try clear p113
                      try clear p114
                      try clear p115
                      try clear p2
                      try clear p6
                      try clear q1
                      try clear q10
                      try clear q104
                      try clear q105
                      try clear q106
                      try clear q107
                      try clear q108
                      try clear q109
                      try clear q11
                      try clear q110
                      try clear q112
                      try clear q113
                      try clear q114
                      try clear q115
                      obtain ⟨kq, x112_32, rfl, HA, HJ32, ⟨mc32, rfl⟩⟩ := hcut
                      cases kq with
                      | zero => exact absurd HA.out (by simp [fluxionref11_attrs.j5])
                      | succ kj32 =>
                        have H := HA.out
                        clear HA
                        simp only [fluxionref11_attrs.j5] at H
                        by_cases c35 : x112_32 = true
                        · subst c35
                          have H1 : (fluxionref11_attrs.l3 kj32 l1 0) = some r := by rw [if_pos rfl] at H; exact H
                          clear H
                          have H := H1
                          clear H1
                          have H' := Aside0.mk H
                          clear H
                          go_wp2
                          repeat (go_quiet (fail); try go_wp2)
                          go_loopg [8] kj32 (fun kq v8 w' => ∃ (x8_4 : Int), v8 = .int .i64 x8_4 ∧ Aside0 (fluxionref11_attrs.l3 kq l1 x8_4 = some r) ∧ Aside0 (kq ≤ kj32) ∧ Drawn0 w w')
                          case atStart => exact ⟨(0), (by first | rfl | (simp; done) | (simp [*]; done)), H', ⟨Nat.le_refl _⟩, by repeat (first | exact Drawn0.refl _ | apply Drawn0.step)⟩
                          case round => as_aux_lemma =>
                            clear H'
                            try clear c1
                            try clear p1
                            try clear q1
                            try clear hx1
                            try clear qi1
                            try clear c2
                            try clear p2
                            try clear c3
                            try clear c3b0
                            try clear c4
                            try clear c4b0
                            try clear c5
                            try clear c5b0
                            try clear c6
                            try clear c6b0
                            try clear p6
                            try clear c7
                            try clear c7b0
                            try clear c7b1
                            try clear c8
                            try clear c8b0
                            try clear c8b1
                            try clear c9
                            try clear c9b0
                            try clear c9b1
                            try clear c10
                            try clear c10b0
                            try clear p10
                            try clear q10
                            try clear hx10
                            try clear qi10
                            try clear c11
                            try clear c11b0
                            try clear c11b1
                            try clear p11
                            try clear q11
                            try clear hx11
                            try clear qi11
                            try clear c12
                            try clear c12b0
                            try clear c12b1
                            try clear c13
                            try clear c13b0
                            try clear c13b1
                            try clear c14
                            try clear c14b0
                            try clear c15
                            try clear c15b0
                            try clear c15b1
                            try clear c17
                            try clear c17b0
                            try clear c17b1
                            try clear c18
                            try clear c18b0
                            try clear c20
                            try clear c20b0
                            try clear c21
                            try clear c21b0
                            try clear c22
                            try clear c23
                            try clear c23b0
                            try clear c24
                            try clear c24b0
                            try clear c25
                            try clear c25b0
                            try clear c26
                            try clear c26b0
                            try clear c27
                            try clear c27b0
                            try clear c28
                            try clear c28b0
                            try clear c28b1
                            try clear c30
                            try clear c30b0
                            try clear c30b1
                            try clear c31
                            try clear c32
                            try clear c34
                            try clear c34b0
                            try clear c34b1
                            try clear c35
                            try clear hx104_0
                            try clear hx105_0
                            try clear hx106_0
                            try clear hx107_0
                            try clear hx108_0
                            try clear hx109_0
                            try clear hx110_0
                            try clear hx112_0
                            try clear hx113_0
                            try clear hx114_0
                            try clear hx115_0
                            try clear p1
                            try clear p10
                            try clear p104
                            try clear p105
                            try clear p106
                            try clear p107
                            try clear p108
                            try clear p109
                            try clear p11
                            try clear p110
                            try clear p112
                            try clear p113
                            try clear p114
                            try clear p115
                            try clear p2
                            try clear p6
                            try clear q1
                            try clear q10
                            try clear q104
                            try clear q105
                            try clear q106
                            try clear q107
                            try clear q108
                            try clear q109
                            try clear q11
                            try clear q110
                            try clear q112
                            try clear q113
                            try clear q114
                            try clear q115
                            obtain ⟨x8_4, rfl, HA, HK4, ⟨m4, rfl⟩⟩ := hrel
                            cases gk with
                            | zero => exact absurd HA.out (by simp [fluxionref11_attrs.l3])
                            | succ k4 =>
                              have H := HA.out
                              clear HA
                              simp only [fluxionref11_attrs.l3] at H
                              by_cases c36 : x8_4 < (l1.length : Int)
                              · rw [if_pos c36] at H
                                have c36b0 : decide (x8_4 < (l1.length : Int)) = true := decide_eq_true c36
                                clear c36
                                by_cases c37 : 0 ≤ x8_4
                                · rw [if_pos c37] at H
                                  have c37b0 : decide (0 ≤ x8_4) = true := decide_eq_true c37
                                  clear c37
                                  by_cases c38 : (rd l1 x8_4) < 0
                                  · rw [if_pos c38] at H
                                    have c38b0 : decide ((rd l1 x8_4) < 0) = true := decide_eq_true c38
                                    clear c38
                                    obtain rfl := Option.some.inj H
                                    have p117 : 0 ≤ (x8_4 : Int) := of_decide_eq_true (by first | (with_reducible assumption) | assumption)
                                    have q117 : x8_4 < (l1.length : Int) := of_decide_eq_true (by first | (with_reducible assumption) | assumption)
                                    obtain ⟨ad117, e117, hx117_0⟩ := Kd.at_int HR1.out x8_4 p117 q117
                                    cases e117
                                    replace p117 := eq_true p117
                                    replace q117 := eq_true q117
                                    go_wp2
                                    repeat (go_quiet (fail); try go_wp2)
                                    go_ret
                                    exact ⟨by first | rfl | (simp; done) | (simp [*]; done), by repeat (first | exact Drawn0.refl _ | apply Drawn0.step)⟩
                                  · rw [if_neg c38] at H
                                    have c38b0 : decide ((rd l1 x8_4) < 0) = false := decide_eq_false c38
                                    clear c38
                                    by_cases c39 : (rd l1 x8_4) > 3
                                    · rw [if_pos c39] at H
                                      have c39b0 : decide (3 < (rd l1 x8_4)) = true := decide_eq_true c39
                                      clear c39
                                      obtain rfl := Option.some.inj H
                                      have p117 : 0 ≤ (x8_4 : Int) := of_decide_eq_true (by first | (with_reducible assumption) | assumption)
                                      have q117 : x8_4 < (l1.length : Int) := of_decide_eq_true (by first | (with_reducible assumption) | assumption)
                                      obtain ⟨ad117, e117, hx117_0⟩ := Kd.at_int HR1.out x8_4 p117 q117
                                      cases e117
                                      replace p117 := eq_true p117
                                      replace q117 := eq_true q117
                                      have p118 : 0 ≤ (x8_4 : Int) := of_decide_eq_true (by first | (with_reducible assumption) | assumption)
                                      have q118 : x8_4 < (l1.length : Int) := of_decide_eq_true (by first | (with_reducible assumption) | assumption)
                                      obtain ⟨ad118, e118, hx118_0⟩ := Kd.at_int HR1.out x8_4 p118 q118
                                      obtain rfl : ad117 = ad118 := (by injection e118)
                                      replace p118 := eq_true p118
                                      replace q118 := eq_true q118
                                      go_wp2
                                      repeat (go_quiet (fail); try go_wp2)
                                      go_ret
                                      exact ⟨by first | rfl | (simp; done) | (simp [*]; done), by repeat (first | exact Drawn0.refl _ | apply Drawn0.step)⟩
                                    · rw [if_neg c39] at H
                                      have c39b0 : decide (3 < (rd l1 x8_4)) = false := decide_eq_false c39
                                      clear c39
                                      by_cases c40 : x8_4 > 0
                                      · rw [if_pos c40] at H
                                        have c40b0 : decide (0 < x8_4) = true := decide_eq_true c40
                                        clear c40
                                        obtain ⟨ji41, hji41⟩ : ∃ j_ : Int, (wrap64 (x8_4 - 1)) = j_ := ⟨_, rfl⟩
                                        replace H : (if 0 ≤ (ji41) then (if (ji41) < (l1.length : Int) then (if (rd l1 x8_4) ≤ (rd l1 (ji41)) then (some false) else (fluxionref11_attrs.l3 k4 l1 (wrap64 (x8_4 + 1)))) else (none)) else (none)) = some r := by first | (rw [hji41] at H; exact H) | (simp only [hji41] at H ⊢; exact H)
                                        have hji41w : (IntKind.i64.wrap (x8_4 - 1)) = ji41 := (i64_w _).trans hji41
                                        by_cases c42 : 0 ≤ (ji41)
                                        · rw [if_pos c42] at H
                                          have c42b0 : decide (0 ≤ (ji41)) = true := decide_eq_true c42
                                          clear c42
                                          by_cases c43 : (ji41) < (l1.length : Int)
                                          · rw [if_pos c43] at H
                                            have c43b0 : decide ((ji41) < (l1.length : Int)) = true := decide_eq_true c43
                                            clear c43
                                            by_cases c44 : (rd l1 x8_4) ≤ (rd l1 (ji41))
                                            · rw [if_pos c44] at H
                                              have c44b0 : decide ((rd l1 x8_4) ≤ (rd l1 (ji41))) = true := decide_eq_true c44
                                              clear c44
                                              obtain rfl := Option.some.inj H
                                              have p117 : 0 ≤ (x8_4 : Int) := of_decide_eq_true (by first | (with_reducible assumption) | assumption)
                                              have q117 : x8_4 < (l1.length : Int) := of_decide_eq_true (by first | (with_reducible assumption) | assumption)
                                              obtain ⟨ad117, e117, hx117_0⟩ := Kd.at_int HR1.out x8_4 p117 q117
                                              cases e117
                                              replace p117 := eq_true p117
                                              replace q117 := eq_true q117
                                              have p118 : 0 ≤ (x8_4 : Int) := of_decide_eq_true (by first | (with_reducible assumption) | assumption)
                                              have q118 : x8_4 < (l1.length : Int) := of_decide_eq_true (by first | (with_reducible assumption) | assumption)
                                              obtain ⟨ad118, e118, hx118_0⟩ := Kd.at_int HR1.out x8_4 p118 q118
                                              obtain rfl : ad117 = ad118 := (by injection e118)
                                              replace p118 := eq_true p118
                                              replace q118 := eq_true q118
                                              have p119 : 0 ≤ (x8_4 : Int) := of_decide_eq_true (by first | (with_reducible assumption) | assumption)
                                              have q119 : x8_4 < (l1.length : Int) := of_decide_eq_true (by first | (with_reducible assumption) | assumption)
                                              obtain ⟨ad119, e119, hx119_0⟩ := Kd.at_int HR1.out x8_4 p119 q119
                                              obtain rfl : ad117 = ad119 := (by injection e119)
                                              replace p119 := eq_true p119
                                              replace q119 := eq_true q119
                                              have p120 : 0 ≤ ((ji41) : Int) := of_decide_eq_true (by first | (with_reducible assumption) | assumption)
                                              have q120 : (ji41) < (l1.length : Int) := of_decide_eq_true (by first | (with_reducible assumption) | assumption)
                                              obtain ⟨ad120, e120, hx120_0⟩ := Kd.at_int HR1.out (ji41) p120 q120
                                              obtain rfl : ad117 = ad120 := (by injection e120)
                                              replace p120 := eq_true p120
                                              replace q120 := eq_true q120
                                              go_wp2
                                              repeat (go_quiet (fail); try go_wp2)
                                              go_ret
                                              exact ⟨by first | rfl | (simp; done) | (simp only [← hji41] <;> (first | rfl | simp)) | (simp [*]; done), by repeat (first | exact Drawn0.refl _ | apply Drawn0.step)⟩
                                            · rw [if_neg c44] at H
                                              have c44b0 : decide ((rd l1 x8_4) ≤ (rd l1 (ji41))) = false := decide_eq_false c44
                                              clear c44
                                              have H' := Aside0.mk H
                                              clear H
                                              have p117 : 0 ≤ (x8_4 : Int) := of_decide_eq_true (by first | (with_reducible assumption) | assumption)
                                              have q117 : x8_4 < (l1.length : Int) := of_decide_eq_true (by first | (with_reducible assumption) | assumption)
                                              obtain ⟨ad117, e117, hx117_0⟩ := Kd.at_int HR1.out x8_4 p117 q117
                                              cases e117
                                              replace p117 := eq_true p117
                                              replace q117 := eq_true q117
                                              have p118 : 0 ≤ (x8_4 : Int) := of_decide_eq_true (by first | (with_reducible assumption) | assumption)
                                              have q118 : x8_4 < (l1.length : Int) := of_decide_eq_true (by first | (with_reducible assumption) | assumption)
                                              obtain ⟨ad118, e118, hx118_0⟩ := Kd.at_int HR1.out x8_4 p118 q118
                                              obtain rfl : ad117 = ad118 := (by injection e118)
                                              replace p118 := eq_true p118
                                              replace q118 := eq_true q118
                                              have p119 : 0 ≤ (x8_4 : Int) := of_decide_eq_true (by first | (with_reducible assumption) | assumption)
                                              have q119 : x8_4 < (l1.length : Int) := of_decide_eq_true (by first | (with_reducible assumption) | assumption)
                                              obtain ⟨ad119, e119, hx119_0⟩ := Kd.at_int HR1.out x8_4 p119 q119
                                              obtain rfl : ad117 = ad119 := (by injection e119)
                                              replace p119 := eq_true p119
                                              replace q119 := eq_true q119
                                              have p120 : 0 ≤ ((ji41) : Int) := of_decide_eq_true (by first | (with_reducible assumption) | assumption)
                                              have q120 : (ji41) < (l1.length : Int) := of_decide_eq_true (by first | (with_reducible assumption) | assumption)
                                              obtain ⟨ad120, e120, hx120_0⟩ := Kd.at_int HR1.out (ji41) p120 q120
                                              obtain rfl : ad117 = ad120 := (by injection e120)
                                              replace p120 := eq_true p120
                                              replace q120 := eq_true q120
                                              go_wp2
                                              repeat (go_quiet (fail); try go_wp2)
                                              go_roundg k4
                                              case measure => have := HK1.out; have := HJ28.out; have := HJ32.out; have := HK4.out; omega
                                              case rel => exact ⟨(wrap64 (x8_4 + 1)), (by first | rfl | (simp; done) | (simp [*]; done)), H', ⟨by have := HK1.out; have := HJ28.out; have := HJ32.out; have := HK4.out; omega⟩, by repeat (first | exact Drawn0.refl _ | apply Drawn0.step)⟩
                                          · rw [if_neg c43] at H
                                            exact absurd H (by simp)
                                        · rw [if_neg c42] at H
                                          exact absurd H (by simp)
                                      · rw [if_neg c40] at H
                                        have c40b0 : decide (0 < x8_4) = false := decide_eq_false c40
                                        clear c40
                                        have H' := Aside0.mk H
                                        clear H
                                        have p117 : 0 ≤ (x8_4 : Int) := of_decide_eq_true (by first | (with_reducible assumption) | assumption)
                                        have q117 : x8_4 < (l1.length : Int) := of_decide_eq_true (by first | (with_reducible assumption) | assumption)
                                        obtain ⟨ad117, e117, hx117_0⟩ := Kd.at_int HR1.out x8_4 p117 q117
                                        cases e117
                                        replace p117 := eq_true p117
                                        replace q117 := eq_true q117
                                        have p118 : 0 ≤ (x8_4 : Int) := of_decide_eq_true (by first | (with_reducible assumption) | assumption)
                                        have q118 : x8_4 < (l1.length : Int) := of_decide_eq_true (by first | (with_reducible assumption) | assumption)
                                        obtain ⟨ad118, e118, hx118_0⟩ := Kd.at_int HR1.out x8_4 p118 q118
                                        obtain rfl : ad117 = ad118 := (by injection e118)
                                        replace p118 := eq_true p118
                                        replace q118 := eq_true q118
                                        go_wp2
                                        repeat (go_quiet (fail); try go_wp2)
                                        go_roundg k4
                                        case measure => have := HK1.out; have := HJ28.out; have := HJ32.out; have := HK4.out; omega
                                        case rel => exact ⟨(wrap64 (x8_4 + 1)), (by first | rfl | (simp; done) | (simp [*]; done)), H', ⟨by have := HK1.out; have := HJ28.out; have := HJ32.out; have := HK4.out; omega⟩, by repeat (first | exact Drawn0.refl _ | apply Drawn0.step)⟩
                                · rw [if_neg c37] at H
                                  exact absurd H (by simp)
                              · rw [if_neg c36] at H
                                have c36b0 : decide (x8_4 < (l1.length : Int)) = false := decide_eq_false c36
                                clear c36
                                obtain rfl := Option.some.inj H
                                go_wp2
                                repeat (go_quiet (fail); try go_wp2)
                                go_ret
                                exact ⟨by first | rfl | (simp; done) | (simp [*]; done), by repeat (first | exact Drawn0.refl _ | apply Drawn0.step)⟩
                        · replace c35 := Bool.eq_false_iff.mpr c35
                          subst c35
                          have H1 : (if a0 = 15 then (fluxionref11_attrs.j7 kj32 a0 l1 a0 (a0 == 15)) else (fluxionref11_attrs.j7 kj32 a0 l1 a0 (a0 == 16))) = some r := by rw [if_neg (show ¬ (false = true) by decide)] at H; exact H
                          clear H
                          have H := H1
                          clear H1
                          have HC45 := Aside0.mk H
                          clear H
                          go_upto_if 149 with (fail)
                          repeat (go_quiet (fail); go_upto_if 149 with (fail))
                          go_cut [149] (fun v149 wc => ∃ (kq : Nat) (x149_44 : Bool), v149 = .bool x149_44 ∧ Aside0 (fluxionref11_attrs.j7 kq a0 l1 a0 x149_44 = some r) ∧ Aside0 (kq ≤ kj32) ∧ Drawn0 w wc)
                          case first =>
                            have H := HC45.out
                            clear HC45
                            by_cases c46 : a0 = 15
                            · rw [if_pos c46] at H
                              have c46b0 : (a0 == 15) = true := beq_iff_eq.mpr c46
                              have c46b1 : (a0 != 15) = false := bne_eq_false_iff_eq.mpr c46
                              clear c46
                              (first | rw [c46b0] | (simp only [i64_w, i32_w]; rw [c46b0]) | skip)
                              have H' := Aside0.mk H
                              clear H
                              go_wp2
                              repeat (go_quiet (fail); try go_wp2)
                              go_meet
                              case rel => exact ⟨_, ((a0 == 15)), (by first | rfl | (simp; done) | (simp [*]; done)), H', ⟨by have := HK1.out; have := HJ28.out; have := HJ32.out; first | omega | exact Nat.le_refl _⟩, by repeat (first | exact Drawn0.refl _ | apply Drawn0.step)⟩
                            · rw [if_neg c46] at H
                              have c46b0 : (a0 == 15) = false := beq_eq_false_iff_ne.mpr c46
                              have c46b1 : (a0 != 15) = true := bne_iff_ne.mpr c46
                              (first | rw [c46b0] | (simp only [i64_w, i32_w]; rw [c46b0]) | skip)
                              have H' := Aside0.mk H
                              clear H
                              go_wp2
                              repeat (go_quiet (fail); try go_wp2)
                              go_meet
                              case rel => exact ⟨_, ((a0 == 16)), (by first | rfl | (simp; done) | (simp [*]; done)), H', ⟨by have := HK1.out; have := HJ28.out; have := HJ32.out; first | omega | exact Nat.le_refl _⟩, by repeat (first | exact Drawn0.refl _ | apply Drawn0.step)⟩
                          case rest => as_aux_lemma =>
                            clear HC45
                            try clear c1
                            try clear p1
                            try clear q1
                            try clear hx1
                            try clear qi1
                            try clear c2
                            try clear p2
                            try clear c3
                            try clear c3b0
                            try clear c4
                            try clear c4b0
                            try clear c5
                            try clear c5b0
                            try clear c6
                            try clear c6b0
                            try clear p6
                            try clear c7
                            try clear c7b0
                            try clear c7b1
                            try clear c8
                            try clear c8b0
                            try clear c8b1
                            try clear c9
                            try clear c9b0
                            try clear c9b1
                            try clear c10
                            try clear c10b0
                            try clear p10
                            try clear q10
                            try clear hx10
                            try clear qi10
                            try clear c11
                            try clear c11b0
                            try clear c11b1
                            try clear p11
                            try clear q11
                            try clear hx11
                            try clear qi11
                            try clear c12
                            try clear c12b0
                            try clear c12b1
                            try clear p12
                            try clear q12
                            try clear hx12
                            try clear c13
                            try clear c13b0
                            try clear c13b1
                            try clear c14
                            try clear c14b0
                            try clear c15
                            try clear c15b0
                            try clear c15b1
                            try clear c17
                            try clear c17b0
                            try clear c17b1
                            try clear c18
                            try clear c18b0
                            try clear c20
                            try clear c20b0
                            try clear c21
                            try clear c21b0
                            try clear c22
                            try clear c23
                            try clear c23b0
                            try clear c24
                            try clear c24b0
                            try clear c25
                            try clear c25b0
                            try clear c26
                            try clear c26b0
                            try clear c27
                            try clear c27b0
                            try clear c28
                            try clear c28b0
                            try clear c28b1
                            try clear c30
                            try clear c30b0
                            try clear c30b1
                            try clear c31
                            try clear c32
                            try clear c34
                            try clear c34b0
                            try clear c34b1
                            try clear c35
                            try clear c36
                            try clear c36b0
                            try clear c37
                            try clear c37b0
                            try clear c38
                            try clear c38b0
                            try clear c39
                            try clear c39b0
                            try clear c40
                            try clear c40b0
                            try clear c42
                            try clear c42b0
                            try clear c43
                            try clear c43b0
                            try clear c44
                            try clear c44b0
                            try clear c46
                            try clear c46b0
                            try clear c46b1
                            try clear hx104_0
                            try clear hx105_0
                            try clear hx106_0
                            try clear hx107_0
                            try clear hx108_0
                            try clear hx109_0
                            try clear hx110_0
                            try clear hx112_0
                            try clear hx113_0
                            try clear hx114_0
                            try clear hx115_0
                            try clear hx117_0
                            try clear hx118_0
                            try clear hx119_0
                            try clear hx120_0
                            try clear p1
                            try clear p10
                            try clear p104
                            try clear p105
                            try clear p106
                            try clear p107
                            try clear p108
                            try clear p109
                            try clear p11
                            try clear p110
                            try clear p112
                            try clear p113
                            try clear p114
                            try clear p115
                            try clear p117
                            try clear p118
                            try clear p119
                            try clear p120
                            try clear p2
                            try clear p6
                            try clear q1
                            try clear q10
                            try clear q104
                            try clear q105
                            try clear q106
                            try clear q107
                            try clear q108
                            try clear q109
                            try clear q11
                            try clear q110
                            try clear q112
                            try clear q113
                            try clear q114
                            try clear q115
                            try clear q117
                            try clear q118
                            try clear q119
                            try clear q120
                            obtain ⟨kq, x149_44, rfl, HA, HJ44, ⟨mc44, rfl⟩⟩ := hcut
                            cases kq with
                            | zero => exact absurd HA.out (by simp [fluxionref11_attrs.j7])
                            | succ kj44 =>
                              have H := HA.out
                              clear HA
                              simp only [fluxionref11_attrs.j7] at H
                              by_cases c47 : x149_44 = true
                              · subst c47
                                have H1 : (if ((l1.length : Int) % 2) = 1 then (fluxionref11_attrs.j8 kj44 a0 l1 true) else (fluxionref11_attrs.j8 kj44 a0 l1 (decide ((l1.length : Int) > 8)))) = some r := by rw [if_pos rfl] at H; exact H
                                clear H
                                have H := H1
                                clear H1
                                have HC48 := Aside0.mk H
                                clear H
                                go_upto_region 36 with (fail)
                                repeat (go_quiet (fail); go_upto_region 36 with (fail))
                                go_cut [160] (fun v160 wc => ∃ (kq : Nat) (x160_47 : Bool), v160 = .bool x160_47 ∧ Aside0 (fluxionref11_attrs.j8 kq a0 l1 x160_47 = some r) ∧ Aside0 (kq ≤ kj44) ∧ Drawn0 w wc)
                                case first =>
                                  have H := HC48.out
                                  clear HC48
                                  by_cases c49 : ((l1.length : Int) % 2) = 1
                                  · rw [if_pos c49] at H
                                    have c49b0 : (((l1.length : Int) % 2) == 1) = true := beq_iff_eq.mpr c49
                                    have c49b1 : (((l1.length : Int) % 2) != 1) = false := bne_eq_false_iff_eq.mpr c49
                                    clear c49
                                    (first | rw [c49b0] | (simp only [i64_w, i32_w]; rw [c49b0]) | skip)
                                    have H' := Aside0.mk H
                                    clear H
                                    go_wp2
                                    repeat (go_quiet (fail); try go_wp2)
                                    go_meet
                                    case rel => exact ⟨_, (true), (by first | rfl | (simp; done) | (simp [*]; done)), H', ⟨by have := HK1.out; have := HJ28.out; have := HJ32.out; have := HJ44.out; first | omega | exact Nat.le_refl _⟩, by repeat (first | exact Drawn0.refl _ | apply Drawn0.step)⟩
                                  · rw [if_neg c49] at H
                                    have c49b0 : (((l1.length : Int) % 2) == 1) = false := beq_eq_false_iff_ne.mpr c49
                                    have c49b1 : (((l1.length : Int) % 2) != 1) = true := bne_iff_ne.mpr c49
                                    (first | rw [c49b0] | (simp only [i64_w, i32_w]; rw [c49b0]) | skip)
                                    have H' := Aside0.mk H
                                    clear H
                                    go_wp2
                                    repeat (go_quiet (fail); try go_wp2)
                                    go_meet
                                    case rel => exact ⟨_, (decide ((l1.length : Int) > 8)), (by first | rfl | (simp; done) | (simp [*]; done)), H', ⟨by have := HK1.out; have := HJ28.out; have := HJ32.out; have := HJ44.out; first | omega | exact Nat.le_refl _⟩, by repeat (first | exact Drawn0.refl _ | apply Drawn0.step)⟩
                                case rest => as_aux_lemma =>
                                  clear HC48
                                  try clear c1
                                  try clear p1
                                  try clear q1
                                  try clear hx1
                                  try clear qi1
                                  try clear c2
                                  try clear p2
                                  try clear c3
                                  try clear c3b0
                                  try clear c4
                                  try clear c4b0
                                  try clear c5
                                  try clear c5b0
                                  try clear c6
                                  try clear c6b0
                                  try clear p6
                                  try clear c7
                                  try clear c7b0
                                  try clear c7b1
                                  try clear c8
                                  try clear c8b0
                                  try clear c8b1
                                  try clear c9
                                  try clear c9b0
                                  try clear c9b1
                                  try clear c10
                                  try clear c10b0
                                  try clear p10
                                  try clear q10
                                  try clear hx10
                                  try clear qi10
                                  try clear c11
                                  try clear c11b0
                                  try clear c11b1
                                  try clear p11
                                  try clear q11
                                  try clear hx11
                                  try clear qi11
                                  try clear c12
                                  try clear c12b0
                                  try clear c12b1
                                  try clear p12
                                  try clear q12
                                  try clear hx12
                                  try clear c13
                                  try clear c13b0
                                  try clear c13b1
                                  try clear c14
                                  try clear c14b0
                                  try clear c15
                                  try clear c15b0
                                  try clear c15b1
                                  try clear c17
                                  try clear c17b0
                                  try clear c17b1
                                  try clear c18
                                  try clear c18b0
                                  try clear c20
                                  try clear c20b0
                                  try clear c21
                                  try clear c21b0
                                  try clear c22
                                  try clear c23
                                  try clear c23b0
                                  try clear c24
                                  try clear c24b0
                                  try clear c25
                                  try clear c25b0
                                  try clear c26
                                  try clear c26b0
                                  try clear c27
                                  try clear c27b0
                                  try clear c28
                                  try clear c28b0
                                  try clear c28b1
                                  try clear c30
                                  try clear c30b0
                                  try clear c30b1
                                  try clear c31
                                  try clear c32
                                  try clear c34
                                  try clear c34b0
                                  try clear c34b1
                                  try clear c35
                                  try clear c36
                                  try clear c36b0
                                  try clear c37
                                  try clear c37b0
                                  try clear c38
                                  try clear c38b0
                                  try clear c39
                                  try clear c39b0
                                  try clear c40
                                  try clear c40b0
                                  try clear c42
                                  try clear c42b0
                                  try clear c43
                                  try clear c43b0
                                  try clear c44
                                  try clear c44b0
                                  try clear c46
                                  try clear c46b0
                                  try clear c46b1
                                  try clear c47
                                  try clear c49
                                  try clear c49b0
                                  try clear c49b1
                                  try clear hx104_0
                                  try clear hx105_0
                                  try clear hx106_0
                                  try clear hx107_0
                                  try clear hx108_0
                                  try clear hx109_0
                                  try clear hx110_0
                                  try clear hx112_0
                                  try clear hx113_0
                                  try clear hx114_0
                                  try clear hx115_0
                                  try clear hx117_0
                                  try clear hx118_0
                                  try clear hx119_0
                                  try clear hx120_0
                                  try clear p1
                                  try clear p10
                                  try clear p104
                                  try clear p105
                                  try clear p106
                                  try clear p107
                                  try clear p108
                                  try clear p109
                                  try clear p11
                                  try clear p110
                                  try clear p112
                                  try clear p113
                                  try clear p114
                                  try clear p115
                                  try clear p117
                                  try clear p118
                                  try clear p119
                                  try clear p12
                                  try clear p120
                                  try clear p2
                                  try clear p6
                                  try clear q1
                                  try clear q10
                                  try clear q104
                                  try clear q105
                                  try clear q106
                                  try clear q107
                                  try clear q108
                                  try clear q109
                                  try clear q11
                                  try clear q110
                                  try clear q112
                                  try clear q113
                                  try clear q114
                                  try clear q115
                                  try clear q117
                                  try clear q118
                                  try clear q119
                                  try clear q12
                                  try clear q120
                                  obtain ⟨kq, x160_47, rfl, HA, HJ47, ⟨mc47, rfl⟩⟩ := hcut
                                  cases kq with
                                  | zero => exact absurd HA.out (by simp [fluxionref11_attrs.j8])
                                  | succ kj47 =>
                                    have H := HA.out
                                    clear HA
                                    simp only [fluxionref11_attrs.j8] at H
                                    by_cases c50 : x160_47 = true
                                    · subst c50
                                      have H1 : (some false) = some r := by rw [if_pos rfl] at H; exact H
                                      clear H
                                      have H := H1
                                      clear H1
                                      obtain rfl := Option.some.inj H
                                      go_wp2
                                      repeat (go_quiet (fail); try go_wp2)
                                      go_ret
                                      exact ⟨by first | rfl | (simp; done) | (simp [*]; done), by repeat (first | exact Drawn0.refl _ | apply Drawn0.step)⟩
                                    · replace c50 := Bool.eq_false_iff.mpr c50
                                      subst c50
                                      have H1 : (fluxionref11_attrs.l4 kj47 a0 l1 0) = some r := by rw [if_neg (show ¬ (false = true) by decide)] at H; exact H
                                      clear H
                                      have H := H1
                                      clear H1
                                      have H' := Aside0.mk H
                                      clear H
                                      go_wp2
                                      repeat (go_quiet (fail); try go_wp2)
                                      go_loopg [9] kj47 (fun kq v9 w' => ∃ (x9_6 : Int), v9 = .int .i64 x9_6 ∧ Aside0 (fluxionref11_attrs.l4 kq a0 l1 x9_6 = some r) ∧ Aside0 (kq ≤ kj47) ∧ Drawn0 w w')
                                      case atStart => exact ⟨(0), (by first | rfl | (simp; done) | (simp [*]; done)), H', ⟨Nat.le_refl _⟩, by repeat (first | exact Drawn0.refl _ | apply Drawn0.step)⟩
                                      case round => as_aux_lemma =>
                                        clear H'
                                        try clear c1
                                        try clear p1
                                        try clear q1
                                        try clear hx1
                                        try clear qi1
                                        try clear c2
                                        try clear p2
                                        try clear c3
                                        try clear c3b0
                                        try clear c4
                                        try clear c4b0
                                        try clear c5
                                        try clear c5b0
                                        try clear c6
                                        try clear c6b0
                                        try clear p6
                                        try clear c7
                                        try clear c7b0
                                        try clear c7b1
                                        try clear c8
                                        try clear c8b0
                                        try clear c8b1
                                        try clear c9
                                        try clear c9b0
                                        try clear c9b1
                                        try clear c10
                                        try clear c10b0
                                        try clear p10
                                        try clear q10
                                        try clear hx10
                                        try clear qi10
                                        try clear c11
                                        try clear c11b0
                                        try clear c11b1
                                        try clear p11
                                        try clear q11
                                        try clear hx11
                                        try clear qi11
                                        try clear c12
                                        try clear c12b0
                                        try clear c12b1
                                        try clear p12
                                        try clear q12
                                        try clear hx12
                                        try clear c13
                                        try clear c13b0
                                        try clear c13b1
                                        try clear c14
                                        try clear c14b0
                                        try clear c15
                                        try clear c15b0
                                        try clear c15b1
                                        try clear c17
                                        try clear c17b0
                                        try clear c17b1
                                        try clear c18
                                        try clear c18b0
                                        try clear c20
                                        try clear c20b0
                                        try clear c21
                                        try clear c21b0
                                        try clear c22
                                        try clear c23
                                        try clear c23b0
                                        try clear c24
                                        try clear c24b0
                                        try clear c25
                                        try clear c25b0
                                        try clear c26
                                        try clear c26b0
                                        try clear c27
                                        try clear c27b0
                                        try clear c28
                                        try clear c28b0
                                        try clear c28b1
                                        try clear c30
                                        try clear c30b0
                                        try clear c30b1
                                        try clear c31
                                        try clear c32
                                        try clear c34
                                        try clear c34b0
                                        try clear c34b1
                                        try clear c35
                                        try clear c36
                                        try clear c36b0
                                        try clear c37
                                        try clear c37b0
                                        try clear c38
                                        try clear c38b0
                                        try clear c39
                                        try clear c39b0
                                        try clear c40
                                        try clear c40b0
                                        try clear c42
                                        try clear c42b0
                                        try clear c43
                                        try clear c43b0
                                        try clear c44
                                        try clear c44b0
                                        try clear c46
                                        try clear c46b0
                                        try clear c46b1
                                        try clear c47
                                        try clear c49
                                        try clear c49b0
                                        try clear c49b1
                                        try clear c50
                                        try clear hx104_0
                                        try clear hx105_0
                                        try clear hx106_0
                                        try clear hx107_0
                                        try clear hx108_0
                                        try clear hx109_0
                                        try clear hx110_0
                                        try clear hx112_0
                                        try clear hx113_0
                                        try clear hx114_0
                                        try clear hx115_0
                                        try clear hx117_0
                                        try clear hx118_0
                                        try clear hx119_0
                                        try clear hx120_0
                                        try clear p1
                                        try clear p10
                                        try clear p104
                                        try clear p105
                                        try clear p106
                                        try clear p107
                                        try clear p108
                                        try clear p109
                                        try clear p11
                                        try clear p110
                                        try clear p112
                                        try clear p113
                                        try clear p114
                                        try clear p115
                                        try clear p117
                                        try clear p118
                                        try clear p119
                                        try clear p12
                                        try clear p120
                                        try clear p2
                                        try clear p6
                                        try clear q1
                                        try clear q10
                                        try clear q104
                                        try clear q105
                                        try clear q106
                                        try clear q107
                                        try clear q108
                                        try clear q109
                                        try clear q11
                                        try clear q110
                                        try clear q112
                                        try clear q113
                                        try clear q114
                                        try clear q115
                                        try clear q117
                                        try clear q118
                                        try clear q119
                                        try clear q12
                                        try clear q120
                                        obtain ⟨x9_6, rfl, HA, HK6, ⟨m6, rfl⟩⟩ := hrel
                                        cases gk with
                                        | zero => exact absurd HA.out (by simp [fluxionref11_attrs.l4])
                                        | succ k6 =>
                                          have H := HA.out
                                          clear HA
                                          simp only [fluxionref11_attrs.l4] at H
                                          by_cases c51 : x9_6 < (l1.length : Int)
                                          · rw [if_pos c51] at H
                                            have c51b0 : decide (x9_6 < (l1.length : Int)) = true := decide_eq_true c51
                                            clear c51
                                            by_cases c52 : 0 ≤ x9_6
                                            · rw [if_pos c52] at H
                                              have c52b0 : decide (0 ≤ x9_6) = true := decide_eq_true c52
                                              clear c52
                                              by_cases c53 : (rd l1 x9_6) < 0
                                              · rw [if_pos c53] at H
                                                have c53b0 : decide ((rd l1 x9_6) < 0) = true := decide_eq_true c53
                                                clear c53
                                                obtain rfl := Option.some.inj H
                                                have p121 : 0 ≤ (x9_6 : Int) := of_decide_eq_true (by first | (with_reducible assumption) | assumption)
                                                have q121 : x9_6 < (l1.length : Int) := of_decide_eq_true (by first | (with_reducible assumption) | assumption)
                                                obtain ⟨ad121, e121, hx121_0⟩ := Kd.at_int HR1.out x9_6 p121 q121
                                                cases e121
                                                replace p121 := eq_true p121
                                                replace q121 := eq_true q121
                                                go_wp2
                                                repeat (go_quiet (fail); try go_wp2)
                                                go_ret
                                                exact ⟨by first | rfl | (simp; done) | (simp [*]; done), by repeat (first | exact Drawn0.refl _ | apply Drawn0.step)⟩
                                              · rw [if_neg c53] at H
                                                have c53b0 : decide ((rd l1 x9_6) < 0) = false := decide_eq_false c53
                                                clear c53
                                                obtain ⟨ji54, hji54⟩ : ∃ j_ : Int, (wrap64 (x9_6 + 1)) = j_ := ⟨_, rfl⟩
                                                replace H : (if 0 ≤ (ji54) then (if (ji54) < (l1.length : Int) then (if (rd l1 (ji54)) < 0 then (some false) else (if a0 = 15 then (if (rd l1 (ji54)) ≤ (rd l1 x9_6) then (some false) else (fluxionref11_attrs.l4 k6 a0 l1 (wrap64 (x9_6 + 2)))) else (fluxionref11_attrs.l4 k6 a0 l1 (wrap64 (x9_6 + 2))))) else (none)) else (none)) = some r := by first | (rw [hji54] at H; exact H) | (simp only [hji54] at H ⊢; exact H)
                                                have hji54w : (IntKind.i64.wrap (x9_6 + 1)) = ji54 := (i64_w _).trans hji54
                                                by_cases c55 : 0 ≤ (ji54)
                                                · rw [if_pos c55] at H
                                                  have c55b0 : decide (0 ≤ (ji54)) = true := decide_eq_true c55
                                                  clear c55
                                                  by_cases c56 : (ji54) < (l1.length : Int)
                                                  · rw [if_pos c56] at H
                                                    have c56b0 : decide ((ji54) < (l1.length : Int)) = true := decide_eq_true c56
                                                    clear c56
                                                    by_cases c57 : (rd l1 (ji54)) < 0
                                                    · rw [if_pos c57] at H
                                                      have c57b0 : decide ((rd l1 (ji54)) < 0) = true := decide_eq_true c57
                                                      clear c57
                                                      obtain rfl := Option.some.inj H
                                                      have p121 : 0 ≤ (x9_6 : Int) := of_decide_eq_true (by first | (with_reducible assumption) | assumption)
                                                      have q121 : x9_6 < (l1.length : Int) := of_decide_eq_true (by first | (with_reducible assumption) | assumption)
                                                      obtain ⟨ad121, e121, hx121_0⟩ := Kd.at_int HR1.out x9_6 p121 q121
                                                      cases e121
                                                      replace p121 := eq_true p121
                                                      replace q121 := eq_true q121
                                                      have p122 : 0 ≤ ((ji54) : Int) := of_decide_eq_true (by first | (with_reducible assumption) | assumption)
                                                      have q122 : (ji54) < (l1.length : Int) := of_decide_eq_true (by first | (with_reducible assumption) | assumption)
                                                      obtain ⟨ad122, e122, hx122_0⟩ := Kd.at_int HR1.out (ji54) p122 q122
                                                      obtain rfl : ad121 = ad122 := (by injection e122)
                                                      replace p122 := eq_true p122
                                                      replace q122 := eq_true q122
                                                      go_wp2
                                                      repeat (go_quiet (fail); try go_wp2)
                                                      go_ret
                                                      exact ⟨by first | rfl | (simp; done) | (simp only [← hji54] <;> (first | rfl | simp)) | (simp [*]; done), by repeat (first | exact Drawn0.refl _ | apply Drawn0.step)⟩
                                                    · rw [if_neg c57] at H
                                                      have c57b0 : decide ((rd l1 (ji54)) < 0) = false := decide_eq_false c57
                                                      clear c57
                                                      by_cases c58 : a0 = 15
                                                      · rw [if_pos c58] at H
                                                        have c58b0 : (a0 == 15) = true := beq_iff_eq.mpr c58
                                                        have c58b1 : (a0 != 15) = false := bne_eq_false_iff_eq.mpr c58
                                                        clear c58
                                                        by_cases c59 : (rd l1 (ji54)) ≤ (rd l1 x9_6)
                                                        · rw [if_pos c59] at H
                                                          have c59b0 : decide ((rd l1 (ji54)) ≤ (rd l1 x9_6)) = true := decide_eq_true c59
                                                          clear c59
                                                          obtain rfl := Option.some.inj H
                                                          have p121 : 0 ≤ (x9_6 : Int) := of_decide_eq_true (by first | (with_reducible assumption) | assumption)
                                                          have q121 : x9_6 < (l1.length : Int) := of_decide_eq_true (by first | (with_reducible assumption) | assumption)
                                                          obtain ⟨ad121, e121, hx121_0⟩ := Kd.at_int HR1.out x9_6 p121 q121
                                                          cases e121
                                                          replace p121 := eq_true p121
                                                          replace q121 := eq_true q121
                                                          have p122 : 0 ≤ ((ji54) : Int) := of_decide_eq_true (by first | (with_reducible assumption) | assumption)
                                                          have q122 : (ji54) < (l1.length : Int) := of_decide_eq_true (by first | (with_reducible assumption) | assumption)
                                                          obtain ⟨ad122, e122, hx122_0⟩ := Kd.at_int HR1.out (ji54) p122 q122
                                                          obtain rfl : ad121 = ad122 := (by injection e122)
                                                          replace p122 := eq_true p122
                                                          replace q122 := eq_true q122
                                                          have p123 : 0 ≤ ((ji54) : Int) := of_decide_eq_true (by first | (with_reducible assumption) | assumption)
                                                          have q123 : (ji54) < (l1.length : Int) := of_decide_eq_true (by first | (with_reducible assumption) | assumption)
                                                          obtain ⟨ad123, e123, hx123_0⟩ := Kd.at_int HR1.out (ji54) p123 q123
                                                          obtain rfl : ad121 = ad123 := (by injection e123)
                                                          replace p123 := eq_true p123
                                                          replace q123 := eq_true q123
                                                          have p124 : 0 ≤ (x9_6 : Int) := of_decide_eq_true (by first | (with_reducible assumption) | assumption)
                                                          have q124 : x9_6 < (l1.length : Int) := of_decide_eq_true (by first | (with_reducible assumption) | assumption)
                                                          obtain ⟨ad124, e124, hx124_0⟩ := Kd.at_int HR1.out x9_6 p124 q124
                                                          obtain rfl : ad121 = ad124 := (by injection e124)
                                                          replace p124 := eq_true p124
                                                          replace q124 := eq_true q124
                                                          go_wp2
                                                          repeat (go_quiet (fail); try go_wp2)
                                                          go_ret
                                                          exact ⟨by first | rfl | (simp; done) | (simp only [← hji54] <;> (first | rfl | simp)) | (simp [*]; done), by repeat (first | exact Drawn0.refl _ | apply Drawn0.step)⟩
                                                        · rw [if_neg c59] at H
                                                          have c59b0 : decide ((rd l1 (ji54)) ≤ (rd l1 x9_6)) = false := decide_eq_false c59
                                                          clear c59
                                                          have H' := Aside0.mk H
                                                          clear H
                                                          have p121 : 0 ≤ (x9_6 : Int) := of_decide_eq_true (by first | (with_reducible assumption) | assumption)
                                                          have q121 : x9_6 < (l1.length : Int) := of_decide_eq_true (by first | (with_reducible assumption) | assumption)
                                                          obtain ⟨ad121, e121, hx121_0⟩ := Kd.at_int HR1.out x9_6 p121 q121
                                                          cases e121
                                                          replace p121 := eq_true p121
                                                          replace q121 := eq_true q121
                                                          have p122 : 0 ≤ ((ji54) : Int) := of_decide_eq_true (by first | (with_reducible assumption) | assumption)
                                                          have q122 : (ji54) < (l1.length : Int) := of_decide_eq_true (by first | (with_reducible assumption) | assumption)
                                                          obtain ⟨ad122, e122, hx122_0⟩ := Kd.at_int HR1.out (ji54) p122 q122
                                                          obtain rfl : ad121 = ad122 := (by injection e122)
                                                          replace p122 := eq_true p122
                                                          replace q122 := eq_true q122
                                                          have p123 : 0 ≤ ((ji54) : Int) := of_decide_eq_true (by first | (with_reducible assumption) | assumption)
                                                          have q123 : (ji54) < (l1.length : Int) := of_decide_eq_true (by first | (with_reducible assumption) | assumption)
                                                          obtain ⟨ad123, e123, hx123_0⟩ := Kd.at_int HR1.out (ji54) p123 q123
                                                          obtain rfl : ad121 = ad123 := (by injection e123)
                                                          replace p123 := eq_true p123
                                                          replace q123 := eq_true q123
                                                          have p124 : 0 ≤ (x9_6 : Int) := of_decide_eq_true (by first | (with_reducible assumption) | assumption)
                                                          have q124 : x9_6 < (l1.length : Int) := of_decide_eq_true (by first | (with_reducible assumption) | assumption)
                                                          obtain ⟨ad124, e124, hx124_0⟩ := Kd.at_int HR1.out x9_6 p124 q124
                                                          obtain rfl : ad121 = ad124 := (by injection e124)
                                                          replace p124 := eq_true p124
                                                          replace q124 := eq_true q124
                                                          go_wp2
                                                          repeat (go_quiet (fail); try go_wp2)
                                                          go_roundg k6
                                                          case measure => have := HK1.out; have := HJ28.out; have := HJ32.out; have := HJ44.out; have := HJ47.out; have := HK6.out; omega
                                                          case rel => exact ⟨(wrap64 (x9_6 + 2)), (by first | rfl | (simp; done) | (simp [*]; done)), H', ⟨by have := HK1.out; have := HJ28.out; have := HJ32.out; have := HJ44.out; have := HJ47.out; have := HK6.out; omega⟩, by repeat (first | exact Drawn0.refl _ | apply Drawn0.step)⟩
                                                      · rw [if_neg c58] at H
                                                        have c58b0 : (a0 == 15) = false := beq_eq_false_iff_ne.mpr c58
                                                        have c58b1 : (a0 != 15) = true := bne_iff_ne.mpr c58
                                                        have H' := Aside0.mk H
                                                        clear H
                                                        have p121 : 0 ≤ (x9_6 : Int) := of_decide_eq_true (by first | (with_reducible assumption) | assumption)
                                                        have q121 : x9_6 < (l1.length : Int) := of_decide_eq_true (by first | (with_reducible assumption) | assumption)
                                                        obtain ⟨ad121, e121, hx121_0⟩ := Kd.at_int HR1.out x9_6 p121 q121
                                                        cases e121
                                                        replace p121 := eq_true p121
                                                        replace q121 := eq_true q121
                                                        have p122 : 0 ≤ ((ji54) : Int) := of_decide_eq_true (by first | (with_reducible assumption) | assumption)
                                                        have q122 : (ji54) < (l1.length : Int) := of_decide_eq_true (by first | (with_reducible assumption) | assumption)
                                                        obtain ⟨ad122, e122, hx122_0⟩ := Kd.at_int HR1.out (ji54) p122 q122
                                                        obtain rfl : ad121 = ad122 := (by injection e122)
                                                        replace p122 := eq_true p122
                                                        replace q122 := eq_true q122
                                                        go_wp2
                                                        repeat (go_quiet (fail); try go_wp2)
                                                        go_roundg k6
                                                        case measure => have := HK1.out; have := HJ28.out; have := HJ32.out; have := HJ44.out; have := HJ47.out; have := HK6.out; omega
                                                        case rel => exact ⟨(wrap64 (x9_6 + 2)), (by first | rfl | (simp; done) | (simp [*]; done)), H', ⟨by have := HK1.out; have := HJ28.out; have := HJ32.out; have := HJ44.out; have := HJ47.out; have := HK6.out; omega⟩, by repeat (first | exact Drawn0.refl _ | apply Drawn0.step)⟩
                                                  · rw [if_neg c56] at H
                                                    exact absurd H (by simp)
                                                · rw [if_neg c55] at H
                                                  exact absurd H (by simp)
                                            · rw [if_neg c52] at H
                                              exact absurd H (by simp)
                                          · rw [if_neg c51] at H
                                            have c51b0 : decide (x9_6 < (l1.length : Int)) = false := decide_eq_false c51
                                            clear c51
                                            obtain rfl := Option.some.inj H
                                            go_wp2
                                            repeat (go_quiet (fail); try go_wp2)
                                            go_ret
                                            exact ⟨by first | rfl | (simp; done) | (simp [*]; done), by repeat (first | exact Drawn0.refl _ | apply Drawn0.step)⟩
                              · replace c47 := Bool.eq_false_iff.mpr c47
                                subst c47
                                have H1 : (if a0 = 17 then (if (l1.length : Int) = 1 then (if 0 < (l1.length : Int) then (if (rd l1 0) ≥ 0 then (some (decide ((rd l1 0) ≤ 3))) else (some false)) else (none)) else (some false)) else (some ((l1.length : Int) == 0))) = some r := by rw [if_neg (show ¬ (false = true) by decide)] at H; exact H
                                clear H
                                have H := H1
                                clear H1
                                by_cases c60 : a0 = 17
                                · rw [if_pos c60] at H
                                  have c60b0 : (a0 == 17) = true := beq_iff_eq.mpr c60
                                  have c60b1 : (a0 != 17) = false := bne_eq_false_iff_eq.mpr c60
                                  clear c60
                                  by_cases c61 : (l1.length : Int) = 1
                                  · rw [if_pos c61] at H
                                    have c61b0 : ((l1.length : Int) == 1) = true := beq_iff_eq.mpr c61
                                    have c61b1 : ((l1.length : Int) != 1) = false := bne_eq_false_iff_eq.mpr c61
                                    clear c61
                                    by_cases c62 : 0 < (l1.length : Int)
                                    · rw [if_pos c62] at H
                                      have c62b0 : decide (0 < (l1.length : Int)) = true := decide_eq_true c62
                                      have c62b1 : decide (0 < l1.length) = true := decide_eq_true (by omega)
                                      clear c62
                                      by_cases c63 : (rd l1 0) ≥ 0
                                      · rw [if_pos c63] at H
                                        have c63b0 : decide (0 ≤ (rd l1 0)) = true := decide_eq_true c63
                                        clear c63
                                        obtain rfl := Option.some.inj H
                                        have p125 : 0 ≤ (0 : Int) := (by omega)
                                        have q125 : 0 < (l1.length : Int) := of_decide_eq_true (by first | (with_reducible assumption) | assumption)
                                        obtain ⟨ad125, e125, hx125_0⟩ := Kd.at_int HR1.out 0 p125 q125
                                        cases e125
                                        have qi125 : (0 < l1.length) = True := eq_true (by omega)
                                        (try rw [show ((0 : Int)).toNat = 0 from rfl] at hx125_0)
                                        (try rw [Addr.add_zero'] at hx125_0)
                                        replace p125 := eq_true p125
                                        replace q125 := eq_true q125
                                        have p126 : 0 ≤ (0 : Int) := (by omega)
                                        have q126 : 0 < (l1.length : Int) := of_decide_eq_true (by first | (with_reducible assumption) | assumption)
                                        obtain ⟨ad126, e126, hx126_0⟩ := Kd.at_int HR1.out 0 p126 q126
                                        obtain rfl : ad125 = ad126 := (by injection e126)
                                        have qi126 : (0 < l1.length) = True := eq_true (by omega)
                                        (try rw [show ((0 : Int)).toNat = 0 from rfl] at hx126_0)
                                        (try rw [Addr.add_zero'] at hx126_0)
                                        replace p126 := eq_true p126
                                        replace q126 := eq_true q126
                                        go_wp2
                                        repeat (go_quiet (fail); try go_wp2)
                                        go_ret
                                        exact ⟨by first | rfl | (simp; done) | (simp [*]; done), by repeat (first | exact Drawn0.refl _ | apply Drawn0.step)⟩
                                      · rw [if_neg c63] at H
                                        have c63b0 : decide (0 ≤ (rd l1 0)) = false := decide_eq_false c63
                                        clear c63
                                        obtain rfl := Option.some.inj H
                                        have p125 : 0 ≤ (0 : Int) := (by omega)
                                        have q125 : 0 < (l1.length : Int) := of_decide_eq_true (by first | (with_reducible assumption) | assumption)
                                        obtain ⟨ad125, e125, hx125_0⟩ := Kd.at_int HR1.out 0 p125 q125
                                        cases e125
                                        have qi125 : (0 < l1.length) = True := eq_true (by omega)
                                        (try rw [show ((0 : Int)).toNat = 0 from rfl] at hx125_0)
                                        (try rw [Addr.add_zero'] at hx125_0)
                                        replace p125 := eq_true p125
                                        replace q125 := eq_true q125
                                        go_wp2
                                        repeat (go_quiet (fail); try go_wp2)
                                        go_ret
                                        exact ⟨by first | rfl | (simp; done) | (simp [*]; done), by repeat (first | exact Drawn0.refl _ | apply Drawn0.step)⟩
                                    · rw [if_neg c62] at H
                                      exact absurd H (by simp)
                                  · rw [if_neg c61] at H
                                    have c61b0 : ((l1.length : Int) == 1) = false := beq_eq_false_iff_ne.mpr c61
                                    have c61b1 : ((l1.length : Int) != 1) = true := bne_iff_ne.mpr c61
                                    obtain rfl := Option.some.inj H
                                    go_wp2
                                    repeat (go_quiet (fail); try go_wp2)
                                    go_ret
                                    exact ⟨by first | rfl | (simp; done) | (simp [*]; done), by repeat (first | exact Drawn0.refl _ | apply Drawn0.step)⟩
                                · rw [if_neg c60] at H
                                  have c60b0 : (a0 == 17) = false := beq_eq_false_iff_ne.mpr c60
                                  have c60b1 : (a0 != 17) = true := bne_iff_ne.mpr c60
                                  obtain rfl := Option.some.inj H
                                  go_wp2
                                  repeat (go_quiet (fail); try go_wp2)
                                  go_ret
                                  exact ⟨by first | rfl | (simp; done) | (simp [*]; done), by repeat (first | exact Drawn0.refl _ | apply Drawn0.step)⟩

end Go.Proofs.Ytbefcdidlfkmnaa.Print
