/- Written by a program of this session (wip/tools/myprint.py): Lean functions with the same answers as Go functions of the program, and proofs that the Go code comes to them; no condition beyond those written. -/
import Derived.Test.YtbefcdidlfkmnaaK0
namespace Go.Proofs.Ytbefcdidlfkmnaa.Print
open Go.RowKit Go.Proofs.YtbefcdidlfkmnaaW.PrintWords Go.Proofs.YtbefcdidlfkmnaaW.PrintLast Go.Proofs.YtbefcdidlfkmnaaW.PrintMore
attribute [local go_sem] max2_int min2_int max_two min_two max_three min_three max_four min_four   -- for this text's walks alone
set_option linter.unusedVariables false
set_option linter.unusedSimpArgs false

/-! ### fluxionref11_None: function 28 -/
def fluxionref11_None.j0 : Nat → Int → Int → Bool → Option (Bool)
  | 0, _, _, _ => none
  | k + 1, x0, x5, x6 => if x6 = true then (some (x0 == 1)) else (if x5 = 14 then (some (decide (x0 < 3))) else (if x5 = 20 then (some (decide (x0 < 3))) else (some false)))
def fluxionref11_None.f (k : Nat) (a0 : Int) (a1 : Int) : Option (Bool) := if a1 = 6 then (fluxionref11_None.j0 k a0 a1 (a1 == 6)) else (if a1 = 11 then (fluxionref11_None.j0 k a0 a1 (a1 == 11)) else (fluxionref11_None.j0 k a0 a1 (a1 == 17)))
theorem fluxionref11_None.mono_l : ∀ k, (∀ y0 y1 y2, LeO (fluxionref11_None.j0 k y0 y1 y2) (fluxionref11_None.j0 (k + 1) y0 y1 y2))
  | 0 => fun _ _ _ r h => by simp [fluxionref11_None.j0] at h
  | k + 1 => by
    have ih0 := fluxionref11_None.mono_l k
    · intro y0 y1 y2
      unfold fluxionref11_None.j0
      repeat' first
      | (with_reducible exact ih0 _ _ _)
      | (with_reducible exact LeO.refl _)
      | (with_reducible exact LeO.none _)
      | (with_reducible refine LeO.ite ?_ ?_)
      | (with_reducible refine LeO.bind ?_ (fun _ => ?_))
      | exact ih0 _ _ _
      | exact LeO.none _
      | refine LeO.ite ?_ ?_
      | refine LeO.bind ?_ (fun _ => ?_)
theorem fluxionref11_None.mono : ∀ a0 a1 k, LeO (fluxionref11_None.f k a0 a1) (fluxionref11_None.f (k + 1) a0 a1) := by
  intro a0 a1 k
  have ih0 := fluxionref11_None.mono_l k
  unfold fluxionref11_None.f
  repeat' first
      | (with_reducible exact ih0 _ _ _)
      | (with_reducible exact LeO.refl _)
      | (with_reducible exact LeO.none _)
      | (with_reducible refine LeO.ite ?_ ?_)
      | (with_reducible refine LeO.bind ?_ (fun _ => ?_))
      | exact ih0 _ _ _
      | exact LeO.none _
      | refine LeO.ite ?_ ?_
      | refine LeO.bind ?_ (fun _ => ?_)
set_option maxHeartbeats 8000000 in
set_option maxRecDepth 100000 in
theorem fluxionref11_None.calls (k : Nat) (a0 : Int) (a1 : Int) (r : Bool) (w : World) (h : fluxionref11_None.f k a0 a1 = some r) :
    Calls Try.prog 28 #[.int .i64 a0, .int .i64 a1] w fun e w' => e = .returned (.bool r) ∧ Drawn0 w w' := by
  have H : (if a1 = 6 then (fluxionref11_None.j0 k a0 a1 (a1 == 6)) else (if a1 = 11 then (fluxionref11_None.j0 k a0 a1 (a1 == 11)) else (fluxionref11_None.j0 k a0 a1 (a1 == 17)))) = some r := h
  clear h
  have HC3 := Aside0.mk H
  clear H
  go_enter Try.func28, Try.ntmps28
  go_upto_if 6 with (fail)
  go_cut [6] (fun v6 wc => ∃ (kq : Nat) (x6_2 : Bool), v6 = .bool x6_2 ∧ Aside0 (fluxionref11_None.j0 kq a0 a1 x6_2 = some r) ∧ Aside0 (kq ≤ k) ∧ Drawn0 w wc)
  case first =>
    have H := HC3.out
    clear HC3
    by_cases c4 : a1 = 6
    · rw [if_pos c4] at H
      have c4b0 : (a1 == 6) = true := beq_iff_eq.mpr c4
      have c4b1 : (a1 != 6) = false := bne_eq_false_iff_eq.mpr c4
      clear c4
      (first | rw [c4b0] | (simp only [i64_w, i32_w]; rw [c4b0]) | skip)
      have H' := Aside0.mk H
      clear H
      go_wp2
      go_meet
      case rel => exact ⟨_, ((a1 == 6)), (by first | rfl | (simp; done) | (simp [*]; done)), H', ⟨by first | omega | exact Nat.le_refl _⟩, by repeat (first | exact Drawn0.refl _ | apply Drawn0.step)⟩
    · rw [if_neg c4] at H
      have c4b0 : (a1 == 6) = false := beq_eq_false_iff_ne.mpr c4
      have c4b1 : (a1 != 6) = true := bne_iff_ne.mpr c4
      (first | rw [c4b0] | (simp only [i64_w, i32_w]; rw [c4b0]) | skip)
      by_cases c5 : a1 = 11
      · rw [if_pos c5] at H
        have c5b0 : (a1 == 11) = true := beq_iff_eq.mpr c5
        have c5b1 : (a1 != 11) = false := bne_eq_false_iff_eq.mpr c5
        clear c5
        have H' := Aside0.mk H
        clear H
        go_wp2
        go_meet
        case rel => exact ⟨_, ((a1 == 11)), (by first | rfl | (simp; done) | (simp [*]; done)), H', ⟨by first | omega | exact Nat.le_refl _⟩, by repeat (first | exact Drawn0.refl _ | apply Drawn0.step)⟩
      · rw [if_neg c5] at H
        have c5b0 : (a1 == 11) = false := beq_eq_false_iff_ne.mpr c5
        have c5b1 : (a1 != 11) = true := bne_iff_ne.mpr c5
        have H' := Aside0.mk H
        clear H
        go_wp2
        go_meet
        case rel => exact ⟨_, ((a1 == 17)), (by first | rfl | (simp; done) | (simp [*]; done)), H', ⟨by first | omega | exact Nat.le_refl _⟩, by repeat (first | exact Drawn0.refl _ | apply Drawn0.step)⟩
  case rest =>
    clear HC3
    try clear c2
    try clear p2
    try clear c4
    try clear c4b0
    try clear c4b1
    try clear c5
    try clear c5b0
    try clear c5b1
    obtain ⟨kq, x6_2, rfl, HA, HJ2, ⟨mc2, rfl⟩⟩ := hcut
    cases kq with
    | zero => exact absurd HA.out (by simp [fluxionref11_None.j0])
    | succ kj2 =>
      have H := HA.out
      clear HA
      simp only [fluxionref11_None.j0] at H
      by_cases c6 : x6_2 = true
      · subst c6
        have H1 : (some (a0 == 1)) = some r := by rw [if_pos rfl] at H; exact H
        clear H
        have H := H1
        clear H1
        obtain rfl := Option.some.inj H
        go_wp2
        go_ret
        exact ⟨by first | rfl | (simp; done) | (simp [*]; done), by repeat (first | exact Drawn0.refl _ | apply Drawn0.step)⟩
      · replace c6 := Bool.eq_false_iff.mpr c6
        subst c6
        have H1 : (if a1 = 14 then (some (decide (a0 < 3))) else (if a1 = 20 then (some (decide (a0 < 3))) else (some false))) = some r := by rw [if_neg (show ¬ (false = true) by decide)] at H; exact H
        clear H
        have H := H1
        clear H1
        by_cases c7 : a1 = 14
        · rw [if_pos c7] at H
          have c7b0 : (a1 == 14) = true := beq_iff_eq.mpr c7
          have c7b1 : (a1 != 14) = false := bne_eq_false_iff_eq.mpr c7
          clear c7
          obtain rfl := Option.some.inj H
          go_wp2
          go_ret
          exact ⟨by first | rfl | (simp; done) | (simp [*]; done), by repeat (first | exact Drawn0.refl _ | apply Drawn0.step)⟩
        · rw [if_neg c7] at H
          have c7b0 : (a1 == 14) = false := beq_eq_false_iff_ne.mpr c7
          have c7b1 : (a1 != 14) = true := bne_iff_ne.mpr c7
          by_cases c8 : a1 = 20
          · rw [if_pos c8] at H
            have c8b0 : (a1 == 20) = true := beq_iff_eq.mpr c8
            have c8b1 : (a1 != 20) = false := bne_eq_false_iff_eq.mpr c8
            clear c8
            obtain rfl := Option.some.inj H
            go_wp2
            go_ret
            exact ⟨by first | rfl | (simp; done) | (simp [*]; done), by repeat (first | exact Drawn0.refl _ | apply Drawn0.step)⟩
          · rw [if_neg c8] at H
            have c8b0 : (a1 == 20) = false := beq_eq_false_iff_ne.mpr c8
            have c8b1 : (a1 != 20) = true := bne_iff_ne.mpr c8
            obtain rfl := Option.some.inj H
            go_wp2
            go_ret
            exact ⟨by first | rfl | (simp; done) | (simp [*]; done), by repeat (first | exact Drawn0.refl _ | apply Drawn0.step)⟩

end Go.Proofs.Ytbefcdidlfkmnaa.Print
