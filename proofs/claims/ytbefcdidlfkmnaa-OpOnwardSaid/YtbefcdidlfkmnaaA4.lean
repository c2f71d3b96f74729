/- Written by a program of this session (wip/tools/myprint.py): Lean functions with the same answers as Go functions of the program, and proofs that the Go code comes to them; no condition beyond those written. -/
import Derived.Test.YtbefcdidlfkmnaaK0
namespace Go.Proofs.Ytbefcdidlfkmnaa.Print
open Go.RowKit Go.Proofs.YtbefcdidlfkmnaaW.PrintWords Go.Proofs.YtbefcdidlfkmnaaW.PrintLast Go.Proofs.YtbefcdidlfkmnaaW.PrintMore
attribute [local go_sem] max2_int min2_int max_two min_two max_three min_three max_four min_four   -- for this text's walks alone
set_option linter.unusedVariables false
set_option linter.unusedSimpArgs false

/-! ### fluxionref11_divisor: function 38 -/
mutual
def fluxionref11_divisor.j0 : Nat → Int → Int → Option (Bool)
  | 0, _, _ => none
  | k + 1, x0, x1 => fluxionref11_divisor.l0 k x0 x1
def fluxionref11_divisor.l0 : Nat → Int → Int → Option (Bool)
  | 0, _, _ => none
  | k + 1, x0, x1 => if x1 > 0 then (if x1 = 0 then (none) else (fluxionref11_divisor.l0 k x1 (Int.tmod x0 x1))) else (some (x0 != 1))
end
def fluxionref11_divisor.f (k : Nat) (a0 : Int) (a1 : Int) : Option (Bool) := if a0 < 0 then (fluxionref11_divisor.j0 k (wrap64 (-a0)) a1) else (fluxionref11_divisor.j0 k a0 a1)
theorem fluxionref11_divisor.mono_l : ∀ k, (∀ y0 y1, LeO (fluxionref11_divisor.j0 k y0 y1) (fluxionref11_divisor.j0 (k + 1) y0 y1)) ∧ (∀ y0 y1, LeO (fluxionref11_divisor.l0 k y0 y1) (fluxionref11_divisor.l0 (k + 1) y0 y1))
  | 0 => ⟨fun _ _ r h => by simp [fluxionref11_divisor.j0] at h, fun _ _ r h => by simp [fluxionref11_divisor.l0] at h⟩
  | k + 1 => by
    obtain ⟨ih0, ih1⟩ := fluxionref11_divisor.mono_l k
    refine ⟨?_, ?_⟩
    · intro y0 y1
      unfold fluxionref11_divisor.j0
      repeat' first
      | (with_reducible exact ih0 _ _)
      | (with_reducible exact ih1 _ _)
      | (with_reducible exact LeO.refl _)
      | (with_reducible exact LeO.none _)
      | (with_reducible refine LeO.ite ?_ ?_)
      | (with_reducible refine LeO.bind ?_ (fun _ => ?_))
      | exact ih0 _ _
      | exact ih1 _ _
      | exact LeO.none _
      | refine LeO.ite ?_ ?_
      | refine LeO.bind ?_ (fun _ => ?_)
    · intro y0 y1
      unfold fluxionref11_divisor.l0
      repeat' first
      | (with_reducible exact ih0 _ _)
      | (with_reducible exact ih1 _ _)
      | (with_reducible exact LeO.refl _)
      | (with_reducible exact LeO.none _)
      | (with_reducible refine LeO.ite ?_ ?_)
      | (with_reducible refine LeO.bind ?_ (fun _ => ?_))
      | exact ih0 _ _
      | exact ih1 _ _
      | exact LeO.none _
      | refine LeO.ite ?_ ?_
      | refine LeO.bind ?_ (fun _ => ?_)
theorem fluxionref11_divisor.mono : ∀ a0 a1 k, LeO (fluxionref11_divisor.f k a0 a1) (fluxionref11_divisor.f (k + 1) a0 a1) := by
  intro a0 a1 k
  obtain ⟨ih0, ih1⟩ := fluxionref11_divisor.mono_l k
  unfold fluxionref11_divisor.f
  repeat' first
      | (with_reducible exact ih0 _ _)
      | (with_reducible exact ih1 _ _)
      | (with_reducible exact LeO.refl _)
      | (with_reducible exact LeO.none _)
      | (with_reducible refine LeO.ite ?_ ?_)
      | (with_reducible refine LeO.bind ?_ (fun _ => ?_))
      | exact ih0 _ _
      | exact ih1 _ _
      | exact LeO.none _
      | refine LeO.ite ?_ ?_
      | refine LeO.bind ?_ (fun _ => ?_)
set_option maxHeartbeats 8000000 in
set_option maxRecDepth 100000 in
theorem fluxionref11_divisor.calls (k : Nat) (a0 : Int) (a1 : Int) (r : Bool) (w : World) (h : fluxionref11_divisor.f k a0 a1 = some r) :
    Calls Try.prog 38 #[.int .i64 a0, .int .i64 a1] w fun e w' => e = .returned (.bool r) ∧ Drawn0 w w' := by
  have H : (if a0 < 0 then (fluxionref11_divisor.j0 k (wrap64 (-a0)) a1) else (fluxionref11_divisor.j0 k a0 a1)) = some r := h
  clear h
  have HC3 := Aside0.mk H
  clear H
  go_enter Try.func38, Try.ntmps38
  go_upto_if 6 with (fail)
  repeat (go_quiet (fail); go_upto_if 6 with (fail))
  go_cut [0] (fun v0 wc => ∃ (kq : Nat) (x0_2 : Int), v0 = .int .i64 x0_2 ∧ Aside0 (fluxionref11_divisor.j0 kq x0_2 a1 = some r) ∧ Aside0 (kq ≤ k) ∧ Drawn0 w wc)
  case first =>
    have H := HC3.out
    clear HC3
    by_cases c4 : a0 < 0
    · rw [if_pos c4] at H
      have c4b0 : decide (a0 < 0) = true := decide_eq_true c4
      clear c4
      (first | rw [c4b0] | (simp only [i64_w, i32_w]; rw [c4b0]) | skip)
      have H' := Aside0.mk H
      clear H
      go_wp2
      repeat (go_quiet (fail); try go_wp2)
      go_meet
      case rel => exact ⟨_, (wrap64 (-a0)), (by first | rfl | (simp; done) | (simp [*]; done)), H', ⟨by first | omega | exact Nat.le_refl _⟩, by repeat (first | exact Drawn0.refl _ | apply Drawn0.step)⟩
    · rw [if_neg c4] at H
      have c4b0 : decide (a0 < 0) = false := decide_eq_false c4
      clear c4
      (first | rw [c4b0] | (simp only [i64_w, i32_w]; rw [c4b0]) | skip)
      have H' := Aside0.mk H
      clear H
      go_wp2
      repeat (go_quiet (fail); try go_wp2)
      go_meet
      case rel => exact ⟨_, (a0), (by first | rfl | (simp; done) | (simp [*]; done)), H', ⟨by first | omega | exact Nat.le_refl _⟩, by repeat (first | exact Drawn0.refl _ | apply Drawn0.step)⟩
  case rest =>
    clear HC3
    try clear p2
    try clear c3
    try clear c4
    try clear c4b0
    obtain ⟨kq, x0_2, rfl, HA, HJ2, ⟨mc2, rfl⟩⟩ := hcut
    cases kq with
    | zero => exact absurd HA.out (by simp [fluxionref11_divisor.j0])
    | succ kj2 =>
      have H := HA.out
      clear HA
      simp only [fluxionref11_divisor.j0] at H
      have H' := Aside0.mk H
      clear H
      go_wp2
      repeat (go_quiet (fail); try go_wp2)
      go_loopg [0, 1] kj2 (fun kq v0 v1 w' => ∃ (x0_2 : Int) (x1_2 : Int), v0 = .int .i64 x0_2 ∧ v1 = .int .i64 x1_2 ∧ Aside0 (fluxionref11_divisor.l0 kq x0_2 x1_2 = some r) ∧ Aside0 (kq ≤ kj2) ∧ Drawn0 w w')
      case atStart => exact ⟨(x0_2), (a1), (by first | rfl | (simp; done) | (simp [*]; done)), (by first | rfl | (simp; done) | (simp [*]; done)), H', ⟨Nat.le_refl _⟩, by repeat (first | exact Drawn0.refl _ | apply Drawn0.step)⟩
      case round =>
        clear H'
        try clear c2
        try clear p2
        try clear c3
        try clear c4
        try clear c4b0
        try clear p2
        obtain ⟨x0_2, x1_2, rfl, rfl, HA, HK2, ⟨m2, rfl⟩⟩ := hrel
        cases gk with
        | zero => exact absurd HA.out (by simp [fluxionref11_divisor.l0])
        | succ k2 =>
          have H := HA.out
          clear HA
          simp only [fluxionref11_divisor.l0] at H
          by_cases c5 : x1_2 > 0
          · rw [if_pos c5] at H
            have c5b0 : decide (0 < x1_2) = true := decide_eq_true c5
            clear c5
            by_cases c6 : x1_2 = 0
            · rw [if_pos c6] at H
              exact absurd H (by simp)
            · rw [if_neg c6] at H
              have c6b0 : (x1_2 == 0) = false := beq_eq_false_iff_ne.mpr c6
              have c6b1 : (x1_2 != 0) = true := bne_iff_ne.mpr c6
              have H' := Aside0.mk H
              clear H
              go_wp2
              repeat (go_quiet (fail); try go_wp2)
              go_roundg k2
              case measure => have := HJ2.out; have := HK2.out; omega
              case rel => exact ⟨(x1_2), (Int.tmod x0_2 x1_2), (by first | rfl | (simp; done) | (simp [*]; done)), (by first | rfl | (simp; done) | (simp [*]; done)), H', ⟨by have := HJ2.out; have := HK2.out; omega⟩, by repeat (first | exact Drawn0.refl _ | apply Drawn0.step)⟩
          · rw [if_neg c5] at H
            have c5b0 : decide (0 < x1_2) = false := decide_eq_false c5
            clear c5
            obtain rfl := Option.some.inj H
            go_wp2
            repeat (go_quiet (fail); try go_wp2)
            go_ret
            exact ⟨by first | rfl | (simp; done) | (simp [*]; done), by repeat (first | exact Drawn0.refl _ | apply Drawn0.step)⟩

end Go.Proofs.Ytbefcdidlfkmnaa.Print
