/- Written by a program of this session (wip/tools/myprint.py): Lean functions with the same answers as Go functions of the program, and proofs that the Go code comes to them; no condition beyond those written. -/
import Derived.Test.YtnafcffecneebaaDoorK0
import Derived.Test.YtnafcffecneebaaDoorA8
import Derived.Test.YtnafcffecneebaaDoorB3
import Derived.Test.YtnafcffecneebaaDoorB4
import Derived.Test.YtnafcffecneebaaDoorB5
import Derived.Test.YtnafcffecneebaaDoorHNum
namespace Go.Proofs.YtnafcffecneebaaDoor.Print
open Go.RowKit Go.Proofs.YtnafcffecneebaaDoorW.PrintWords Go.Proofs.YtnafcffecneebaaDoorW.PrintLast Go.Proofs.YtnafcffecneebaaDoorW.PrintMore
attribute [local go_sem] max2_int min2_int max_two min_two max_three min_three max_four min_four   -- for this text's walks alone
set_option linter.unusedVariables false
set_option linter.unusedSimpArgs false

/-! ### fluxionlaw16_LexWords: function 6 -/
mutual
def fluxionlaw16_LexWords.j0 : Nat → Int → ByteArray → Bool → Option (Bool)
  | 0, _, _, _ => none
  | k + 1, x0, x3, x20 => if x20 = true then (some false) else ((lex_Int.f k x3).bind fun bt104 => ((lex_RefText.f x0).bind fun t106 => ((lex_Ref.f t106).bind fun bt107 => (if x0 > 2147483647 then (fluxionlaw16_LexWords.j1 k x0 bt104.1 bt104.2 bt107.1 bt107.2 true) else (fluxionlaw16_LexWords.j1 k x0 bt104.1 bt104.2 bt107.1 bt107.2 (decide (x0 < (-2147483647))))))))
def fluxionlaw16_LexWords.j1 : Nat → Int → Int → Int → Int → Int → Bool → Option (Bool)
  | 0, _, _, _, _, _, _ => none
  | k + 1, x0, x4, x5, x6, x7, x37 => if x37 = true then (if x5 = 14 then (if x4 = 0 then (if x6 = 0 then (if x0 > 0 then (if x7 = 14 then ((fluxionlaw16_known.f k).bind fun t109 => (some t109)) else (if x0 < 0 then (if x7 = 19 then ((fluxionlaw16_known.f k).bind fun t110 => (some t110)) else (some false)) else (some false))) else (if x0 < 0 then (if x7 = 19 then ((fluxionlaw16_known.f k).bind fun t111 => (some t111)) else (some false)) else (some false))) else (some false)) else (some false)) else (some false)) else (if x5 = 0 then (fluxionlaw16_LexWords.j2 k x0 x6 x7 (x4 != x0)) else (fluxionlaw16_LexWords.j2 k x0 x6 x7 true))
def fluxionlaw16_LexWords.j2 : Nat → Int → Int → Int → Bool → Option (Bool)
  | 0, _, _, _, _ => none
  | k + 1, x0, x6, x7, x73 => if x73 = true then (some false) else (if x0 < 0 then (if x7 = 19 then (if x6 = 0 then ((fluxionlaw16_known.f k).bind fun t112 => (some t112)) else (some false)) else (some false)) else (if x7 = 0 then (if x6 = x0 then ((fluxionlaw16_known.f k).bind fun t113 => (some t113)) else (some false)) else (some false)))
end
def fluxionlaw16_LexWords.f (k : Nat) (a0 : Int) : Option (Bool) := (lex_Num.f a0).bind fun t101 => ((fluxionref16_Num.f k a0).bind fun t102 => (if t101.toList = t102.toList then ((lex_RefText.f a0).bind fun t103 => (if 1 + t101.size ≤ 9223372036854775807 then (fluxionlaw16_LexWords.j0 k a0 t101 (t103.toList != ((⟨#[37]⟩ : ByteArray) ++ t101).toList)) else (none))) else (fluxionlaw16_LexWords.j0 k a0 t101 true)))
theorem fluxionlaw16_LexWords.mono_l : ∀ k, (∀ y0 y1 y2, LeO (fluxionlaw16_LexWords.j0 k y0 y1 y2) (fluxionlaw16_LexWords.j0 (k + 1) y0 y1 y2)) ∧ (∀ y0 y1 y2 y3 y4 y5, LeO (fluxionlaw16_LexWords.j1 k y0 y1 y2 y3 y4 y5) (fluxionlaw16_LexWords.j1 (k + 1) y0 y1 y2 y3 y4 y5)) ∧ (∀ y0 y1 y2 y3, LeO (fluxionlaw16_LexWords.j2 k y0 y1 y2 y3) (fluxionlaw16_LexWords.j2 (k + 1) y0 y1 y2 y3))
  | 0 => ⟨fun _ _ _ r h => by simp [fluxionlaw16_LexWords.j0] at h, fun _ _ _ _ _ _ r h => by simp [fluxionlaw16_LexWords.j1] at h, fun _ _ _ _ r h => by simp [fluxionlaw16_LexWords.j2] at h⟩
  | k + 1 => by
    obtain ⟨ih0, ih1, ih2⟩ := fluxionlaw16_LexWords.mono_l k
    refine ⟨?_, ?_, ?_⟩
    · intro y0 y1 y2
      unfold fluxionlaw16_LexWords.j0
      repeat' first
      | (with_reducible exact ih0 _ _ _)
      | (with_reducible exact ih1 _ _ _ _ _ _)
      | (with_reducible exact ih2 _ _ _ _)
      | (with_reducible exact fluxionlaw16_known.mono _)
      | (with_reducible exact fluxionref16_Num.mono _ _)
      | (with_reducible exact lex_Int.mono _ _)
      | (with_reducible exact LeO.refl _)
      | (with_reducible exact LeO.none _)
      | (with_reducible refine LeO.ite ?_ ?_)
      | (with_reducible refine LeO.bind ?_ (fun _ => ?_))
      | exact ih0 _ _ _
      | exact ih1 _ _ _ _ _ _
      | exact ih2 _ _ _ _
      | exact fluxionlaw16_known.mono _
      | exact fluxionref16_Num.mono _ _
      | exact lex_Int.mono _ _
      | exact LeO.none _
      | refine LeO.ite ?_ ?_
      | refine LeO.bind ?_ (fun _ => ?_)
    · intro y0 y1 y2 y3 y4 y5
      unfold fluxionlaw16_LexWords.j1
      repeat' first
      | (with_reducible exact ih0 _ _ _)
      | (with_reducible exact ih1 _ _ _ _ _ _)
      | (with_reducible exact ih2 _ _ _ _)
      | (with_reducible exact fluxionlaw16_known.mono _)
      | (with_reducible exact fluxionref16_Num.mono _ _)
      | (with_reducible exact lex_Int.mono _ _)
      | (with_reducible exact LeO.refl _)
      | (with_reducible exact LeO.none _)
      | (with_reducible refine LeO.ite ?_ ?_)
      | (with_reducible refine LeO.bind ?_ (fun _ => ?_))
      | exact ih0 _ _ _
      | exact ih1 _ _ _ _ _ _
      | exact ih2 _ _ _ _
      | exact fluxionlaw16_known.mono _
      | exact fluxionref16_Num.mono _ _
      | exact lex_Int.mono _ _
      | exact LeO.none _
      | refine LeO.ite ?_ ?_
      | refine LeO.bind ?_ (fun _ => ?_)
    · intro y0 y1 y2 y3
      unfold fluxionlaw16_LexWords.j2
      repeat' first
      | (with_reducible exact ih0 _ _ _)
      | (with_reducible exact ih1 _ _ _ _ _ _)
      | (with_reducible exact ih2 _ _ _ _)
      | (with_reducible exact fluxionlaw16_known.mono _)
      | (with_reducible exact fluxionref16_Num.mono _ _)
      | (with_reducible exact lex_Int.mono _ _)
      | (with_reducible exact LeO.refl _)
      | (with_reducible exact LeO.none _)
      | (with_reducible refine LeO.ite ?_ ?_)
      | (with_reducible refine LeO.bind ?_ (fun _ => ?_))
      | exact ih0 _ _ _
      | exact ih1 _ _ _ _ _ _
      | exact ih2 _ _ _ _
      | exact fluxionlaw16_known.mono _
      | exact fluxionref16_Num.mono _ _
      | exact lex_Int.mono _ _
      | exact LeO.none _
      | refine LeO.ite ?_ ?_
      | refine LeO.bind ?_ (fun _ => ?_)
theorem fluxionlaw16_LexWords.mono : ∀ a0 k, LeO (fluxionlaw16_LexWords.f k a0) (fluxionlaw16_LexWords.f (k + 1) a0) := by
  intro a0 k
  obtain ⟨ih0, ih1, ih2⟩ := fluxionlaw16_LexWords.mono_l k
  unfold fluxionlaw16_LexWords.f
  repeat' first
      | (with_reducible exact ih0 _ _ _)
      | (with_reducible exact ih1 _ _ _ _ _ _)
      | (with_reducible exact ih2 _ _ _ _)
      | (with_reducible exact fluxionlaw16_known.mono _)
      | (with_reducible exact fluxionref16_Num.mono _ _)
      | (with_reducible exact lex_Int.mono _ _)
      | (with_reducible exact LeO.refl _)
      | (with_reducible exact LeO.none _)
      | (with_reducible refine LeO.ite ?_ ?_)
      | (with_reducible refine LeO.bind ?_ (fun _ => ?_))
      | exact ih0 _ _ _
      | exact ih1 _ _ _ _ _ _
      | exact ih2 _ _ _ _
      | exact fluxionlaw16_known.mono _
      | exact fluxionref16_Num.mono _ _
      | exact lex_Int.mono _ _
      | exact LeO.none _
      | refine LeO.ite ?_ ?_
      | refine LeO.bind ?_ (fun _ => ?_)
set_option maxHeartbeats 8000000 in
set_option maxRecDepth 100000 in
theorem fluxionlaw16_LexWords.calls (k : Nat) (a0 : Int) (r : Bool) (w : World) (ht : PowTab w) (h : fluxionlaw16_LexWords.f k a0 = some r) :
    Calls Tryd.prog 6 #[.int .i64 a0] w fun e w' => e = .returned (.bool r) ∧ Below w.heap.size w w' := by
  have HT := Aside0.mk ht
  clear ht
  have HB := Aside0.mk (Below.refl w.heap.size w)
  have H : ((lex_Num.f a0).bind fun t101 => ((fluxionref16_Num.f k a0).bind fun t102 => (if t101.toList = t102.toList then ((lex_RefText.f a0).bind fun t103 => (if 1 + t101.size ≤ 9223372036854775807 then (fluxionlaw16_LexWords.j0 k a0 t101 (t103.toList != ((⟨#[37]⟩ : ByteArray) ++ t101).toList)) else (none))) else (fluxionlaw16_LexWords.j0 k a0 t101 true)))) = some r := h
  clear h
  replace H := Option.bind_eq_some_iff.mp H
  obtain ⟨t101, A20, H⟩ := H
  replace H : ((fluxionref16_Num.f k a0).bind fun t102 => (if t101.toList = t102.toList then ((lex_RefText.f a0).bind fun t103 => (if 1 + t101.size ≤ 9223372036854775807 then (fluxionlaw16_LexWords.j0 k a0 t101 (t103.toList != ((⟨#[37]⟩ : ByteArray) ++ t101).toList)) else (none))) else (fluxionlaw16_LexWords.j0 k a0 t101 true))) = some r := H
  have A2 := Aside0.mk A20
  clear A20
  have HC3 := Aside0.mk H
  clear H
  go_enter Tryd.func6, Tryd.ntmps6
  go_upto_region 2 with (first | ((with_reducible refine gate_callee (f := 19) rfl ?_); refine goesL_ (some 9) rfl rfl Tryd.func19 (by kernel_rfl) rfl #[.int .i64 a0] rfl (by (try simp only [List.map_toArray, List.map_cons, List.map_nil]); first | done | rfl | (simp only [List.length_drop, List.length_take]; rfl)) ?_; (with_reducible refine (lex_Num.calls a0 t101 _ (PowTab.below HT.out (by repeat (first | (with_reducible first | exact HB.out | apply below_alloc | apply pw_below_drewN | apply below_drew1) | exact HB.out))) A2.out).mono ?_); rintro e w4 ⟨rfl, hb⟩; refine ⟨_, rfl, ?_⟩; have n0_ := Aside0.mk (below_step (by repeat (first | (with_reducible first | exact HB.out | apply below_alloc | apply pw_below_drewN | apply below_drew1) | exact HB.out)) hb); clear HB; have HB := n0_; clear n0_; (try clear hb); (try clear hb2); (try clear hk); (try clear hi)))
  (try simp only [Act.put, List.setIfInBounds_toArray, List.set_cons_zero, List.set_cons_succ])
  go_cut [20] (fun v20 wc => ∃ (kq : Nat) (x20_2 : Bool), v20 = .bool x20_2 ∧ Aside0 (fluxionlaw16_LexWords.j0 kq a0 t101 x20_2 = some r) ∧ Aside0 (kq ≤ k) ∧ Aside0 (Below w.heap.size w wc))
  case first =>
    have H := HC3.out
    clear HC3
    replace H := Option.bind_eq_some_iff.mp H
    obtain ⟨t102, A50, H⟩ := H
    replace H : (if t101.toList = t102.toList then ((lex_RefText.f a0).bind fun t103 => (if 1 + t101.size ≤ 9223372036854775807 then (fluxionlaw16_LexWords.j0 k a0 t101 (t103.toList != ((⟨#[37]⟩ : ByteArray) ++ t101).toList)) else (none))) else (fluxionlaw16_LexWords.j0 k a0 t101 true)) = some r := H
    have A5 := Aside0.mk A50
    clear A50
    by_cases c6 : t101.toList = t102.toList
    · rw [if_pos c6] at H
      have c6b0 : (t101.toList == t102.toList) = true := beq_iff_eq.mpr c6
      have c6b1 : (t101.toList != t102.toList) = false := bne_eq_false_iff_eq.mpr c6
      clear c6
      (first | rw [c6b0] | (simp only [i64_w, i32_w]; rw [c6b0]) | skip)
      replace H := Option.bind_eq_some_iff.mp H
      obtain ⟨t103, A70, H⟩ := H
      replace H : (if 1 + t101.size ≤ 9223372036854775807 then (fluxionlaw16_LexWords.j0 k a0 t101 (t103.toList != ((⟨#[37]⟩ : ByteArray) ++ t101).toList)) else (none)) = some r := H
      have A7 := Aside0.mk A70
      clear A70
      by_cases c8 : 1 + t101.size ≤ 9223372036854775807
      · rw [if_pos c8] at H
        have c8b0 := eq_true c8
        have c8b1 : decide (1 + t101.size ≤ 9223372036854775807) = true := decide_eq_true c8
        try have c8b2 : (9223372036854775807 < 1 + t101.size) = False := eq_false (Nat.not_lt.2 c8)
        have H' := Aside0.mk H
        clear H
        go_wp2_with (first | ((with_reducible refine gate_callee (f := 20) rfl ?_); refine goesL_ (some 12) rfl rfl Tryd.func20 (by kernel_rfl) rfl #[.int .i64 a0] rfl (by (try simp only [List.map_toArray, List.map_cons, List.map_nil]); first | done | rfl | (simp only [List.length_drop, List.length_take]; rfl)) ?_; (with_reducible refine (fluxionref16_Num.calls k a0 t102 _ A5.out).mono ?_); rintro e w' ⟨rfl, ⟨nd, rfl⟩⟩; refine ⟨_, rfl, ?_⟩) | (go_at_call 21; (with_reducible refine (lex_RefText.calls a0 t103 _ (PowTab.below HT.out (by repeat (first | (with_reducible first | exact HB.out | apply below_alloc | apply pw_below_drewN | apply below_drew1) | exact HB.out))) A7.out).mono ?_); rintro e w9 ⟨rfl, hb⟩; have n0_ := Aside0.mk (below_step (by repeat (first | (with_reducible first | exact HB.out | apply below_alloc | apply pw_below_drewN | apply below_drew1) | exact HB.out)) hb); clear HB; have HB := n0_; clear n0_; (try clear hb); (try clear hb2); (try clear hk); (try clear hi)))
        go_meet
        case rel => exact ⟨_, ((t103.toList != ((⟨#[37]⟩ : ByteArray) ++ t101).toList)), (by first | rfl | (simp; done) | (simp [*]; done)), H', ⟨by first | omega | exact Nat.le_refl _⟩, ⟨by repeat (first | (with_reducible first | exact HB.out | apply below_alloc | apply pw_below_drewN | apply below_drew1) | exact HB.out)⟩⟩
      · rw [if_neg c8] at H
        exact absurd H (by simp)
    · rw [if_neg c6] at H
      have c6b0 : (t101.toList == t102.toList) = false := beq_eq_false_iff_ne.mpr c6
      have c6b1 : (t101.toList != t102.toList) = true := bne_iff_ne.mpr c6
      (first | rw [c6b0] | (simp only [i64_w, i32_w]; rw [c6b0]) | skip)
      have H' := Aside0.mk H
      clear H
      go_wp2_with (first | ((with_reducible refine gate_callee (f := 20) rfl ?_); refine goesL_ (some 12) rfl rfl Tryd.func20 (by kernel_rfl) rfl #[.int .i64 a0] rfl (by (try simp only [List.map_toArray, List.map_cons, List.map_nil]); first | done | rfl | (simp only [List.length_drop, List.length_take]; rfl)) ?_; (with_reducible refine (fluxionref16_Num.calls k a0 t102 _ A5.out).mono ?_); rintro e w' ⟨rfl, ⟨nd, rfl⟩⟩; refine ⟨_, rfl, ?_⟩))
      go_meet
      case rel => exact ⟨_, (true), (by first | rfl | (simp; done) | (simp [*]; done)), H', ⟨by first | omega | exact Nat.le_refl _⟩, ⟨by repeat (first | (with_reducible first | exact HB.out | apply below_alloc | apply pw_below_drewN | apply below_drew1) | exact HB.out)⟩⟩
  case rest =>
    clear HC3
    try clear c1
    try clear c2
    try clear p2
    try clear c6
    try clear c6b0
    try clear c6b1
    try clear c8
    try clear c8b0
    try clear c8b1
    try clear c8b2
    obtain ⟨kq, x20_2, rfl, HA, HJ2, HB⟩ := hcut
    cases kq with
    | zero => exact absurd HA.out (by simp [fluxionlaw16_LexWords.j0])
    | succ kj2 =>
      have H := HA.out
      clear HA
      simp only [fluxionlaw16_LexWords.j0] at H
      by_cases c10 : x20_2 = true
      · subst c10
        have H1 : (some false) = some r := by rw [if_pos rfl] at H; exact H
        clear H
        have H := H1
        clear H1
        obtain rfl := Option.some.inj H
        go_wp2
        go_ret
        exact ⟨by first | rfl | (simp [errW_none, errW_some] <;> rfl) | (simp [*, errW_none, errW_some] <;> rfl), by repeat (first | (with_reducible first | exact HB.out | apply below_alloc | apply pw_below_drewN | apply below_drew1) | exact HB.out)⟩
      · replace c10 := Bool.eq_false_iff.mpr c10
        subst c10
        have H1 : ((lex_Int.f kj2 t101).bind fun bt104 => ((lex_RefText.f a0).bind fun t106 => ((lex_Ref.f t106).bind fun bt107 => (if a0 > 2147483647 then (fluxionlaw16_LexWords.j1 kj2 a0 bt104.1 bt104.2 bt107.1 bt107.2 true) else (fluxionlaw16_LexWords.j1 kj2 a0 bt104.1 bt104.2 bt107.1 bt107.2 (decide (a0 < (-2147483647)))))))) = some r := by rw [if_neg (show ¬ (false = true) by decide)] at H; exact H
        clear H
        have H := H1
        clear H1
        replace H := Option.bind_eq_some_iff.mp H
        obtain ⟨⟨t104, t105⟩, A110, H⟩ := H
        replace H : ((lex_RefText.f a0).bind fun t106 => ((lex_Ref.f t106).bind fun bt107 => (if a0 > 2147483647 then (fluxionlaw16_LexWords.j1 kj2 a0 t104 t105 bt107.1 bt107.2 true) else (fluxionlaw16_LexWords.j1 kj2 a0 t104 t105 bt107.1 bt107.2 (decide (a0 < (-2147483647))))))) = some r := H
        have A11 := Aside0.mk A110
        clear A110
        replace H := Option.bind_eq_some_iff.mp H
        obtain ⟨t106, A120, H⟩ := H
        replace H : ((lex_Ref.f t106).bind fun bt107 => (if a0 > 2147483647 then (fluxionlaw16_LexWords.j1 kj2 a0 t104 t105 bt107.1 bt107.2 true) else (fluxionlaw16_LexWords.j1 kj2 a0 t104 t105 bt107.1 bt107.2 (decide (a0 < (-2147483647)))))) = some r := H
        have A12 := Aside0.mk A120
        clear A120
        replace H := Option.bind_eq_some_iff.mp H
        obtain ⟨⟨t107, t108⟩, A130, H⟩ := H
        replace H : (if a0 > 2147483647 then (fluxionlaw16_LexWords.j1 kj2 a0 t104 t105 t107 t108 true) else (fluxionlaw16_LexWords.j1 kj2 a0 t104 t105 t107 t108 (decide (a0 < (-2147483647))))) = some r := H
        have A13 := Aside0.mk A130
        clear A130
        have HC14 := Aside0.mk H
        clear H
        go_upto_region 6 with (first | ((with_reducible refine gate_callee (f := 22) rfl ?_); refine goesL_ (some 23) rfl rfl Tryd.func22 (by kernel_rfl) rfl #[.string t101] rfl (by (try simp only [List.map_toArray, List.map_cons, List.map_nil]); first | done | rfl | (simp only [List.length_drop, List.length_take]; rfl)) ?_; (with_reducible refine (lex_Int.calls kj2 t101 t104 t105 _ A11.out).mono ?_); rintro e w15 ⟨rfl, hb⟩; refine ⟨_, rfl, ?_⟩; have n0_ := Aside0.mk (below_step (by repeat (first | (with_reducible first | exact HB.out | apply below_alloc | apply pw_below_drewN | apply below_drew1) | exact HB.out)) hb); clear HB; have HB := n0_; clear n0_; (try clear hb); (try clear hb2); (try clear hk); (try clear hi)) | ((with_reducible refine gate_callee (f := 21) rfl ?_); refine goesL_ (some 28) rfl rfl Tryd.func21 (by kernel_rfl) rfl #[.int .i64 a0] rfl (by (try simp only [List.map_toArray, List.map_cons, List.map_nil]); first | done | rfl | (simp only [List.length_drop, List.length_take]; rfl)) ?_; (with_reducible refine (lex_RefText.calls a0 t106 _ (PowTab.below HT.out (by repeat (first | (with_reducible first | exact HB.out | apply below_alloc | apply pw_below_drewN | apply below_drew1) | exact HB.out))) A12.out).mono ?_); rintro e w16 ⟨rfl, hb⟩; refine ⟨_, rfl, ?_⟩; have n0_ := Aside0.mk (below_step (by repeat (first | (with_reducible first | exact HB.out | apply below_alloc | apply pw_below_drewN | apply below_drew1) | exact HB.out)) hb); clear HB; have HB := n0_; clear n0_; (try clear hb); (try clear hb2); (try clear hk); (try clear hi)) | ((with_reducible refine gate_callee (f := 23) rfl ?_); refine goesL_ (some 29) rfl rfl Tryd.func23 (by kernel_rfl) rfl #[.string t106] rfl (by (try simp only [List.map_toArray, List.map_cons, List.map_nil]); first | done | rfl | (simp only [List.length_drop, List.length_take]; rfl)) ?_; (with_reducible refine (lex_Ref.calls t106 t107 t108 _ A13.out).mono ?_); rintro e w17 ⟨rfl, hb⟩; refine ⟨_, rfl, ?_⟩; have n0_ := Aside0.mk (below_step (by repeat (first | (with_reducible first | exact HB.out | apply below_alloc | apply pw_below_drewN | apply below_drew1) | exact HB.out)) hb); clear HB; have HB := n0_; clear n0_; (try clear hb); (try clear hb2); (try clear hk); (try clear hi)))
        (try simp only [Act.put, List.setIfInBounds_toArray, List.set_cons_zero, List.set_cons_succ])
        go_cut [37] (fun v37 wc => ∃ (kq : Nat) (x37_13 : Bool), v37 = .bool x37_13 ∧ Aside0 (fluxionlaw16_LexWords.j1 kq a0 t104 t105 t107 t108 x37_13 = some r) ∧ Aside0 (kq ≤ kj2) ∧ Aside0 (Below w.heap.size w wc))
        case first =>
          have H := HC14.out
          clear HC14
          by_cases c18 : a0 > 2147483647
          · rw [if_pos c18] at H
            have c18b0 : decide (2147483647 < a0) = true := decide_eq_true c18
            clear c18
            (first | rw [c18b0] | (simp only [i64_w, i32_w]; rw [c18b0]) | skip)
            have H' := Aside0.mk H
            clear H
            go_wp2
            go_meet
            case rel => exact ⟨_, (true), (by first | rfl | (simp; done) | (simp [*]; done)), H', ⟨by have := HJ2.out; first | omega | exact Nat.le_refl _⟩, ⟨by repeat (first | (with_reducible first | exact HB.out | apply below_alloc | apply pw_below_drewN | apply below_drew1) | exact HB.out)⟩⟩
          · rw [if_neg c18] at H
            have c18b0 : decide (2147483647 < a0) = false := decide_eq_false c18
            clear c18
            (first | rw [c18b0] | (simp only [i64_w, i32_w]; rw [c18b0]) | skip)
            have H' := Aside0.mk H
            clear H
            go_wp2
            go_meet
            case rel => exact ⟨_, (decide (a0 < (-2147483647))), (by first | rfl | (simp; done) | (simp [*]; done)), H', ⟨by have := HJ2.out; first | omega | exact Nat.le_refl _⟩, ⟨by repeat (first | (with_reducible first | exact HB.out | apply below_alloc | apply pw_below_drewN | apply below_drew1) | exact HB.out)⟩⟩
        case rest =>
          clear HC14
          try clear c1
          try clear c2
          try clear p2
          try clear c6
          try clear c6b0
          try clear c6b1
          try clear c8
          try clear c8b0
          try clear c8b1
          try clear c8b2
          try clear c10
          try clear c18
          try clear c18b0
          try clear p2
          obtain ⟨kq, x37_13, rfl, HA, HJ13, HB⟩ := hcut
          cases kq with
          | zero => exact absurd HA.out (by simp [fluxionlaw16_LexWords.j1])
          | succ kj13 =>
            have H := HA.out
            clear HA
            simp only [fluxionlaw16_LexWords.j1] at H
            by_cases c19 : x37_13 = true
            · subst c19
              have H1 : (if t105 = 14 then (if t104 = 0 then (if t107 = 0 then (if a0 > 0 then (if t108 = 14 then ((fluxionlaw16_known.f kj13).bind fun t109 => (some t109)) else (if a0 < 0 then (if t108 = 19 then ((fluxionlaw16_known.f kj13).bind fun t110 => (some t110)) else (some false)) else (some false))) else (if a0 < 0 then (if t108 = 19 then ((fluxionlaw16_known.f kj13).bind fun t111 => (some t111)) else (some false)) else (some false))) else (some false)) else (some false)) else (some false)) = some r := by rw [if_pos rfl] at H; exact H
              clear H
              have H := H1
              clear H1
              by_cases c20 : t105 = 14
              · rw [if_pos c20] at H
                have c20b0 : (t105 == 14) = true := beq_iff_eq.mpr c20
                have c20b1 : (t105 != 14) = false := bne_eq_false_iff_eq.mpr c20
                clear c20
                by_cases c21 : t104 = 0
                · rw [if_pos c21] at H
                  have c21b0 : (t104 == 0) = true := beq_iff_eq.mpr c21
                  have c21b1 : (t104 != 0) = false := bne_eq_false_iff_eq.mpr c21
                  clear c21
                  by_cases c22 : t107 = 0
                  · rw [if_pos c22] at H
                    have c22b0 : (t107 == 0) = true := beq_iff_eq.mpr c22
                    have c22b1 : (t107 != 0) = false := bne_eq_false_iff_eq.mpr c22
                    clear c22
                    by_cases c23 : a0 > 0
                    · rw [if_pos c23] at H
                      have c23b0 : decide (0 < a0) = true := decide_eq_true c23
                      clear c23
                      by_cases c24 : t108 = 14
                      · rw [if_pos c24] at H
                        have c24b0 : (t108 == 14) = true := beq_iff_eq.mpr c24
                        have c24b1 : (t108 != 14) = false := bne_eq_false_iff_eq.mpr c24
                        clear c24
                        replace H := Option.bind_eq_some_iff.mp H
                        obtain ⟨t109, A250, H⟩ := H
                        replace H : (some t109) = some r := H
                        have A25 := Aside0.mk A250
                        clear A250
                        obtain rfl := Option.some.inj H
                        go_wp2_with (first | (go_at_call 12; (with_reducible refine (fluxionlaw16_known.calls kj13  t109 _ A25.out).mono ?_); rintro e w26 ⟨rfl, hb⟩; have n0_ := Aside0.mk (below_step (by repeat (first | (with_reducible first | exact HB.out | apply below_alloc | apply pw_below_drewN | apply below_drew1) | exact HB.out)) hb); clear HB; have HB := n0_; clear n0_; (try clear hb); (try clear hb2); (try clear hk); (try clear hi)))
                        go_ret
                        exact ⟨by first | rfl | (simp [errW_none, errW_some] <;> rfl) | (simp [*, errW_none, errW_some] <;> rfl), by repeat (first | (with_reducible first | exact HB.out | apply below_alloc | apply pw_below_drewN | apply below_drew1) | exact HB.out)⟩
                      · rw [if_neg c24] at H
                        have c24b0 : (t108 == 14) = false := beq_eq_false_iff_ne.mpr c24
                        have c24b1 : (t108 != 14) = true := bne_iff_ne.mpr c24
                        by_cases c27 : a0 < 0
                        · rw [if_pos c27] at H
                          have c27b0 : decide (a0 < 0) = true := decide_eq_true c27
                          clear c27
                          by_cases c28 : t108 = 19
                          · rw [if_pos c28] at H
                            have c28b0 : (t108 == 19) = true := beq_iff_eq.mpr c28
                            have c28b1 : (t108 != 19) = false := bne_eq_false_iff_eq.mpr c28
                            clear c28
                            replace H := Option.bind_eq_some_iff.mp H
                            obtain ⟨t110, A290, H⟩ := H
                            replace H : (some t110) = some r := H
                            have A29 := Aside0.mk A290
                            clear A290
                            obtain rfl := Option.some.inj H
                            go_wp2_with (first | (go_at_call 12; (with_reducible refine (fluxionlaw16_known.calls kj13  t110 _ A29.out).mono ?_); rintro e w30 ⟨rfl, hb⟩; have n0_ := Aside0.mk (below_step (by repeat (first | (with_reducible first | exact HB.out | apply below_alloc | apply pw_below_drewN | apply below_drew1) | exact HB.out)) hb); clear HB; have HB := n0_; clear n0_; (try clear hb); (try clear hb2); (try clear hk); (try clear hi)))
                            go_ret
                            exact ⟨by first | rfl | (simp [errW_none, errW_some] <;> rfl) | (simp [*, errW_none, errW_some] <;> rfl), by repeat (first | (with_reducible first | exact HB.out | apply below_alloc | apply pw_below_drewN | apply below_drew1) | exact HB.out)⟩
                          · rw [if_neg c28] at H
                            have c28b0 : (t108 == 19) = false := beq_eq_false_iff_ne.mpr c28
                            have c28b1 : (t108 != 19) = true := bne_iff_ne.mpr c28
                            obtain rfl := Option.some.inj H
                            go_wp2
                            go_ret
                            exact ⟨by first | rfl | (simp [errW_none, errW_some] <;> rfl) | (simp [*, errW_none, errW_some] <;> rfl), by repeat (first | (with_reducible first | exact HB.out | apply below_alloc | apply pw_below_drewN | apply below_drew1) | exact HB.out)⟩
                        · rw [if_neg c27] at H
                          have c27b0 : decide (a0 < 0) = false := decide_eq_false c27
                          clear c27
                          obtain rfl := Option.some.inj H
                          go_wp2
                          go_ret
                          exact ⟨by first | rfl | (simp [errW_none, errW_some] <;> rfl) | (simp [*, errW_none, errW_some] <;> rfl), by repeat (first | (with_reducible first | exact HB.out | apply below_alloc | apply pw_below_drewN | apply below_drew1) | exact HB.out)⟩
                    · rw [if_neg c23] at H
                      have c23b0 : decide (0 < a0) = false := decide_eq_false c23
                      clear c23
                      by_cases c31 : a0 < 0
                      · rw [if_pos c31] at H
                        have c31b0 : decide (a0 < 0) = true := decide_eq_true c31
                        clear c31
                        by_cases c32 : t108 = 19
                        · rw [if_pos c32] at H
                          have c32b0 : (t108 == 19) = true := beq_iff_eq.mpr c32
                          have c32b1 : (t108 != 19) = false := bne_eq_false_iff_eq.mpr c32
                          clear c32
                          replace H := Option.bind_eq_some_iff.mp H
                          obtain ⟨t111, A330, H⟩ := H
                          replace H : (some t111) = some r := H
                          have A33 := Aside0.mk A330
                          clear A330
                          obtain rfl := Option.some.inj H
                          go_wp2_with (first | (go_at_call 12; (with_reducible refine (fluxionlaw16_known.calls kj13  t111 _ A33.out).mono ?_); rintro e w34 ⟨rfl, hb⟩; have n0_ := Aside0.mk (below_step (by repeat (first | (with_reducible first | exact HB.out | apply below_alloc | apply pw_below_drewN | apply below_drew1) | exact HB.out)) hb); clear HB; have HB := n0_; clear n0_; (try clear hb); (try clear hb2); (try clear hk); (try clear hi)))
                          go_ret
                          exact ⟨by first | rfl | (simp [errW_none, errW_some] <;> rfl) | (simp [*, errW_none, errW_some] <;> rfl), by repeat (first | (with_reducible first | exact HB.out | apply below_alloc | apply pw_below_drewN | apply below_drew1) | exact HB.out)⟩
                        · rw [if_neg c32] at H
                          have c32b0 : (t108 == 19) = false := beq_eq_false_iff_ne.mpr c32
                          have c32b1 : (t108 != 19) = true := bne_iff_ne.mpr c32
                          obtain rfl := Option.some.inj H
                          go_wp2
                          go_ret
                          exact ⟨by first | rfl | (simp [errW_none, errW_some] <;> rfl) | (simp [*, errW_none, errW_some] <;> rfl), by repeat (first | (with_reducible first | exact HB.out | apply below_alloc | apply pw_below_drewN | apply below_drew1) | exact HB.out)⟩
                      · rw [if_neg c31] at H
                        have c31b0 : decide (a0 < 0) = false := decide_eq_false c31
                        clear c31
                        obtain rfl := Option.some.inj H
                        go_wp2
                        go_ret
                        exact ⟨by first | rfl | (simp [errW_none, errW_some] <;> rfl) | (simp [*, errW_none, errW_some] <;> rfl), by repeat (first | (with_reducible first | exact HB.out | apply below_alloc | apply pw_below_drewN | apply below_drew1) | exact HB.out)⟩
                  · rw [if_neg c22] at H
                    have c22b0 : (t107 == 0) = false := beq_eq_false_iff_ne.mpr c22
                    have c22b1 : (t107 != 0) = true := bne_iff_ne.mpr c22
                    obtain rfl := Option.some.inj H
                    go_wp2
                    go_ret
                    exact ⟨by first | rfl | (simp [errW_none, errW_some] <;> rfl) | (simp [*, errW_none, errW_some] <;> rfl), by repeat (first | (with_reducible first | exact HB.out | apply below_alloc | apply pw_below_drewN | apply below_drew1) | exact HB.out)⟩
                · rw [if_neg c21] at H
                  have c21b0 : (t104 == 0) = false := beq_eq_false_iff_ne.mpr c21
                  have c21b1 : (t104 != 0) = true := bne_iff_ne.mpr c21
                  obtain rfl := Option.some.inj H
                  go_wp2
                  go_ret
                  exact ⟨by first | rfl | (simp [errW_none, errW_some] <;> rfl) | (simp [*, errW_none, errW_some] <;> rfl), by repeat (first | (with_reducible first | exact HB.out | apply below_alloc | apply pw_below_drewN | apply below_drew1) | exact HB.out)⟩
              · rw [if_neg c20] at H
                have c20b0 : (t105 == 14) = false := beq_eq_false_iff_ne.mpr c20
                have c20b1 : (t105 != 14) = true := bne_iff_ne.mpr c20
                obtain rfl := Option.some.inj H
                go_wp2
                go_ret
                exact ⟨by first | rfl | (simp [errW_none, errW_some] <;> rfl) | (simp [*, errW_none, errW_some] <;> rfl), by repeat (first | (with_reducible first | exact HB.out | apply below_alloc | apply pw_below_drewN | apply below_drew1) | exact HB.out)⟩
            · replace c19 := Bool.eq_false_iff.mpr c19
              subst c19
              have H1 : (if t105 = 0 then (fluxionlaw16_LexWords.j2 kj13 a0 t107 t108 (t104 != a0)) else (fluxionlaw16_LexWords.j2 kj13 a0 t107 t108 true)) = some r := by rw [if_neg (show ¬ (false = true) by decide)] at H; exact H
              clear H
              have H := H1
              clear H1
              have HC35 := Aside0.mk H
              clear H
              go_upto_region 8 with (fail)
              go_cut [73] (fun v73 wc => ∃ (kq : Nat) (x73_34 : Bool), v73 = .bool x73_34 ∧ Aside0 (fluxionlaw16_LexWords.j2 kq a0 t107 t108 x73_34 = some r) ∧ Aside0 (kq ≤ kj13) ∧ Aside0 (Below w.heap.size w wc))
              case first =>
                have H := HC35.out
                clear HC35
                by_cases c36 : t105 = 0
                · rw [if_pos c36] at H
                  have c36b0 : (t105 == 0) = true := beq_iff_eq.mpr c36
                  have c36b1 : (t105 != 0) = false := bne_eq_false_iff_eq.mpr c36
                  clear c36
                  (first | rw [c36b0] | (simp only [i64_w, i32_w]; rw [c36b0]) | skip)
                  have H' := Aside0.mk H
                  clear H
                  go_wp2
                  go_meet
                  case rel => exact ⟨_, ((t104 != a0)), (by first | rfl | (simp; done) | (simp [*]; done)), H', ⟨by have := HJ2.out; have := HJ13.out; first | omega | exact Nat.le_refl _⟩, ⟨by repeat (first | (with_reducible first | exact HB.out | apply below_alloc | apply pw_below_drewN | apply below_drew1) | exact HB.out)⟩⟩
                · rw [if_neg c36] at H
                  have c36b0 : (t105 == 0) = false := beq_eq_false_iff_ne.mpr c36
                  have c36b1 : (t105 != 0) = true := bne_iff_ne.mpr c36
                  (first | rw [c36b0] | (simp only [i64_w, i32_w]; rw [c36b0]) | skip)
                  have H' := Aside0.mk H
                  clear H
                  go_wp2
                  go_meet
                  case rel => exact ⟨_, (true), (by first | rfl | (simp; done) | (simp [*]; done)), H', ⟨by have := HJ2.out; have := HJ13.out; first | omega | exact Nat.le_refl _⟩, ⟨by repeat (first | (with_reducible first | exact HB.out | apply below_alloc | apply pw_below_drewN | apply below_drew1) | exact HB.out)⟩⟩
              case rest =>
                clear HC35
                try clear c1
                try clear c2
                try clear p2
                try clear c3
                try clear c6
                try clear c6b0
                try clear c6b1
                try clear c8
                try clear c8b0
                try clear c8b1
                try clear c8b2
                try clear c10
                try clear c18
                try clear c18b0
                try clear c19
                try clear c20
                try clear c20b0
                try clear c20b1
                try clear c21
                try clear c21b0
                try clear c21b1
                try clear c22
                try clear c22b0
                try clear c22b1
                try clear c23
                try clear c23b0
                try clear c24
                try clear c24b0
                try clear c24b1
                try clear c27
                try clear c27b0
                try clear c28
                try clear c28b0
                try clear c28b1
                try clear c31
                try clear c31b0
                try clear c32
                try clear c32b0
                try clear c32b1
                try clear c36
                try clear c36b0
                try clear c36b1
                try clear p2
                obtain ⟨kq, x73_34, rfl, HA, HJ34, HB⟩ := hcut
                cases kq with
                | zero => exact absurd HA.out (by simp [fluxionlaw16_LexWords.j2])
                | succ kj34 =>
                  have H := HA.out
                  clear HA
                  simp only [fluxionlaw16_LexWords.j2] at H
                  by_cases c37 : x73_34 = true
                  · subst c37
                    have H1 : (some false) = some r := by rw [if_pos rfl] at H; exact H
                    clear H
                    have H := H1
                    clear H1
                    obtain rfl := Option.some.inj H
                    go_wp2
                    go_ret
                    exact ⟨by first | rfl | (simp [errW_none, errW_some] <;> rfl) | (simp [*, errW_none, errW_some] <;> rfl), by repeat (first | (with_reducible first | exact HB.out | apply below_alloc | apply pw_below_drewN | apply below_drew1) | exact HB.out)⟩
                  · replace c37 := Bool.eq_false_iff.mpr c37
                    subst c37
                    have H1 : (if a0 < 0 then (if t108 = 19 then (if t107 = 0 then ((fluxionlaw16_known.f kj34).bind fun t112 => (some t112)) else (some false)) else (some false)) else (if t108 = 0 then (if t107 = a0 then ((fluxionlaw16_known.f kj34).bind fun t113 => (some t113)) else (some false)) else (some false))) = some r := by rw [if_neg (show ¬ (false = true) by decide)] at H; exact H
                    clear H
                    have H := H1
                    clear H1
                    by_cases c38 : a0 < 0
                    · rw [if_pos c38] at H
                      have c38b0 : decide (a0 < 0) = true := decide_eq_true c38
                      clear c38
                      by_cases c39 : t108 = 19
                      · rw [if_pos c39] at H
                        have c39b0 : (t108 == 19) = true := beq_iff_eq.mpr c39
                        have c39b1 : (t108 != 19) = false := bne_eq_false_iff_eq.mpr c39
                        clear c39
                        by_cases c40 : t107 = 0
                        · rw [if_pos c40] at H
                          have c40b0 : (t107 == 0) = true := beq_iff_eq.mpr c40
                          have c40b1 : (t107 != 0) = false := bne_eq_false_iff_eq.mpr c40
                          clear c40
                          replace H := Option.bind_eq_some_iff.mp H
                          obtain ⟨t112, A410, H⟩ := H
                          replace H : (some t112) = some r := H
                          have A41 := Aside0.mk A410
                          clear A410
                          obtain rfl := Option.some.inj H
                          go_wp2_with (first | (go_at_call 12; (with_reducible refine (fluxionlaw16_known.calls kj34  t112 _ A41.out).mono ?_); rintro e w42 ⟨rfl, hb⟩; have n0_ := Aside0.mk (below_step (by repeat (first | (with_reducible first | exact HB.out | apply below_alloc | apply pw_below_drewN | apply below_drew1) | exact HB.out)) hb); clear HB; have HB := n0_; clear n0_; (try clear hb); (try clear hb2); (try clear hk); (try clear hi)))
                          go_ret
                          exact ⟨by first | rfl | (simp [errW_none, errW_some] <;> rfl) | (simp [*, errW_none, errW_some] <;> rfl), by repeat (first | (with_reducible first | exact HB.out | apply below_alloc | apply pw_below_drewN | apply below_drew1) | exact HB.out)⟩
                        · rw [if_neg c40] at H
                          have c40b0 : (t107 == 0) = false := beq_eq_false_iff_ne.mpr c40
                          have c40b1 : (t107 != 0) = true := bne_iff_ne.mpr c40
                          obtain rfl := Option.some.inj H
                          go_wp2
                          go_ret
                          exact ⟨by first | rfl | (simp [errW_none, errW_some] <;> rfl) | (simp [*, errW_none, errW_some] <;> rfl), by repeat (first | (with_reducible first | exact HB.out | apply below_alloc | apply pw_below_drewN | apply below_drew1) | exact HB.out)⟩
                      · rw [if_neg c39] at H
                        have c39b0 : (t108 == 19) = false := beq_eq_false_iff_ne.mpr c39
                        have c39b1 : (t108 != 19) = true := bne_iff_ne.mpr c39
                        obtain rfl := Option.some.inj H
                        go_wp2
                        go_ret
                        exact ⟨by first | rfl | (simp [errW_none, errW_some] <;> rfl) | (simp [*, errW_none, errW_some] <;> rfl), by repeat (first | (with_reducible first | exact HB.out | apply below_alloc | apply pw_below_drewN | apply below_drew1) | exact HB.out)⟩
                    · rw [if_neg c38] at H
                      have c38b0 : decide (a0 < 0) = false := decide_eq_false c38
                      clear c38
                      by_cases c43 : t108 = 0
                      · rw [if_pos c43] at H
                        have c43b0 : (t108 == 0) = true := beq_iff_eq.mpr c43
                        have c43b1 : (t108 != 0) = false := bne_eq_false_iff_eq.mpr c43
                        clear c43
                        by_cases c44 : t107 = a0
                        · rw [if_pos c44] at H
                          have c44b0 : (t107 == a0) = true := beq_iff_eq.mpr c44
                          have c44b1 : (t107 != a0) = false := bne_eq_false_iff_eq.mpr c44
                          clear c44
                          replace H := Option.bind_eq_some_iff.mp H
                          obtain ⟨t113, A450, H⟩ := H
                          replace H : (some t113) = some r := H
                          have A45 := Aside0.mk A450
                          clear A450
                          obtain rfl := Option.some.inj H
                          go_wp2_with (first | (go_at_call 12; (with_reducible refine (fluxionlaw16_known.calls kj34  t113 _ A45.out).mono ?_); rintro e w46 ⟨rfl, hb⟩; have n0_ := Aside0.mk (below_step (by repeat (first | (with_reducible first | exact HB.out | apply below_alloc | apply pw_below_drewN | apply below_drew1) | exact HB.out)) hb); clear HB; have HB := n0_; clear n0_; (try clear hb); (try clear hb2); (try clear hk); (try clear hi)))
                          go_ret
                          exact ⟨by first | rfl | (simp [errW_none, errW_some] <;> rfl) | (simp [*, errW_none, errW_some] <;> rfl), by repeat (first | (with_reducible first | exact HB.out | apply below_alloc | apply pw_below_drewN | apply below_drew1) | exact HB.out)⟩
                        · rw [if_neg c44] at H
                          have c44b0 : (t107 == a0) = false := beq_eq_false_iff_ne.mpr c44
                          have c44b1 : (t107 != a0) = true := bne_iff_ne.mpr c44
                          obtain rfl := Option.some.inj H
                          go_wp2
                          go_ret
                          exact ⟨by first | rfl | (simp [errW_none, errW_some] <;> rfl) | (simp [*, errW_none, errW_some] <;> rfl), by repeat (first | (with_reducible first | exact HB.out | apply below_alloc | apply pw_below_drewN | apply below_drew1) | exact HB.out)⟩
                      · rw [if_neg c43] at H
                        have c43b0 : (t108 == 0) = false := beq_eq_false_iff_ne.mpr c43
                        have c43b1 : (t108 != 0) = true := bne_iff_ne.mpr c43
                        obtain rfl := Option.some.inj H
                        go_wp2
                        go_ret
                        exact ⟨by first | rfl | (simp [errW_none, errW_some] <;> rfl) | (simp [*, errW_none, errW_some] <;> rfl), by repeat (first | (with_reducible first | exact HB.out | apply below_alloc | apply pw_below_drewN | apply below_drew1) | exact HB.out)⟩

end Go.Proofs.YtnafcffecneebaaDoor.Print
