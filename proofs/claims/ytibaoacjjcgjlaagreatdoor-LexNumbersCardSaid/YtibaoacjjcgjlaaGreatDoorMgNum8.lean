/- Written by wip/tools/claimtexts.py: these texts, one behind another, without what this claim does not use: L1, L2, HLit, L3. -/
import Derived.Test.YtibaoacjjcgjlaaGreatDoorMgNum2
import Derived.Test.YtibaoacjjcgjlaaGreatDoorMgNum7
import Derived.Test.YtibaoacjjcgjlaaGreatDoorMgNum6
namespace Go.Proofs.YtibaoacjjcgjlaaGreatDoor.Print
open Go.RowKit Go.Proofs.YtibaoacjjcgjlaaGreatDoorW.PrintWords Go.Proofs.YtibaoacjjcgjlaaGreatDoorW.PrintLast Go.Proofs.YtibaoacjjcgjlaaGreatDoorW.PrintMore
attribute [local go_sem] max2_int min2_int max_two min_two max_three min_three max_four min_four   -- for this text's walks alone
set_option linter.unusedVariables false
set_option linter.unusedSimpArgs false
def lex_Int.j0 : Nat → ByteArray → Bool → Bool → Option (Int × Int)
  | 0, _, _, _ => none
  | k + 1, x4, x5, x17 => if x17 = true then (some (0, 19)) else ((lex_read.f x4).bind fun bt103 => (if x5 = true then (some (wrap64 (-bt103.1), bt103.2)) else (some (bt103.1, bt103.2))))
def lex_Int.f (k : Nat) (a0 : ByteArray) : Option (Int × Int) := (strings_CutPrefix.f a0 (⟨#[45]⟩ : ByteArray)).bind fun bt101 => (if bt101.2 = true then (lex_Int.j0 k bt101.1 bt101.2 (bt101.1.toList == ([48] : List UInt8))) else (lex_Int.j0 k bt101.1 bt101.2 false))
theorem lex_Int.mono_l : ∀ k, (∀ y0 y1 y2, LeO (lex_Int.j0 k y0 y1 y2) (lex_Int.j0 (k + 1) y0 y1 y2))
  | 0 => fun _ _ _ r h => by simp [lex_Int.j0] at h
  | k + 1 => by
    have ih0 := lex_Int.mono_l k
    · intro y0 y1 y2
      unfold lex_Int.j0
      repeat' first
      | (with_reducible exact ih0 _ _ _)
      | (with_reducible exact LeO.refl _)
      | (with_reducible exact LeO.none _)
      | (with_reducible refine LeO.ite ?_ ?_)
      | (with_reducible refine LeO.bind ?_ (fun _ => ?_))
      | exact ih0 _ _ _
      | exact LeO.none _
      | refine LeO.ite ?_ ?_
      | refine LeO.bind ?_ (fun _ => ?_)
theorem lex_Int.mono : ∀ a0 k, LeO (lex_Int.f k a0) (lex_Int.f (k + 1) a0) := by
  intro a0 k
  have ih0 := lex_Int.mono_l k
  unfold lex_Int.f
  repeat' first
      | (with_reducible exact ih0 _ _ _)
      | (with_reducible exact LeO.refl _)
      | (with_reducible exact LeO.none _)
      | (with_reducible refine LeO.ite ?_ ?_)
      | (with_reducible refine LeO.bind ?_ (fun _ => ?_))
      | exact ih0 _ _ _
      | exact LeO.none _
      | refine LeO.ite ?_ ?_
      | refine LeO.bind ?_ (fun _ => ?_)
set_option maxHeartbeats 8000000 in
set_option maxRecDepth 100000 in
theorem lex_Int.calls (k : Nat) (a0 : ByteArray) (r1 : Int) (r2 : Int) (w : World) (hv : RangeVar w) (h : lex_Int.f k a0 = some (r1, r2)) :
    Calls Tryz.prog 5 #[.string a0] w fun e w' => e = .returned (.tuple #[.int .i64 r1, .int .i64 r2]) ∧ Below w.heap.size w w' := by
  have HRV := Aside0.mk hv
  clear hv
  have HB := Aside0.mk (Below.refl w.heap.size w)
  have H : ((strings_CutPrefix.f a0 (⟨#[45]⟩ : ByteArray)).bind fun bt101 => (if bt101.2 = true then (lex_Int.j0 k bt101.1 bt101.2 (bt101.1.toList == ([48] : List UInt8))) else (lex_Int.j0 k bt101.1 bt101.2 false))) = some (r1, r2) := h
  clear h
  replace H := Option.bind_eq_some_iff.mp H
  obtain ⟨⟨t101, t102⟩, A20, H⟩ := H
  (try dsimp only at H)
  have A2 := Aside0.mk A20
  clear A20
  have HC3 := Aside0.mk H
  clear H
  go_enter Tryz.func5, Tryz.ntmps5
  go_upto_region 2 with (first | ((with_reducible refine gC9 (f := 18) rfl ?_); refine goesL_ (some 10) rfl rfl Tryz.func18 (by kernel_rfl) rfl #[.string a0, .string (⟨#[45]⟩ : ByteArray)] rfl (by (try simp only [List.map_toArray, List.map_cons, List.map_nil]); first | done | rfl | (simp only [List.length_drop, List.length_take]; rfl)) ?_; (with_reducible refine (strings_CutPrefix.calls a0 (⟨#[45]⟩ : ByteArray) t101 t102 _ A2.out).mono ?_); rintro e w' ⟨rfl, ⟨nd, rfl⟩⟩; refine ⟨_, rfl, ?_⟩))
  (try simp only [Act.put, List.setIfInBounds_toArray, List.set_cons_zero, List.set_cons_succ])
  go_cut [17] (fun v17 wc => ∃ (kq : Nat) (x17_2 : Bool), v17 = .bool x17_2 ∧ Aside0 (lex_Int.j0 kq t101 t102 x17_2 = some (r1, r2)) ∧ Aside0 (kq ≤ k) ∧ Aside0 (Below w.heap.size w wc))
  case first =>
    have H := HC3.out
    clear HC3
    by_cases c4 : t102 = true
    · subst c4
      have H1 : (lex_Int.j0 k t101 true (t101.toList == ([48] : List UInt8))) = some (r1, r2) := by rw [if_pos rfl] at H; exact H
      clear H
      have H := H1
      clear H1
      have H' := Aside0.mk H
      clear H
      go_wp2
      go_meet
      case rel => exact ⟨_, ((t101.toList == ([48] : List UInt8))), (by first | rfl | (simp; done) | (simp [*]; done)), H', ⟨by first | omega | exact Nat.le_refl _⟩, ⟨by repeat (first | (with_reducible first | exact HB.out | apply bA9 | apply bN9 | apply bD9) | exact HB.out)⟩⟩
    · replace c4 := Bool.eq_false_iff.mpr c4
      subst c4
      have H1 : (lex_Int.j0 k t101 false false) = some (r1, r2) := by rw [if_neg (show ¬ (false = true) by decide)] at H; exact H
      clear H
      have H := H1
      clear H1
      have H' := Aside0.mk H
      clear H
      go_wp2
      go_meet
      case rel => exact ⟨_, (false), (by first | rfl | (simp; done) | (simp [*]; done)), H', ⟨by first | omega | exact Nat.le_refl _⟩, ⟨by repeat (first | (with_reducible first | exact HB.out | apply bA9 | apply bN9 | apply bD9) | exact HB.out)⟩⟩
  case rest =>
    clear HC3
    try clear c1
    try clear p2
    try clear c4
    obtain ⟨kq, x17_2, rfl, HA, HJ2, HB⟩ := hcut
    cases kq with
    | zero => exact absurd HA.out (by simp [lex_Int.j0])
    | succ kj2 =>
      have H := HA.out
      clear HA
      simp only [lex_Int.j0] at H
      by_cases c5 : x17_2 = true
      · subst c5
        have H1 : (some (0, 19)) = some (r1, r2) := by rw [if_pos rfl] at H; exact H
        clear H
        have H := H1
        clear H1
        simp only [Option.some.injEq, Prod.mk.injEq] at H
        obtain ⟨rfl, rfl⟩ := H
        go_wp2
        go_ret2
        exact ⟨by first | rfl | (simp [eN9, eS9] <;> rfl) | (simp [*, eN9, eS9] <;> rfl), by repeat (first | (with_reducible first | exact HB.out | apply bA9 | apply bN9 | apply bD9) | exact HB.out)⟩
      · replace c5 := Bool.eq_false_iff.mpr c5
        subst c5
        have H1 : ((lex_read.f t101).bind fun bt103 => (if t102 = true then (some (wrap64 (-bt103.1), bt103.2)) else (some (bt103.1, bt103.2)))) = some (r1, r2) := by rw [if_neg (show ¬ (false = true) by decide)] at H; exact H
        clear H
        have H := H1
        clear H1
        replace H := Option.bind_eq_some_iff.mp H
        obtain ⟨⟨t103, t104⟩, A60, H⟩ := H
        (try dsimp only at H)
        have A6 := Aside0.mk A60
        clear A60
        by_cases c7 : t102 = true
        · subst c7
          have H1 : (some (wrap64 (-t103), t104)) = some (r1, r2) := by rw [if_pos rfl] at H; exact H
          clear H
          have H := H1
          clear H1
          simp only [Option.some.injEq, Prod.mk.injEq] at H
          obtain ⟨rfl, rfl⟩ := H
          go_wp2_with (first | ((with_reducible refine gC9 (f := 19) rfl ?_); refine goesL_ (some 20) rfl rfl Tryz.func19 (by kernel_rfl) rfl #[.string t101] rfl (by (try simp only [List.map_toArray, List.map_cons, List.map_nil]); first | done | rfl | (simp only [List.length_drop, List.length_take]; rfl)) ?_; (with_reducible refine (lex_read.calls t101 t103 t104 _ (RangeVar.below HRV.out (by repeat (first | (with_reducible first | exact HB.out | apply bA9 | apply bN9 | apply bD9) | exact HB.out))) A6.out).mono ?_); rintro e w8 ⟨rfl, hb⟩; refine ⟨_, rfl, ?_⟩; have n0_ := Aside0.mk (bT9 (by repeat (first | (with_reducible first | exact HB.out | apply bA9 | apply bN9 | apply bD9) | exact HB.out)) hb); clear HB; have HB := n0_; clear n0_; (try clear hb); (try clear hb2); (try clear hk); (try clear hi)))
          go_ret2
          exact ⟨by first | rfl | (simp [eN9, eS9] <;> rfl) | (simp [*, eN9, eS9] <;> rfl), by repeat (first | (with_reducible first | exact HB.out | apply bA9 | apply bN9 | apply bD9) | exact HB.out)⟩
        · replace c7 := Bool.eq_false_iff.mpr c7
          subst c7
          have H1 : (some (t103, t104)) = some (r1, r2) := by rw [if_neg (show ¬ (false = true) by decide)] at H; exact H
          clear H
          have H := H1
          clear H1
          simp only [Option.some.injEq, Prod.mk.injEq] at H
          obtain ⟨rfl, rfl⟩ := H
          go_wp2_with (first | ((with_reducible refine gC9 (f := 19) rfl ?_); refine goesL_ (some 20) rfl rfl Tryz.func19 (by kernel_rfl) rfl #[.string t101] rfl (by (try simp only [List.map_toArray, List.map_cons, List.map_nil]); first | done | rfl | (simp only [List.length_drop, List.length_take]; rfl)) ?_; (with_reducible refine (lex_read.calls t101 t103 t104 _ (RangeVar.below HRV.out (by repeat (first | (with_reducible first | exact HB.out | apply bA9 | apply bN9 | apply bD9) | exact HB.out))) A6.out).mono ?_); rintro e w9 ⟨rfl, hb⟩; refine ⟨_, rfl, ?_⟩; have n0_ := Aside0.mk (bT9 (by repeat (first | (with_reducible first | exact HB.out | apply bA9 | apply bN9 | apply bD9) | exact HB.out)) hb); clear HB; have HB := n0_; clear n0_; (try clear hb); (try clear hb2); (try clear hk); (try clear hi)))
          go_ret2
          exact ⟨by first | rfl | (simp [eN9, eS9] <;> rfl) | (simp [*, eN9, eS9] <;> rfl), by repeat (first | (with_reducible first | exact HB.out | apply bA9 | apply bN9 | apply bD9) | exact HB.out)⟩
def lex_Ref.f (a0 : ByteArray) : Option (Int × Int) := (strings_CutPrefix.f a0 (⟨#[37]⟩ : ByteArray)).bind fun bt105 => (if bt105.2 = true then ((lex_read.f bt105.1).bind fun bt107 => (some (bt107.1, bt107.2))) else (some (0, 19)))
set_option maxHeartbeats 8000000 in
set_option maxRecDepth 100000 in
theorem lex_Ref.calls (a0 : ByteArray) (r1 : Int) (r2 : Int) (w : World) (hv : RangeVar w) (h : lex_Ref.f a0 = some (r1, r2)) :
    Calls Tryz.prog 7 #[.string a0] w fun e w' => e = .returned (.tuple #[.int .i64 r1, .int .i64 r2]) ∧ Below w.heap.size w w' := by
  have HRV := Aside0.mk hv
  clear hv
  have HB := Aside0.mk (Below.refl w.heap.size w)
  have H : ((strings_CutPrefix.f a0 (⟨#[37]⟩ : ByteArray)).bind fun bt105 => (if bt105.2 = true then ((lex_read.f bt105.1).bind fun bt107 => (some (bt107.1, bt107.2))) else (some (0, 19)))) = some (r1, r2) := h
  clear h
  replace H := Option.bind_eq_some_iff.mp H
  obtain ⟨⟨t105, t106⟩, A20, H⟩ := H
  (try dsimp only at H)
  have A2 := Aside0.mk A20
  clear A20
  by_cases c3 : t106 = true
  · subst c3
    have H1 : ((lex_read.f t105).bind fun bt107 => (some (bt107.1, bt107.2))) = some (r1, r2) := by rw [if_pos rfl] at H; exact H
    clear H
    have H := H1
    clear H1
    replace H := Option.bind_eq_some_iff.mp H
    obtain ⟨⟨t107, t108⟩, A40, H⟩ := H
    replace H : (some (t107, t108)) = some (r1, r2) := H
    have A4 := Aside0.mk A40
    clear A40
    simp only [Option.some.injEq, Prod.mk.injEq] at H
    obtain ⟨rfl, rfl⟩ := H
    go_enter Tryz.func7, Tryz.ntmps7
    go_wp2_with (first | ((with_reducible refine gC9 (f := 18) rfl ?_); refine goesL_ (some 8) rfl rfl Tryz.func18 (by kernel_rfl) rfl #[.string a0, .string (⟨#[37]⟩ : ByteArray)] rfl (by (try simp only [List.map_toArray, List.map_cons, List.map_nil]); first | done | rfl | (simp only [List.length_drop, List.length_take]; rfl)) ?_; (with_reducible refine (strings_CutPrefix.calls a0 (⟨#[37]⟩ : ByteArray) t105 true _ A2.out).mono ?_); rintro e w' ⟨rfl, ⟨nd, rfl⟩⟩; refine ⟨_, rfl, ?_⟩) | ((with_reducible refine gC9 (f := 19) rfl ?_); refine goesL_ (some 14) rfl rfl Tryz.func19 (by kernel_rfl) rfl #[.string t105] rfl (by (try simp only [List.map_toArray, List.map_cons, List.map_nil]); first | done | rfl | (simp only [List.length_drop, List.length_take]; rfl)) ?_; (with_reducible refine (lex_read.calls t105 t107 t108 _ (RangeVar.below HRV.out (by repeat (first | (with_reducible first | exact HB.out | apply bA9 | apply bN9 | apply bD9) | exact HB.out))) A4.out).mono ?_); rintro e w5 ⟨rfl, hb⟩; refine ⟨_, rfl, ?_⟩; have n0_ := Aside0.mk (bT9 (by repeat (first | (with_reducible first | exact HB.out | apply bA9 | apply bN9 | apply bD9) | exact HB.out)) hb); clear HB; have HB := n0_; clear n0_; (try clear hb); (try clear hb2); (try clear hk); (try clear hi)))
    go_ret2
    exact ⟨by first | rfl | (simp [eN9, eS9] <;> rfl) | (simp [*, eN9, eS9] <;> rfl), by repeat (first | (with_reducible first | exact HB.out | apply bA9 | apply bN9 | apply bD9) | exact HB.out)⟩
  · replace c3 := Bool.eq_false_iff.mpr c3
    subst c3
    have H1 : (some (0, 19)) = some (r1, r2) := by rw [if_neg (show ¬ (false = true) by decide)] at H; exact H
    clear H
    have H := H1
    clear H1
    simp only [Option.some.injEq, Prod.mk.injEq] at H
    obtain ⟨rfl, rfl⟩ := H
    go_enter Tryz.func7, Tryz.ntmps7
    go_wp2_with (first | ((with_reducible refine gC9 (f := 18) rfl ?_); refine goesL_ (some 8) rfl rfl Tryz.func18 (by kernel_rfl) rfl #[.string a0, .string (⟨#[37]⟩ : ByteArray)] rfl (by (try simp only [List.map_toArray, List.map_cons, List.map_nil]); first | done | rfl | (simp only [List.length_drop, List.length_take]; rfl)) ?_; (with_reducible refine (strings_CutPrefix.calls a0 (⟨#[37]⟩ : ByteArray) t105 false _ A2.out).mono ?_); rintro e w' ⟨rfl, ⟨nd, rfl⟩⟩; refine ⟨_, rfl, ?_⟩))
    go_ret2
    exact ⟨by first | rfl | (simp [eN9, eS9] <;> rfl) | (simp [*, eN9, eS9] <;> rfl), by repeat (first | (with_reducible first | exact HB.out | apply bA9 | apply bN9 | apply bD9) | exact HB.out)⟩
def lex_Hidden.f (a0 : ByteArray) : Option (Bool) := (strings_CutPrefix.f a0 (⟨#[126]⟩ : ByteArray)).bind fun bt109 => (if bt109.2 = true then ((lex_natural.f bt109.1).bind fun t111 => (if t111 = true then (some (decide ((a0.size : Int) ≤ 32))) else (some false))) else (some false))
set_option maxHeartbeats 8000000 in
set_option maxRecDepth 100000 in
theorem lex_Hidden.calls (a0 : ByteArray) (r : Bool) (w : World) (h : lex_Hidden.f a0 = some r) :
    Calls Tryz.prog 17 #[.string a0] w fun e w' => e = .returned (.bool r) ∧ Below w.heap.size w w' := by
  have HB := Aside0.mk (Below.refl w.heap.size w)
  have H : ((strings_CutPrefix.f a0 (⟨#[126]⟩ : ByteArray)).bind fun bt109 => (if bt109.2 = true then ((lex_natural.f bt109.1).bind fun t111 => (if t111 = true then (some (decide ((a0.size : Int) ≤ 32))) else (some false))) else (some false))) = some r := h
  clear h
  replace H := Option.bind_eq_some_iff.mp H
  obtain ⟨⟨t109, t110⟩, A20, H⟩ := H
  (try dsimp only at H)
  have A2 := Aside0.mk A20
  clear A20
  by_cases c3 : t110 = true
  · subst c3
    have H1 : ((lex_natural.f t109).bind fun t111 => (if t111 = true then (some (decide ((a0.size : Int) ≤ 32))) else (some false))) = some r := by rw [if_pos rfl] at H; exact H
    clear H
    have H := H1
    clear H1
    replace H := Option.bind_eq_some_iff.mp H
    obtain ⟨t111, A40, H⟩ := H
    (try dsimp only at H)
    have A4 := Aside0.mk A40
    clear A40
    by_cases c5 : t111 = true
    · subst c5
      have H1 : (some (decide ((a0.size : Int) ≤ 32))) = some r := by rw [if_pos rfl] at H; exact H
      clear H
      have H := H1
      clear H1
      obtain rfl := Option.some.inj H
      go_enter Tryz.func17, Tryz.ntmps17
      go_wp2_with (first | ((with_reducible refine gC9 (f := 18) rfl ?_); refine goesL_ (some 7) rfl rfl Tryz.func18 (by kernel_rfl) rfl #[.string a0, .string (⟨#[126]⟩ : ByteArray)] rfl (by (try simp only [List.map_toArray, List.map_cons, List.map_nil]); first | done | rfl | (simp only [List.length_drop, List.length_take]; rfl)) ?_; (with_reducible refine (strings_CutPrefix.calls a0 (⟨#[126]⟩ : ByteArray) t109 true _ A2.out).mono ?_); rintro e w' ⟨rfl, ⟨nd, rfl⟩⟩; refine ⟨_, rfl, ?_⟩) | (go_at_call 37; (with_reducible refine (lex_natural.calls t109 true _ A4.out).mono ?_); rintro e w6 ⟨rfl, hb⟩; have n0_ := Aside0.mk (bT9 (by repeat (first | (with_reducible first | exact HB.out | apply bA9 | apply bN9 | apply bD9) | exact HB.out)) hb); clear HB; have HB := n0_; clear n0_; (try clear hb); (try clear hb2); (try clear hk); (try clear hi)))
      go_ret
      exact ⟨by first | rfl | (simp [eN9, eS9] <;> rfl) | (simp [*, eN9, eS9] <;> rfl), by repeat (first | (with_reducible first | exact HB.out | apply bA9 | apply bN9 | apply bD9) | exact HB.out)⟩
    · replace c5 := Bool.eq_false_iff.mpr c5
      subst c5
      have H1 : (some false) = some r := by rw [if_neg (show ¬ (false = true) by decide)] at H; exact H
      clear H
      have H := H1
      clear H1
      obtain rfl := Option.some.inj H
      go_enter Tryz.func17, Tryz.ntmps17
      go_wp2_with (first | ((with_reducible refine gC9 (f := 18) rfl ?_); refine goesL_ (some 7) rfl rfl Tryz.func18 (by kernel_rfl) rfl #[.string a0, .string (⟨#[126]⟩ : ByteArray)] rfl (by (try simp only [List.map_toArray, List.map_cons, List.map_nil]); first | done | rfl | (simp only [List.length_drop, List.length_take]; rfl)) ?_; (with_reducible refine (strings_CutPrefix.calls a0 (⟨#[126]⟩ : ByteArray) t109 true _ A2.out).mono ?_); rintro e w' ⟨rfl, ⟨nd, rfl⟩⟩; refine ⟨_, rfl, ?_⟩) | (go_at_call 37; (with_reducible refine (lex_natural.calls t109 false _ A4.out).mono ?_); rintro e w7 ⟨rfl, hb⟩; have n0_ := Aside0.mk (bT9 (by repeat (first | (with_reducible first | exact HB.out | apply bA9 | apply bN9 | apply bD9) | exact HB.out)) hb); clear HB; have HB := n0_; clear n0_; (try clear hb); (try clear hb2); (try clear hk); (try clear hi)))
      go_ret
      exact ⟨by first | rfl | (simp [eN9, eS9] <;> rfl) | (simp [*, eN9, eS9] <;> rfl), by repeat (first | (with_reducible first | exact HB.out | apply bA9 | apply bN9 | apply bD9) | exact HB.out)⟩
  · replace c3 := Bool.eq_false_iff.mpr c3
    subst c3
    have H1 : (some false) = some r := by rw [if_neg (show ¬ (false = true) by decide)] at H; exact H
    clear H
    have H := H1
    clear H1
    obtain rfl := Option.some.inj H
    go_enter Tryz.func17, Tryz.ntmps17
    go_wp2_with (first | ((with_reducible refine gC9 (f := 18) rfl ?_); refine goesL_ (some 7) rfl rfl Tryz.func18 (by kernel_rfl) rfl #[.string a0, .string (⟨#[126]⟩ : ByteArray)] rfl (by (try simp only [List.map_toArray, List.map_cons, List.map_nil]); first | done | rfl | (simp only [List.length_drop, List.length_take]; rfl)) ?_; (with_reducible refine (strings_CutPrefix.calls a0 (⟨#[126]⟩ : ByteArray) t109 false _ A2.out).mono ?_); rintro e w' ⟨rfl, ⟨nd, rfl⟩⟩; refine ⟨_, rfl, ?_⟩))
    go_ret
    exact ⟨by first | rfl | (simp [eN9, eS9] <;> rfl) | (simp [*, eN9, eS9] <;> rfl), by repeat (first | (with_reducible first | exact HB.out | apply bA9 | apply bN9 | apply bD9) | exact HB.out)⟩
def lex_Name.f (a0 : ByteArray) : Option (Int) := (lex_plain.f a0).bind fun t112 => (if t112 = true then (some 0) else ((lex_Hidden.f a0).bind fun t113 => (if t113 = true then (some 0) else (some 15))))
set_option maxHeartbeats 8000000 in
set_option maxRecDepth 100000 in
theorem lex_Name.calls (a0 : ByteArray) (r : Int) (w : World) (h : lex_Name.f a0 = some r) :
    Calls Tryz.prog 13 #[.string a0] w fun e w' => e = .returned (.int .i64 r) ∧ Below w.heap.size w w' := by
  have HB := Aside0.mk (Below.refl w.heap.size w)
  have H : ((lex_plain.f a0).bind fun t112 => (if t112 = true then (some 0) else ((lex_Hidden.f a0).bind fun t113 => (if t113 = true then (some 0) else (some 15))))) = some r := h
  clear h
  replace H := Option.bind_eq_some_iff.mp H
  obtain ⟨t112, A20, H⟩ := H
  (try dsimp only at H)
  have A2 := Aside0.mk A20
  clear A20
  by_cases c3 : t112 = true
  · subst c3
    have H1 : (some 0) = some r := by rw [if_pos rfl] at H; exact H
    clear H
    have H := H1
    clear H1
    obtain rfl := Option.some.inj H
    go_enter Tryz.func13, Tryz.ntmps13
    go_wp2_with (first | ((with_reducible refine gC9 (f := 30) rfl ?_); refine goesL_ (some 4) rfl rfl Tryz.func30 (by kernel_rfl) rfl #[.string a0] rfl (by (try simp only [List.map_toArray, List.map_cons, List.map_nil]); first | done | rfl | (simp only [List.length_drop, List.length_take]; rfl)) ?_; (with_reducible refine (lex_plain.calls a0 true _ A2.out).mono ?_); rintro e w4 ⟨rfl, hb⟩; refine ⟨_, rfl, ?_⟩; have n0_ := Aside0.mk (bT9 (by repeat (first | (with_reducible first | exact HB.out | apply bA9 | apply bN9 | apply bD9) | exact HB.out)) hb); clear HB; have HB := n0_; clear n0_; (try clear hb); (try clear hb2); (try clear hk); (try clear hi)))
    go_ret
    exact ⟨by first | rfl | (simp [eN9, eS9] <;> rfl) | (simp [*, eN9, eS9] <;> rfl), by repeat (first | (with_reducible first | exact HB.out | apply bA9 | apply bN9 | apply bD9) | exact HB.out)⟩
  · replace c3 := Bool.eq_false_iff.mpr c3
    subst c3
    have H1 : ((lex_Hidden.f a0).bind fun t113 => (if t113 = true then (some 0) else (some 15))) = some r := by rw [if_neg (show ¬ (false = true) by decide)] at H; exact H
    clear H
    have H := H1
    clear H1
    replace H := Option.bind_eq_some_iff.mp H
    obtain ⟨t113, A50, H⟩ := H
    replace H : (if t113 = true then (some 0) else (some 15)) = some r := H
    have A5 := Aside0.mk A50
    clear A50
    by_cases c6 : t113 = true
    · subst c6
      have H1 : (some 0) = some r := by rw [if_pos rfl] at H; exact H
      clear H
      have H := H1
      clear H1
      obtain rfl := Option.some.inj H
      go_enter Tryz.func13, Tryz.ntmps13
      go_wp2_with (first | ((with_reducible refine gC9 (f := 30) rfl ?_); refine goesL_ (some 4) rfl rfl Tryz.func30 (by kernel_rfl) rfl #[.string a0] rfl (by (try simp only [List.map_toArray, List.map_cons, List.map_nil]); first | done | rfl | (simp only [List.length_drop, List.length_take]; rfl)) ?_; (with_reducible refine (lex_plain.calls a0 false _ A2.out).mono ?_); rintro e w7 ⟨rfl, hb⟩; refine ⟨_, rfl, ?_⟩; have n0_ := Aside0.mk (bT9 (by repeat (first | (with_reducible first | exact HB.out | apply bA9 | apply bN9 | apply bD9) | exact HB.out)) hb); clear HB; have HB := n0_; clear n0_; (try clear hb); (try clear hb2); (try clear hk); (try clear hi)) | (go_at_call 17; (with_reducible refine (lex_Hidden.calls a0 true _ A5.out).mono ?_); rintro e w8 ⟨rfl, hb⟩; have n0_ := Aside0.mk (bT9 (by repeat (first | (with_reducible first | exact HB.out | apply bA9 | apply bN9 | apply bD9) | exact HB.out)) hb); clear HB; have HB := n0_; clear n0_; (try clear hb); (try clear hb2); (try clear hk); (try clear hi)))
      go_ret
      exact ⟨by first | rfl | (simp [eN9, eS9] <;> rfl) | (simp [*, eN9, eS9] <;> rfl), by repeat (first | (with_reducible first | exact HB.out | apply bA9 | apply bN9 | apply bD9) | exact HB.out)⟩
    · replace c6 := Bool.eq_false_iff.mpr c6
      subst c6
      have H1 : (some 15) = some r := by rw [if_neg (show ¬ (false = true) by decide)] at H; exact H
      clear H
      have H := H1
      clear H1
      obtain rfl := Option.some.inj H
      go_enter Tryz.func13, Tryz.ntmps13
      go_wp2_with (first | ((with_reducible refine gC9 (f := 30) rfl ?_); refine goesL_ (some 4) rfl rfl Tryz.func30 (by kernel_rfl) rfl #[.string a0] rfl (by (try simp only [List.map_toArray, List.map_cons, List.map_nil]); first | done | rfl | (simp only [List.length_drop, List.length_take]; rfl)) ?_; (with_reducible refine (lex_plain.calls a0 false _ A2.out).mono ?_); rintro e w9 ⟨rfl, hb⟩; refine ⟨_, rfl, ?_⟩; have n0_ := Aside0.mk (bT9 (by repeat (first | (with_reducible first | exact HB.out | apply bA9 | apply bN9 | apply bD9) | exact HB.out)) hb); clear HB; have HB := n0_; clear n0_; (try clear hb); (try clear hb2); (try clear hk); (try clear hi)) | (go_at_call 17; (with_reducible refine (lex_Hidden.calls a0 false _ A5.out).mono ?_); rintro e w10 ⟨rfl, hb⟩; have n0_ := Aside0.mk (bT9 (by repeat (first | (with_reducible first | exact HB.out | apply bA9 | apply bN9 | apply bD9) | exact HB.out)) hb); clear HB; have HB := n0_; clear n0_; (try clear hb); (try clear hb2); (try clear hk); (try clear hi)))
      go_ret
      exact ⟨by first | rfl | (simp [eN9, eS9] <;> rfl) | (simp [*, eN9, eS9] <;> rfl), by repeat (first | (with_reducible first | exact HB.out | apply bA9 | apply bN9 | apply bD9) | exact HB.out)⟩
def lex_Split.l0 : Nat → List ByteArray → List ByteArray → Int → Int → Option (List ByteArray × Int)
  | 0, _, _, _, _ => none
  | k + 1, x4, x11, x12, x13 => if x13 < x12 then (if 0 ≤ x13 then (if x13 < (x11.length : Int) then (if (rdOf ByteArray.empty x11 x13).toList = ([] : List UInt8) then (some (([] : List ByteArray), 19)) else ((strings_Contains.f (rdOf ByteArray.empty x11 x13) (⟨#[10]⟩ : ByteArray)).bind fun t118 => (if t118 = true then (some (([] : List ByteArray), 19)) else (lex_Split.l0 k x4 x11 x12 (wrap64 (x13 + 1)))))) else (none)) else (none)) else (some (x4, 0))
def lex_Split.f (k : Nat) (a0 : ByteArray) : Option (List ByteArray × Int) := if a0.toList = ([] : List UInt8) then (some (([] : List ByteArray), 0)) else ((strings_Split.f a0 (⟨#[32]⟩ : ByteArray)).bind fun t114 => (lex_Split.l0 k t114 t114 (t114.length : Int) 0))
theorem lex_Split.mono_l : ∀ k, (∀ y0 y1 y2 y3, LeO (lex_Split.l0 k y0 y1 y2 y3) (lex_Split.l0 (k + 1) y0 y1 y2 y3))
  | 0 => fun _ _ _ _ r h => by simp [lex_Split.l0] at h
  | k + 1 => by
    have ih0 := lex_Split.mono_l k
    · intro y0 y1 y2 y3
      unfold lex_Split.l0
      repeat' first
      | (with_reducible exact ih0 _ _ _ _)
      | (with_reducible exact LeO.refl _)
      | (with_reducible exact LeO.none _)
      | (with_reducible refine LeO.ite ?_ ?_)
      | (with_reducible refine LeO.bind ?_ (fun _ => ?_))
      | exact ih0 _ _ _ _
      | exact LeO.none _
      | refine LeO.ite ?_ ?_
      | refine LeO.bind ?_ (fun _ => ?_)
theorem lex_Split.mono : ∀ a0 k, LeO (lex_Split.f k a0) (lex_Split.f (k + 1) a0) := by
  intro a0 k
  have ih0 := lex_Split.mono_l k
  unfold lex_Split.f
  repeat' first
      | (with_reducible exact ih0 _ _ _ _)
      | (with_reducible exact LeO.refl _)
      | (with_reducible exact LeO.none _)
      | (with_reducible refine LeO.ite ?_ ?_)
      | (with_reducible refine LeO.bind ?_ (fun _ => ?_))
      | exact ih0 _ _ _ _
      | exact LeO.none _
      | refine LeO.ite ?_ ?_
      | refine LeO.bind ?_ (fun _ => ?_)
set_option maxHeartbeats 8000000 in
set_option maxRecDepth 100000 in
theorem lex_Split.calls (k : Nat) (a0 : ByteArray) (r1 : List ByteArray) (r2 : Int) (w : World) (h : lex_Split.f k a0 = some (r1, r2)) :
    Calls Tryz.prog 15 #[.string a0] w fun e w' => ∃ v0_ : Value, e = .returned (.tuple #[v0_, .int .i64 r2]) ∧ Kd.R Kd.string 9 w' w.heap.size (fun _ => True) v0_ r1 ∧ Below w.heap.size w w' := by
  have HB := Aside0.mk (Below.refl w.heap.size w)
  have H : (if a0.toList = ([] : List UInt8) then (some (([] : List ByteArray), 0)) else ((strings_Split.f a0 (⟨#[32]⟩ : ByteArray)).bind fun t114 => (lex_Split.l0 k t114 t114 (t114.length : Int) 0))) = some (r1, r2) := h
  clear h
  by_cases c2 : a0.toList = ([] : List UInt8)
  · rw [if_pos c2] at H
    have c2b0 : (a0.toList == ([] : List UInt8)) = true := beq_iff_eq.mpr c2
    have c2b1 : (a0.toList != ([] : List UInt8)) = false := bne_eq_false_iff_eq.mpr c2
    clear c2
    simp only [Option.some.injEq, Prod.mk.injEq] at H
    obtain ⟨rfl, rfl⟩ := H
    go_enter Tryz.func15, Tryz.ntmps15
    go_wp2
    go_ret2
    exact ⟨_, by first | rfl | (simp [eN9, eS9] <;> rfl) | (simp [*, eN9, eS9] <;> rfl), by first | exact Kd.R_nil _ _ _ _ _ | exact Kd.N_nil _ _ _ _ _ | exact Kd.V_nil _ _ _ _ _ | exact Kd.Q_nil _ _ _ _ _ | exact Kd.S_nil _ _ _ _ _, by repeat (first | (with_reducible first | exact HB.out | apply bA9 | apply bN9 | apply bD9) | exact HB.out)⟩
  · rw [if_neg c2] at H
    have c2b0 : (a0.toList == ([] : List UInt8)) = false := beq_eq_false_iff_ne.mpr c2
    have c2b1 : (a0.toList != ([] : List UInt8)) = true := bne_iff_ne.mpr c2
    replace H := Option.bind_eq_some_iff.mp H
    obtain ⟨t114, A30, H⟩ := H
    (try dsimp only at H)
    have A3 := Aside0.mk A30
    clear A30
    have H' := Aside0.mk H
    clear H
    go_enter Tryz.func15, Tryz.ntmps15
    go_wp2_with (first | ((with_reducible refine gC9 (f := 35) rfl ?_); refine goesL_ (some 10) rfl rfl Tryz.func35 (by kernel_rfl) rfl #[.string a0, .string (⟨#[32]⟩ : ByteArray)] rfl (by (try simp only [List.map_toArray, List.map_cons, List.map_nil]); first | done | rfl | (simp only [List.length_drop, List.length_take]; rfl)) ?_; (with_reducible refine (strings_Split.calls a0 (⟨#[32]⟩ : ByteArray) t114 _ A3.out).mono ?_); rintro e w4 ⟨v115, rfl, ho0, hb⟩; refine ⟨_, rfl, ?_⟩; have n0_ := Aside0.mk (Kd.rL9 ho0 (bZ9 (by repeat (first | (with_reducible first | exact HB.out | apply bA9 | apply bN9 | apply bD9) | exact HB.out)))); have n1_ := Aside0.mk (bT9 (by repeat (first | (with_reducible first | exact HB.out | apply bA9 | apply bN9 | apply bD9) | exact HB.out)) hb); clear HB; have HO116 := n0_; have HB := n1_; clear n0_ n1_; (try clear hb); (try clear hb2); (try clear hk); (try clear hi); (try clear ho0); obtain ⟨Ao5, co5, eo5⟩ := Kd.rS9 HO116.out; subst eo5))
    go_loopg [13] k (fun kq v13 w' => ∃ (x13_1 : Int), v13 = .int .i64 x13_1 ∧ Aside0 (lex_Split.l0 kq t114 t114 (t114.length : Int) x13_1 = some (r1, r2)) ∧ Aside0 (kq ≤ k) ∧ Aside0 (Kd.R Kd.string 9 w' w.heap.size (fun _ => True) (.slice Ao5 t114.length co5) t114) ∧ Aside0 (Kd.R Kd.string 9 w' w.heap.size (fun _ => True) (.slice Ao5 t114.length co5) t114) ∧ Aside0 (Below w.heap.size w w'))
    case atStart => exact ⟨(0), (by first | rfl | (simp; done) | (simp [*]; done)), H', ⟨Nat.le_refl _⟩, ⟨by (with_reducible repeat (first | apply Kd.rA9 | apply Kd.rN9 | apply Kd.rD9)); exact HO116.out⟩, ⟨by (with_reducible repeat (first | apply Kd.rA9 | apply Kd.rN9 | apply Kd.rD9)); exact HO116.out⟩, ⟨by repeat (first | (with_reducible first | exact HB.out | apply bA9 | apply bN9 | apply bD9) | exact HB.out)⟩⟩
    case round =>
      clear H'
      try clear c1
      try clear c2
      try clear c2b0
      try clear c2b1
      try clear p2
      try clear c3
      obtain ⟨x13_1, rfl, HA, HK1, HO_4, HO_11, HB⟩ := hrel
      cases gk with
      | zero => exact absurd HA.out (by simp [lex_Split.l0])
      | succ k1 =>
        have H := HA.out
        clear HA
        simp only [lex_Split.l0] at H
        by_cases c6 : x13_1 < (t114.length : Int)
        · rw [if_pos c6] at H
          have c6b0 : decide (x13_1 < (t114.length : Int)) = true := decide_eq_true c6
          clear c6
          by_cases c7 : 0 ≤ x13_1
          · rw [if_pos c7] at H
            have c7b0 : decide (0 ≤ x13_1) = true := decide_eq_true c7
            clear c7
            by_cases c8 : x13_1 < (t114.length : Int)
            · rw [if_pos c8] at H
              have c8b0 : decide (x13_1 < (t114.length : Int)) = true := decide_eq_true c8
              clear c8
              by_cases c9 : (rdOf ByteArray.empty t114 x13_1).toList = ([] : List UInt8)
              · rw [if_pos c9] at H
                have c9b0 : ((rdOf ByteArray.empty t114 x13_1).toList == ([] : List UInt8)) = true := beq_iff_eq.mpr c9
                have c9b1 : ((rdOf ByteArray.empty t114 x13_1).toList != ([] : List UInt8)) = false := bne_eq_false_iff_eq.mpr c9
                clear c9
                simp only [Option.some.injEq, Prod.mk.injEq] at H
                obtain ⟨rfl, rfl⟩ := H
                have p117 : 0 ≤ (x13_1 : Int) := of_decide_eq_true (by first | (with_reducible assumption) | assumption)
                have q117 : x13_1 < (t114.length : Int) := of_decide_eq_true (by first | (with_reducible assumption) | assumption)
                obtain ⟨ad117, e117, hx117_0⟩ := Kd.at_string (Kd.rR9 HO_11.out).2.2 x13_1 p117 q117
                cases e117
                replace p117 := eq_true p117
                replace q117 := eq_true q117
                go_wp2
                go_ret2
                exact ⟨_, by first | rfl | (simp [eN9, eS9] <;> rfl) | (simp [*, eN9, eS9] <;> rfl), by first | exact Kd.R_nil _ _ _ _ _ | exact Kd.N_nil _ _ _ _ _ | exact Kd.V_nil _ _ _ _ _ | exact Kd.Q_nil _ _ _ _ _ | exact Kd.S_nil _ _ _ _ _, by repeat (first | (with_reducible first | exact HB.out | apply bA9 | apply bN9 | apply bD9) | exact HB.out)⟩
              · rw [if_neg c9] at H
                have c9b0 : ((rdOf ByteArray.empty t114 x13_1).toList == ([] : List UInt8)) = false := beq_eq_false_iff_ne.mpr c9
                have c9b1 : ((rdOf ByteArray.empty t114 x13_1).toList != ([] : List UInt8)) = true := bne_iff_ne.mpr c9
                replace H := Option.bind_eq_some_iff.mp H
                obtain ⟨t118, A100, H⟩ := H
                (try dsimp only at H)
                have A10 := Aside0.mk A100
                clear A100
                by_cases c11 : t118 = true
                · subst c11
                  have H1 : (some (([] : List ByteArray), 19)) = some (r1, r2) := by rw [if_pos rfl] at H; exact H
                  clear H
                  have H := H1
                  clear H1
                  simp only [Option.some.injEq, Prod.mk.injEq] at H
                  obtain ⟨rfl, rfl⟩ := H
                  have p117 : 0 ≤ (x13_1 : Int) := of_decide_eq_true (by first | (with_reducible assumption) | assumption)
                  have q117 : x13_1 < (t114.length : Int) := of_decide_eq_true (by first | (with_reducible assumption) | assumption)
                  obtain ⟨ad117, e117, hx117_0⟩ := Kd.at_string (Kd.rR9 HO_11.out).2.2 x13_1 p117 q117
                  cases e117
                  replace p117 := eq_true p117
                  replace q117 := eq_true q117
                  go_wp2_with (first | (go_at_call 36; (with_reducible refine (strings_Contains.calls (rdOf ByteArray.empty t114 x13_1) (⟨#[10]⟩ : ByteArray) true _ A10.out).mono ?_); rintro e w' ⟨rfl, ⟨nd, rfl⟩⟩))
                  go_ret2
                  exact ⟨_, by first | rfl | (simp [eN9, eS9] <;> rfl) | (simp [*, eN9, eS9] <;> rfl), by first | exact Kd.R_nil _ _ _ _ _ | exact Kd.N_nil _ _ _ _ _ | exact Kd.V_nil _ _ _ _ _ | exact Kd.Q_nil _ _ _ _ _ | exact Kd.S_nil _ _ _ _ _, by repeat (first | (with_reducible first | exact HB.out | apply bA9 | apply bN9 | apply bD9) | exact HB.out)⟩
                · replace c11 := Bool.eq_false_iff.mpr c11
                  subst c11
                  have H1 : (lex_Split.l0 k1 t114 t114 (t114.length : Int) (wrap64 (x13_1 + 1))) = some (r1, r2) := by rw [if_neg (show ¬ (false = true) by decide)] at H; exact H
                  clear H
                  have H := H1
                  clear H1
                  have H' := Aside0.mk H
                  clear H
                  have p117 : 0 ≤ (x13_1 : Int) := of_decide_eq_true (by first | (with_reducible assumption) | assumption)
                  have q117 : x13_1 < (t114.length : Int) := of_decide_eq_true (by first | (with_reducible assumption) | assumption)
                  obtain ⟨ad117, e117, hx117_0⟩ := Kd.at_string (Kd.rR9 HO_11.out).2.2 x13_1 p117 q117
                  cases e117
                  replace p117 := eq_true p117
                  replace q117 := eq_true q117
                  go_wp2_with (first | (go_at_call 36; (with_reducible refine (strings_Contains.calls (rdOf ByteArray.empty t114 x13_1) (⟨#[10]⟩ : ByteArray) false _ A10.out).mono ?_); rintro e w' ⟨rfl, ⟨nd, rfl⟩⟩))
                  go_roundg k1
                  case measure => have := HK1.out; omega
                  case rel => exact ⟨(wrap64 (x13_1 + 1)), (by first | rfl | (simp; done) | (simp [*]; done)), H', ⟨by have := HK1.out; omega⟩, ⟨by (with_reducible repeat (first | apply Kd.rA9 | apply Kd.rN9 | apply Kd.rD9)); exact HO_4.out⟩, ⟨by (with_reducible repeat (first | apply Kd.rA9 | apply Kd.rN9 | apply Kd.rD9)); exact HO_11.out⟩, ⟨by repeat (first | (with_reducible first | exact HB.out | apply bA9 | apply bN9 | apply bD9) | exact HB.out)⟩⟩
            · rw [if_neg c8] at H
              exact absurd H (by simp)
          · rw [if_neg c7] at H
            exact absurd H (by simp)
        · rw [if_neg c6] at H
          have c6b0 : decide (x13_1 < (t114.length : Int)) = false := decide_eq_false c6
          clear c6
          simp only [Option.some.injEq, Prod.mk.injEq] at H
          obtain ⟨rfl, rfl⟩ := H
          go_wp2
          go_ret2
          exact ⟨_, by first | rfl | (simp [eN9, eS9] <;> rfl) | (simp [*, eN9, eS9] <;> rfl), by (with_reducible repeat (first | apply Kd.rA9 | apply Kd.rN9 | apply Kd.rD9)); exact HO_4.out, by repeat (first | (with_reducible first | exact HB.out | apply bA9 | apply bN9 | apply bD9) | exact HB.out)⟩
def lex_Lines.l0 : Nat → ByteArray → List ByteArray → Option (List ByteArray × Int)
  | 0, _, _ => none
  | k + 1, x0, x4 => if x0.toList = ([] : List UInt8) then (some (x4, 0)) else ((strings_CutLF.f x0 (⟨#[10]⟩ : ByteArray)).bind fun bt119 => (if bt119.2.2 = true then (if x4.length < 8796093022208 then (lex_Lines.l0 k bt119.2.1 (x4 ++ [bt119.1])) else (none)) else (some (([] : List ByteArray), 19))))
def lex_Lines.f (k : Nat) (a0 : ByteArray) : Option (List ByteArray × Int) := lex_Lines.l0 k a0 ([] : List ByteArray)
theorem lex_Lines.mono_l : ∀ k, (∀ y0 y1, LeO (lex_Lines.l0 k y0 y1) (lex_Lines.l0 (k + 1) y0 y1))
  | 0 => fun _ _ r h => by simp [lex_Lines.l0] at h
  | k + 1 => by
    have ih0 := lex_Lines.mono_l k
    · intro y0 y1
      unfold lex_Lines.l0
      repeat' first
      | (with_reducible exact ih0 _ _)
      | (with_reducible exact LeO.refl _)
      | (with_reducible exact LeO.none _)
      | (with_reducible refine LeO.ite ?_ ?_)
      | (with_reducible refine LeO.bind ?_ (fun _ => ?_))
      | exact ih0 _ _
      | exact LeO.none _
      | refine LeO.ite ?_ ?_
      | refine LeO.bind ?_ (fun _ => ?_)
theorem lex_Lines.mono : ∀ a0 k, LeO (lex_Lines.f k a0) (lex_Lines.f (k + 1) a0) := by
  intro a0 k
  have ih0 := lex_Lines.mono_l k
  unfold lex_Lines.f
  repeat' first
      | (with_reducible exact ih0 _ _)
      | (with_reducible exact LeO.refl _)
      | (with_reducible exact LeO.none _)
      | (with_reducible refine LeO.ite ?_ ?_)
      | (with_reducible refine LeO.bind ?_ (fun _ => ?_))
      | exact ih0 _ _
      | exact LeO.none _
      | refine LeO.ite ?_ ?_
      | refine LeO.bind ?_ (fun _ => ?_)
set_option maxHeartbeats 8000000 in
set_option maxRecDepth 100000 in
theorem lex_Lines.calls (k : Nat) (a0 : ByteArray) (r1 : List ByteArray) (r2 : Int) (w : World) (h : lex_Lines.f k a0 = some (r1, r2)) :
    Calls Tryz.prog 21 #[.string a0] w fun e w' => ∃ v0_ : Value, e = .returned (.tuple #[v0_, .int .i64 r2]) ∧ Kd.R Kd.string 9 w' w.heap.size (fun _ => True) v0_ r1 ∧ Below w.heap.size w w' := by
  have HB := Aside0.mk (Below.refl w.heap.size w)
  have H : (lex_Lines.l0 k a0 ([] : List ByteArray)) = some (r1, r2) := h
  clear h
  have H' := Aside0.mk H
  clear H
  go_enter Tryz.func21, Tryz.ntmps21
  go_wp2
  go_loopg [0, 4] k (fun kq v0 v4 w' => ∃ (x0_1 : ByteArray) (x4_1 : List ByteArray), v0 = .string x0_1 ∧ Aside0 (lex_Lines.l0 kq x0_1 x4_1 = some (r1, r2)) ∧ Aside0 (kq ≤ k) ∧ Aside0 (Kd.R Kd.string 9 w' w.heap.size (fun _ => True) v4 x4_1) ∧ Aside0 (Below w.heap.size w w'))
  case atStart => exact ⟨(a0), (([] : List ByteArray)), (by first | rfl | (simp; done) | (simp [*]; done)), H', ⟨Nat.le_refl _⟩, ⟨by first | exact Kd.R_nil _ _ _ _ _ | exact Kd.N_nil _ _ _ _ _ | exact Kd.V_nil _ _ _ _ _ | exact Kd.Q_nil _ _ _ _ _ | exact Kd.S_nil _ _ _ _ _⟩, ⟨by repeat (first | (with_reducible first | exact HB.out | apply bA9 | apply bN9 | apply bD9) | exact HB.out)⟩⟩
  case round =>
    clear H'
    obtain ⟨x0_1, x4_1, rfl, HA, HK1, HO_4, HB⟩ := hrel
    cases gk with
    | zero => exact absurd HA.out (by simp [lex_Lines.l0])
    | succ k1 =>
      have H := HA.out
      clear HA
      simp only [lex_Lines.l0] at H
      by_cases c2 : x0_1.toList = ([] : List UInt8)
      · rw [if_pos c2] at H
        have c2b0 : (x0_1.toList == ([] : List UInt8)) = true := beq_iff_eq.mpr c2
        have c2b1 : (x0_1.toList != ([] : List UInt8)) = false := bne_eq_false_iff_eq.mpr c2
        clear c2
        simp only [Option.some.injEq, Prod.mk.injEq] at H
        obtain ⟨rfl, rfl⟩ := H
        go_wp2
        go_ret2
        exact ⟨_, by first | rfl | (simp [eN9, eS9] <;> rfl) | (simp [*, eN9, eS9] <;> rfl), by (with_reducible repeat (first | apply Kd.rA9 | apply Kd.rN9 | apply Kd.rD9)); exact HO_4.out, by repeat (first | (with_reducible first | exact HB.out | apply bA9 | apply bN9 | apply bD9) | exact HB.out)⟩
      · rw [if_neg c2] at H
        have c2b0 : (x0_1.toList == ([] : List UInt8)) = false := beq_eq_false_iff_ne.mpr c2
        have c2b1 : (x0_1.toList != ([] : List UInt8)) = true := bne_iff_ne.mpr c2
        replace H := Option.bind_eq_some_iff.mp H
        obtain ⟨⟨t119, t120, t121⟩, A30, H⟩ := H
        (try dsimp only at H)
        have A3 := Aside0.mk A30
        clear A30
        by_cases c4 : t121 = true
        · subst c4
          have H1 : (if x4_1.length < 8796093022208 then (lex_Lines.l0 k1 t120 (x4_1 ++ [t119])) else (none)) = some (r1, r2) := by rw [if_pos rfl] at H; exact H
          clear H
          have H := H1
          clear H1
          by_cases c5 : x4_1.length < 8796093022208
          · rw [if_pos c5] at H
            have LMc5 := Aside0.mk c5
            clear c5
            obtain ⟨y122, hy122⟩ : ∃ y_ : List ByteArray, y_ = (x4_1 ++ [t119]) := ⟨_, rfl⟩
            replace H : (lex_Lines.l0 k1 t120 y122) = some (r1, r2) := by first | (rw [hy122]; with_reducible exact H) | (have H2_ := (Option.bind_some _ _).symm.trans H; rw [hy122]; with_reducible exact H2_) | (have H2_ := (Option.bind_some _ _).symm.trans H; with_reducible exact H2_) | with_reducible exact H | (rw [hy122]; exact H) | exact H
            have Ny122 := Aside0.mk hy122
            clear hy122
            have H' := Aside0.mk H
            clear H
            go_wp2_with (first | ((with_reducible refine gC9 (f := 41) rfl ?_); refine goesL_ (some 12) rfl rfl Tryz.func41 (by kernel_rfl) rfl #[.string x0_1, .string (⟨#[10]⟩ : ByteArray)] rfl (by (try simp only [List.map_toArray, List.map_cons, List.map_nil]); first | done | rfl | (simp only [List.length_drop, List.length_take]; rfl)) ?_; (with_reducible refine (strings_CutLF.calls x0_1 (⟨#[10]⟩ : ByteArray) t119 t120 true _ A3.out).mono ?_); rintro e w' ⟨rfl, ⟨nd, rfl⟩⟩; refine ⟨_, rfl, ?_⟩) | ((with_reducible refine gate_builtin (b := .append) (xs := #[.tmp 18, .tmp 20]) rfl ?_); at_builtin; refine Kd.R_append Kd.string (w0 := w) w.heap.size rfl (.tmp 18) (.tmp 20) 44 9 (.string ⟨#[]⟩) 16 rfl Tryz.underlying44 info9 rfl (by decide) (by omega) u4 x4_1 t119 [.string t119] (fun _ => True) (fun _ => False) rfl rfl ?aP (fun _ hk => hk.elim) ?aF ?aO ?aB ?aS ?aL ?_; (case aP => exact rfl); (case aB => exact (by repeat (first | (with_reducible first | exact HB.out | apply bA9 | apply bN9 | apply bD9) | exact HB.out))); (case aF => exact (fun _ _ => trivial)); (case aO => exact (by (with_reducible repeat (first | apply Kd.rA9 | apply Kd.rN9 | apply Kd.rD9)); exact HO_4.out)); (case aS => exact (bZ9 (by repeat (first | (with_reducible first | exact HB.out | apply bA9 | apply bN9 | apply bD9) | exact HB.out)))); (case aL => have := LMc5.out; omega); intro v123 w6 ho hb hg hat; rw [← Ny122.out] at ho; have n0_ := Aside0.mk (hb); have n1_ := Aside0.mk (ho); clear HB; clear HO_4; have HB := n0_; have HO124 := n1_; clear n0_ n1_; clear ho hb hg hat))
            go_roundg k1
            case measure => have := HK1.out; omega
            case rel => exact ⟨(t120), (y122), (by first | rfl | (simp; done) | (simp [*]; done)), H', ⟨by have := HK1.out; omega⟩, ⟨by (with_reducible repeat (first | apply Kd.rA9 | apply Kd.rN9 | apply Kd.rD9)); exact HO124.out⟩, ⟨by repeat (first | (with_reducible first | exact HB.out | apply bA9 | apply bN9 | apply bD9) | exact HB.out)⟩⟩
          · rw [if_neg c5] at H
            exact absurd H (by simp)
        · replace c4 := Bool.eq_false_iff.mpr c4
          subst c4
          have H1 : (some (([] : List ByteArray), 19)) = some (r1, r2) := by rw [if_neg (show ¬ (false = true) by decide)] at H; exact H
          clear H
          have H := H1
          clear H1
          simp only [Option.some.injEq, Prod.mk.injEq] at H
          obtain ⟨rfl, rfl⟩ := H
          go_wp2_with (first | ((with_reducible refine gC9 (f := 41) rfl ?_); refine goesL_ (some 12) rfl rfl Tryz.func41 (by kernel_rfl) rfl #[.string x0_1, .string (⟨#[10]⟩ : ByteArray)] rfl (by (try simp only [List.map_toArray, List.map_cons, List.map_nil]); first | done | rfl | (simp only [List.length_drop, List.length_take]; rfl)) ?_; (with_reducible refine (strings_CutLF.calls x0_1 (⟨#[10]⟩ : ByteArray) t119 t120 false _ A3.out).mono ?_); rintro e w' ⟨rfl, ⟨nd, rfl⟩⟩; refine ⟨_, rfl, ?_⟩))
          go_ret2
          exact ⟨_, by first | rfl | (simp [eN9, eS9] <;> rfl) | (simp [*, eN9, eS9] <;> rfl), by first | exact Kd.R_nil _ _ _ _ _ | exact Kd.N_nil _ _ _ _ _ | exact Kd.V_nil _ _ _ _ _ | exact Kd.Q_nil _ _ _ _ _ | exact Kd.S_nil _ _ _ _ _, by repeat (first | (with_reducible first | exact HB.out | apply bA9 | apply bN9 | apply bD9) | exact HB.out)⟩
def lex_Rat.f (k : Nat) (a0 : ByteArray) : Option (Bool × List Int × List Int × Int) := (digits_ParseRat.f k a0).bind fun bt126 => (some (bt126.1, bt126.2.1, bt126.2.2.1, bt126.2.2.2))
set_option maxHeartbeats 8000000 in
set_option maxRecDepth 100000 in
theorem lex_Rat.calls (k : Nat) (a0 : ByteArray) (r1 : Bool) (r2 : List Int) (r3 : List Int) (r4 : Int) (w : World) (h : lex_Rat.f k a0 = some (r1, r2, r3, r4)) :
    Calls Tryz.prog 10 #[.string a0] w fun e w' => ∃ v1_ v2_ : Value, e = .returned (.tuple #[.agg #[.bool r1, v1_, v2_], .int .i64 r4]) ∧ Kd.R (Kd.int .u32) 88 w' w.heap.size (fun k_ => some k_ ≠ (v2_ : Value).ownBlock) v1_ r2 ∧ Kd.R (Kd.int .u32) 88 w' w.heap.size (fun k_ => some k_ ≠ (v1_ : Value).ownBlock) v2_ r3 ∧ Below w.heap.size w w' := by
  have hu31 := Tryz.underlying31
  have HB := Aside0.mk (Below.refl w.heap.size w)
  have H : ((digits_ParseRat.f k a0).bind fun bt126 => (some (bt126.1, bt126.2.1, bt126.2.2.1, bt126.2.2.2))) = some (r1, r2, r3, r4) := h
  clear h
  replace H := Option.bind_eq_some_iff.mp H
  obtain ⟨⟨t126, t127, t130, t133⟩, A20, H⟩ := H
  replace H : (some (t126, t127, t130, t133)) = some (r1, r2, r3, r4) := H
  have A2 := Aside0.mk A20
  clear A20
  simp only [Option.some.injEq, Prod.mk.injEq] at H
  obtain ⟨rfl, rfl, rfl, rfl⟩ := H
  go_enter Tryz.func10, Tryz.ntmps10
  go_wp2_with (first | ((with_reducible refine gD9 (N := 2) rfl ?_); refine bE9 ?hg (N := 2) ?hd (cs := #[.bool false, .slice none 0 0, .slice none 0 0]) (t := 31) ?hr ?_; (case hd => rfl); (case hg => rfl); (case hr => first | (go_simp; done) | (go_simp; rfl)); intro gb125 hg w3 hbox hb; have n0_ := Aside0.mk (bT9 (by repeat (first | (with_reducible first | exact HB.out | apply bA9 | apply bN9 | apply bD9) | exact HB.out)) hb); have n1_ := Aside0.mk (hbox); have n2_ := Aside0.mk ((by rw [hg]; exact (bZ9 (by repeat (first | (with_reducible first | exact HB.out | apply bA9 | apply bN9 | apply bD9) | exact HB.out))) : w.heap.size ≤ gb125)); have n3_ := Aside0.mk ((by rw [hg]; exact (bZ9 (by repeat (first | (with_reducible first | exact HB.out | apply bA9 | apply bN9 | apply bD9) | exact HB.out))) : w.heap.size ≤ gb125)); clear HB; have HB := n0_; have BK125 := n1_; have GW125 := n2_; have GE125 := n3_; clear n0_ n1_ n2_ n3_; clear hb hbox hg) | ((with_reducible refine gC9 (f := 23) rfl ?_); refine goesL_ (some 5) rfl rfl Tryz.func23 (by kernel_rfl) rfl #[.string a0] rfl (by (try simp only [List.map_toArray, List.map_cons, List.map_nil]); first | done | rfl | (simp only [List.length_drop, List.length_take]; rfl)) ?_; (with_reducible refine (digits_ParseRat.calls k a0 t126 t127 t130 t133 _ A2.out).mono ?_); rintro e w4 ⟨v128, v131, rfl, ho0, ho1, hb⟩; refine ⟨_, rfl, ?_⟩; have n0_ := Aside0.mk (Kd.rL9 ho0 (bZ9 (by repeat (first | (with_reducible first | exact HB.out | apply bA9 | apply bN9 | apply bD9 | refine bS9 ?_ GE125.out) | exact HB.out)))); have n1_ := Aside0.mk (Kd.rL9 ho1 (bZ9 (by repeat (first | (with_reducible first | exact HB.out | apply bA9 | apply bN9 | apply bD9 | refine bS9 ?_ GE125.out) | exact HB.out)))); have n2_ := Aside0.mk (kB9 (g := gb125) (o := .cells #[.bool false, .slice none 0 0, .slice none 0 0] 31 (0, 0)) (by (with_reducible repeat (first | refine kN9 ?_ _ | refine kD9 ?_ | refine kA9 ?_ _)); exact BK125.out) hb); have n3_ := Aside0.mk (bT9 (by repeat (first | (with_reducible first | exact HB.out | apply bA9 | apply bN9 | apply bD9 | refine bS9 ?_ GE125.out) | exact HB.out)) hb); clear BK125; clear HB; have HO129 := n0_; have HO132 := n1_; have BK125 := n2_; have HB := n3_; clear n0_ n1_ n2_ n3_; (try clear hb); (try clear hb2); (try clear hk); (try clear hi); (try clear ho0); (try clear ho1); have hcz5_0 : w4.cell? ⟨gb125, 0, none⟩ = some (.bool false) := (kC9 BK125.out 0).trans rfl; have hcz5_1 : w4.cell? ⟨gb125, 1, none⟩ = some (.slice none 0 0) := (kC9 BK125.out 1).trans rfl; have hcz5_2 : w4.cell? ⟨gb125, 2, none⟩ = some (.slice none 0 0) := (kC9 BK125.out 2).trans rfl; have hfz5_0 := kF9 BK125.out 0; have hfz5_1 := kF9 BK125.out 1; have hfz5_2 := kF9 BK125.out 2; obtain ⟨Ao6, co6, eo6⟩ := Kd.rS9 HO129.out; subst eo6; obtain ⟨Ao7, co7, eo7⟩ := Kd.rS9 HO132.out; subst eo7))
  refine bodyPost_ret (results_ct rfl _ _ gb125 31 #[.bool t126, .slice Ao6 t127.length co6, .slice Ao7 t130.length co7] (0, 0) _ rfl (by (with_reducible repeat (first | refine kN9 ?_ _ | refine kD9 ?_ | refine kA9 ?_ _)); refine kP9 (cs := #[.bool t126, .slice Ao6 t127.length co6, .slice none 0 0]) ?_ 2 _ rfl; (with_reducible repeat (first | refine kN9 ?_ _ | refine kD9 ?_ | refine kA9 ?_ _)); refine kP9 (cs := #[.bool t126, .slice none 0 0, .slice none 0 0]) ?_ 1 _ rfl; (with_reducible repeat (first | refine kN9 ?_ _ | refine kD9 ?_ | refine kA9 ?_ _)); refine kP9 (cs := #[.bool false, .slice none 0 0, .slice none 0 0]) ?_ 0 _ rfl; (with_reducible repeat (first | refine kN9 ?_ _ | refine kD9 ?_ | refine kA9 ?_ _)); exact BK125.out) Tryz.underlying31 rfl (by kernel_rfl)) rfl ?_
  exact ⟨_, _, by first | rfl | (simp [eN9, eS9] <;> rfl) | (simp [*, eN9, eS9] <;> rfl), by (with_reducible repeat (first | apply Kd.rA9 | apply Kd.rN9 | apply Kd.rD9)); exact Kd.R_mono (Kd.R_far (p := ⟨gb125, 2, none⟩) (Kd.R_far (p := ⟨gb125, 1, none⟩) (Kd.R_far (p := ⟨gb125, 0, none⟩) (Kd.rT9 HO129.out BK125.out (by decide)) (fun _ hk => hk.2) (.bool t126)) (fun _ hk => hk.2) (.slice Ao6 t127.length co6)) (fun _ hk => hk.2) (.slice Ao7 t130.length co7)) (fun _ hk => hk.1), by (with_reducible repeat (first | apply Kd.rA9 | apply Kd.rN9 | apply Kd.rD9)); exact Kd.R_mono (Kd.R_far (p := ⟨gb125, 2, none⟩) (Kd.R_far (p := ⟨gb125, 1, none⟩) (Kd.R_far (p := ⟨gb125, 0, none⟩) (Kd.rT9 HO132.out BK125.out (by decide)) (fun _ hk => hk.2) (.bool t126)) (fun _ hk => hk.2) (.slice Ao6 t127.length co6)) (fun _ hk => hk.2) (.slice Ao7 t130.length co7)) (fun _ hk => hk.1), by repeat (first | (with_reducible first | exact HB.out | apply bA9 | apply bN9 | apply bD9 | refine bS9 ?_ GE125.out) | exact HB.out)⟩
end Go.Proofs.YtibaoacjjcgjlaaGreatDoor.Print

namespace Go.Proofs.YtibaoacjjcgjlaaGreatDoor.Print
open Go.RowKit Go.Proofs.YtibaoacjjcgjlaaGreatDoorW.PrintWords Go.Proofs.YtibaoacjjcgjlaaGreatDoorW.PrintLast Go.Proofs.YtibaoacjjcgjlaaGreatDoorW.PrintMore
attribute [local go_sem] max2_int min2_int max_two min_two max_three min_three max_four min_four   -- for this text's walks alone
set_option linter.unusedVariables false
set_option linter.unusedSimpArgs false
def fluxionref16_digits.l0 : Nat → ByteArray → Int → Option (Bool)
  | 0, _, _ => none
  | k + 1, x0, x3 => if x3 < (x0.size : Int) then (if 0 ≤ x3 then (if (bt x0 x3) < 48 then (some false) else (if (bt x0 x3) > 57 then (some false) else (fluxionref16_digits.l0 k x0 (wrap64 (x3 + 1))))) else (none)) else (if (x0.size : Int) = 1 then (some true) else (if (x0.size : Int) > 1 then (if 0 < (x0.size : Int) then (some ((bt x0 0) != 48)) else (none)) else (some false)))
def fluxionref16_digits.f (k : Nat) (a0 : ByteArray) : Option (Bool) := fluxionref16_digits.l0 k a0 0
set_option maxHeartbeats 8000000 in
set_option maxRecDepth 100000 in
theorem fluxionref16_digits.calls (k : Nat) (a0 : ByteArray) (r : Bool) (w : World) (h : fluxionref16_digits.f k a0 = some r) :
    Calls Tryz.prog 40 #[.string a0] w fun e w' => e = .returned (.bool r) ∧ Drawn0 w w' := by
  have H : (fluxionref16_digits.l0 k a0 0) = some r := h
  clear h
  have H' := Aside0.mk H
  clear H
  go_enter Tryz.func40, Tryz.ntmps40
  go_wp2
  go_loopg [3] k (fun kq v3 w' => ∃ (x3_1 : Int), v3 = .int .i64 x3_1 ∧ Aside0 (fluxionref16_digits.l0 kq a0 x3_1 = some r) ∧ Aside0 (kq ≤ k) ∧ Drawn0 w w')
  case atStart => exact ⟨(0), (by first | rfl | (simp; done) | (simp [*]; done)), H', ⟨Nat.le_refl _⟩, by repeat (first | exact Drawn0.refl _ | apply Drawn0.step)⟩
  case round =>
    clear H'
    obtain ⟨x3_1, rfl, HA, HK1, ⟨m1, rfl⟩⟩ := hrel
    cases gk with
    | zero => exact absurd HA.out (by simp [fluxionref16_digits.l0])
    | succ k1 =>
      have H := HA.out
      clear HA
      simp only [fluxionref16_digits.l0] at H
      by_cases c2 : x3_1 < (a0.size : Int)
      · rw [if_pos c2] at H
        have c2b0 : decide (x3_1 < (a0.size : Int)) = true := decide_eq_true c2
        clear c2
        by_cases c3 : 0 ≤ x3_1
        · rw [if_pos c3] at H
          have c3b0 : decide (0 ≤ x3_1) = true := decide_eq_true c3
          clear c3
          by_cases c5 : (bt a0 x3_1) < 48
          · rw [if_pos c5] at H
            have c5b0 : decide ((bt a0 x3_1) < 48) = true := decide_eq_true c5
            clear c5
            obtain rfl := Option.some.inj H
            have p4 : 0 ≤ (x3_1 : Int) := of_decide_eq_true (by first | (with_reducible assumption) | assumption)
            have q4 : x3_1 < (a0.size : Int) := of_decide_eq_true (by first | (with_reducible assumption) | assumption)
            have hx4 := bt_at a0 x3_1
            replace p4 := eq_true p4
            replace q4 := eq_true q4
            go_wp2
            go_ret
            exact ⟨by first | rfl | (simp; done) | (simp [*]; done), by repeat (first | exact Drawn0.refl _ | apply Drawn0.step)⟩
          · rw [if_neg c5] at H
            have c5b0 : decide ((bt a0 x3_1) < 48) = false := decide_eq_false c5
            clear c5
            by_cases c7 : (bt a0 x3_1) > 57
            · rw [if_pos c7] at H
              have c7b0 : decide (57 < (bt a0 x3_1)) = true := decide_eq_true c7
              clear c7
              obtain rfl := Option.some.inj H
              have p4 : 0 ≤ (x3_1 : Int) := of_decide_eq_true (by first | (with_reducible assumption) | assumption)
              have q4 : x3_1 < (a0.size : Int) := of_decide_eq_true (by first | (with_reducible assumption) | assumption)
              have hx4 := bt_at a0 x3_1
              replace p4 := eq_true p4
              replace q4 := eq_true q4
              have p6 : 0 ≤ (x3_1 : Int) := of_decide_eq_true (by first | (with_reducible assumption) | assumption)
              have q6 : x3_1 < (a0.size : Int) := of_decide_eq_true (by first | (with_reducible assumption) | assumption)
              have hx6 := bt_at a0 x3_1
              replace p6 := eq_true p6
              replace q6 := eq_true q6
              go_wp2
              go_ret
              exact ⟨by first | rfl | (simp; done) | (simp [*]; done), by repeat (first | exact Drawn0.refl _ | apply Drawn0.step)⟩
            · rw [if_neg c7] at H
              have c7b0 : decide (57 < (bt a0 x3_1)) = false := decide_eq_false c7
              clear c7
              have H' := Aside0.mk H
              clear H
              have p4 : 0 ≤ (x3_1 : Int) := of_decide_eq_true (by first | (with_reducible assumption) | assumption)
              have q4 : x3_1 < (a0.size : Int) := of_decide_eq_true (by first | (with_reducible assumption) | assumption)
              have hx4 := bt_at a0 x3_1
              replace p4 := eq_true p4
              replace q4 := eq_true q4
              have p6 : 0 ≤ (x3_1 : Int) := of_decide_eq_true (by first | (with_reducible assumption) | assumption)
              have q6 : x3_1 < (a0.size : Int) := of_decide_eq_true (by first | (with_reducible assumption) | assumption)
              have hx6 := bt_at a0 x3_1
              replace p6 := eq_true p6
              replace q6 := eq_true q6
              go_wp2
              go_roundg k1
              case measure => have := HK1.out; omega
              case rel => exact ⟨(wrap64 (x3_1 + 1)), (by first | rfl | (simp; done) | (simp [*]; done)), H', ⟨by have := HK1.out; omega⟩, by repeat (first | exact Drawn0.refl _ | apply Drawn0.step)⟩
        · rw [if_neg c3] at H
          exact absurd H (by simp)
      · rw [if_neg c2] at H
        have c2b0 : decide (x3_1 < (a0.size : Int)) = false := decide_eq_false c2
        clear c2
        by_cases c8 : (a0.size : Int) = 1
        · rw [if_pos c8] at H
          have c8b0 : ((a0.size : Int) == 1) = true := beq_iff_eq.mpr c8
          have c8b1 : ((a0.size : Int) != 1) = false := bne_eq_false_iff_eq.mpr c8
          clear c8
          obtain rfl := Option.some.inj H
          go_wp2
          go_ret
          exact ⟨by first | rfl | (simp; done) | (simp [*]; done), by repeat (first | exact Drawn0.refl _ | apply Drawn0.step)⟩
        · rw [if_neg c8] at H
          have c8b0 : ((a0.size : Int) == 1) = false := beq_eq_false_iff_ne.mpr c8
          have c8b1 : ((a0.size : Int) != 1) = true := bne_iff_ne.mpr c8
          by_cases c9 : (a0.size : Int) > 1
          · rw [if_pos c9] at H
            have c9b0 : decide (1 < (a0.size : Int)) = true := decide_eq_true c9
            have c9b1 : decide (1 < a0.size) = true := decide_eq_true (by omega)
            clear c9
            by_cases c10 : 0 < (a0.size : Int)
            · rw [if_pos c10] at H
              have c10b0 : decide (0 < (a0.size : Int)) = true := decide_eq_true c10
              have c10b1 : decide (0 < a0.size) = true := decide_eq_true (by omega)
              clear c10
              obtain rfl := Option.some.inj H
              have p11 : 0 ≤ (0 : Int) := (by omega)
              have q11 : 0 < a0.size := (by have : (0 : Int) < (a0.size : Int) := of_decide_eq_true (by first | (with_reducible assumption) | assumption); omega)
              have hx11 : ∀ h : 0 < a0.size, ((a0[0]'h).toNat : Int) = bt a0 0 := bt_at a0 0
              clear p11
              have qi11 : (0 < (a0.size : Int)) = True := eq_true (of_decide_eq_true (by first | (with_reducible assumption) | assumption))
              replace q11 := eq_true q11
              go_wp2
              go_ret
              exact ⟨by first | rfl | (simp; done) | (simp [*]; done), by repeat (first | exact Drawn0.refl _ | apply Drawn0.step)⟩
            · rw [if_neg c10] at H
              exact absurd H (by simp)
          · rw [if_neg c9] at H
            have c9b0 : decide (1 < (a0.size : Int)) = false := decide_eq_false c9
            have c9b1 : decide (1 < a0.size) = false := decide_eq_false (by omega)
            clear c9
            obtain rfl := Option.some.inj H
            go_wp2
            go_ret
            exact ⟨by first | rfl | (simp; done) | (simp [*]; done), by repeat (first | exact Drawn0.refl _ | apply Drawn0.step)⟩
def fluxionref16_number.l0 : Nat → ByteArray → Int → Int → Option (Int × Int)
  | 0, _, _, _ => none
  | k + 1, x0, x4, x5 => if x5 < (x0.size : Int) then (if 0 ≤ x5 then (fluxionref16_number.l0 k x0 (wrap64 ((wrap64 ((wrap64 (10 * x4)) + (wrap64 (bt x0 x5)))) - 48)) (wrap64 (x5 + 1))) else (none)) else (if x4 > 2147483647 then (some (0, 14)) else (some (x4, 0)))
def fluxionref16_number.f (k : Nat) (a0 : ByteArray) : Option (Int × Int) := (fluxionref16_digits.f k a0).bind fun t134 => (if t134 = true then (if (a0.size : Int) > 10 then (some (0, 14)) else (fluxionref16_number.l0 k a0 0 0)) else (some (0, 19)))
set_option maxHeartbeats 8000000 in
set_option maxRecDepth 100000 in
theorem fluxionref16_number.calls (k : Nat) (a0 : ByteArray) (r1 : Int) (r2 : Int) (w : World) (h : fluxionref16_number.f k a0 = some (r1, r2)) :
    Calls Tryz.prog 20 #[.string a0] w fun e w' => e = .returned (.tuple #[.int .i64 r1, .int .i64 r2]) ∧ Drawn0 w w' := by
  have H : ((fluxionref16_digits.f k a0).bind fun t134 => (if t134 = true then (if (a0.size : Int) > 10 then (some (0, 14)) else (fluxionref16_number.l0 k a0 0 0)) else (some (0, 19)))) = some (r1, r2) := h
  clear h
  replace H := Option.bind_eq_some_iff.mp H
  obtain ⟨t134, A20, H⟩ := H
  (try dsimp only at H)
  have A2 := Aside0.mk A20
  clear A20
  by_cases c3 : t134 = true
  · subst c3
    have H1 : (if (a0.size : Int) > 10 then (some (0, 14)) else (fluxionref16_number.l0 k a0 0 0)) = some (r1, r2) := by rw [if_pos rfl] at H; exact H
    clear H
    have H := H1
    clear H1
    by_cases c4 : (a0.size : Int) > 10
    · rw [if_pos c4] at H
      have c4b0 : decide (10 < (a0.size : Int)) = true := decide_eq_true c4
      have c4b1 : decide (10 < a0.size) = true := decide_eq_true (by omega)
      clear c4
      simp only [Option.some.injEq, Prod.mk.injEq] at H
      obtain ⟨rfl, rfl⟩ := H
      go_enter Tryz.func20, Tryz.ntmps20
      go_wp2_with (first | ((with_reducible refine gC9 (f := 40) rfl ?_); refine goesL_ (some 7) rfl rfl Tryz.func40 (by kernel_rfl) rfl #[.string a0] rfl (by (try simp only [List.map_toArray, List.map_cons, List.map_nil]); first | done | rfl | (simp only [List.length_drop, List.length_take]; rfl)) ?_; (with_reducible refine (fluxionref16_digits.calls k a0 true _ A2.out).mono ?_); rintro e w' ⟨rfl, ⟨nd, rfl⟩⟩; refine ⟨_, rfl, ?_⟩))
      go_ret2
      exact ⟨by first | rfl | (simp; done) | (simp [*]; done), by repeat (first | exact Drawn0.refl _ | apply Drawn0.step)⟩
    · rw [if_neg c4] at H
      have c4b0 : decide (10 < (a0.size : Int)) = false := decide_eq_false c4
      have c4b1 : decide (10 < a0.size) = false := decide_eq_false (by omega)
      clear c4
      have H' := Aside0.mk H
      clear H
      go_enter Tryz.func20, Tryz.ntmps20
      go_wp2_with (first | ((with_reducible refine gC9 (f := 40) rfl ?_); refine goesL_ (some 7) rfl rfl Tryz.func40 (by kernel_rfl) rfl #[.string a0] rfl (by (try simp only [List.map_toArray, List.map_cons, List.map_nil]); first | done | rfl | (simp only [List.length_drop, List.length_take]; rfl)) ?_; (with_reducible refine (fluxionref16_digits.calls k a0 true _ A2.out).mono ?_); rintro e w' ⟨rfl, ⟨nd, rfl⟩⟩; refine ⟨_, rfl, ?_⟩))
      go_loopg [4, 5] k (fun kq v4 v5 w' => ∃ (x4_1 : Int) (x5_1 : Int), v4 = .int .i64 x4_1 ∧ v5 = .int .i64 x5_1 ∧ Aside0 (fluxionref16_number.l0 kq a0 x4_1 x5_1 = some (r1, r2)) ∧ Aside0 (kq ≤ k) ∧ Drawn0 w w')
      case atStart => exact ⟨(0), (0), (by first | rfl | (simp; done) | (simp [*]; done)), (by first | rfl | (simp; done) | (simp [*]; done)), H', ⟨Nat.le_refl _⟩, by repeat (first | exact Drawn0.refl _ | apply Drawn0.step)⟩
      case round =>
        clear H'
        try clear c2
        try clear p2
        try clear c3
        try clear c4
        try clear c4b0
        try clear c4b1
        obtain ⟨x4_1, x5_1, rfl, rfl, HA, HK1, ⟨m1, rfl⟩⟩ := hrel
        cases gk with
        | zero => exact absurd HA.out (by simp [fluxionref16_number.l0])
        | succ k1 =>
          have H := HA.out
          clear HA
          simp only [fluxionref16_number.l0] at H
          by_cases c5 : x5_1 < (a0.size : Int)
          · rw [if_pos c5] at H
            have c5b0 : decide (x5_1 < (a0.size : Int)) = true := decide_eq_true c5
            clear c5
            by_cases c6 : 0 ≤ x5_1
            · rw [if_pos c6] at H
              have c6b0 : decide (0 ≤ x5_1) = true := decide_eq_true c6
              clear c6
              have H' := Aside0.mk H
              clear H
              have p7 : 0 ≤ (x5_1 : Int) := of_decide_eq_true (by first | (with_reducible assumption) | assumption)
              have q7 : x5_1 < (a0.size : Int) := of_decide_eq_true (by first | (with_reducible assumption) | assumption)
              have hx7 := bt_at a0 x5_1
              replace p7 := eq_true p7
              replace q7 := eq_true q7
              go_wp2
              go_roundg k1
              case measure => have := HK1.out; omega
              case rel => exact ⟨(wrap64 ((wrap64 ((wrap64 (10 * x4_1)) + (wrap64 (bt a0 x5_1)))) - 48)), (wrap64 (x5_1 + 1)), (by first | rfl | (simp; done) | (simp [*]; done)), (by first | rfl | (simp; done) | (simp [*]; done)), H', ⟨by have := HK1.out; omega⟩, by repeat (first | exact Drawn0.refl _ | apply Drawn0.step)⟩
            · rw [if_neg c6] at H
              exact absurd H (by simp)
          · rw [if_neg c5] at H
            have c5b0 : decide (x5_1 < (a0.size : Int)) = false := decide_eq_false c5
            clear c5
            by_cases c8 : x4_1 > 2147483647
            · rw [if_pos c8] at H
              have c8b0 : decide (2147483647 < x4_1) = true := decide_eq_true c8
              clear c8
              simp only [Option.some.injEq, Prod.mk.injEq] at H
              obtain ⟨rfl, rfl⟩ := H
              go_wp2
              go_ret2
              exact ⟨by first | rfl | (simp; done) | (simp [*]; done), by repeat (first | exact Drawn0.refl _ | apply Drawn0.step)⟩
            · rw [if_neg c8] at H
              have c8b0 : decide (2147483647 < x4_1) = false := decide_eq_false c8
              clear c8
              simp only [Option.some.injEq, Prod.mk.injEq] at H
              obtain ⟨rfl, rfl⟩ := H
              go_wp2
              go_ret2
              exact ⟨by first | rfl | (simp; done) | (simp [*]; done), by repeat (first | exact Drawn0.refl _ | apply Drawn0.step)⟩
  · replace c3 := Bool.eq_false_iff.mpr c3
    subst c3
    have H1 : (some (0, 19)) = some (r1, r2) := by rw [if_neg (show ¬ (false = true) by decide)] at H; exact H
    clear H
    have H := H1
    clear H1
    simp only [Option.some.injEq, Prod.mk.injEq] at H
    obtain ⟨rfl, rfl⟩ := H
    go_enter Tryz.func20, Tryz.ntmps20
    go_wp2_with (first | ((with_reducible refine gC9 (f := 40) rfl ?_); refine goesL_ (some 7) rfl rfl Tryz.func40 (by kernel_rfl) rfl #[.string a0] rfl (by (try simp only [List.map_toArray, List.map_cons, List.map_nil]); first | done | rfl | (simp only [List.length_drop, List.length_take]; rfl)) ?_; (with_reducible refine (fluxionref16_digits.calls k a0 false _ A2.out).mono ?_); rintro e w' ⟨rfl, ⟨nd, rfl⟩⟩; refine ⟨_, rfl, ?_⟩))
    go_ret2
    exact ⟨by first | rfl | (simp; done) | (simp [*]; done), by repeat (first | exact Drawn0.refl _ | apply Drawn0.step)⟩
def fluxionref16_Int.j0 : Nat → ByteArray → Bool → Option (Int × Int)
  | 0, _, _ => none
  | k + 1, x0, x13 => if x13 = true then (if 1 ≤ (x0.size : Int) then ((fluxionref16_number.f k (x0.extract 1 x0.size)).bind fun bt135 => (if bt135.2 = 0 then (if bt135.1 = 0 then (some (0, 19)) else (some (wrap64 (-bt135.1), bt135.2))) else (some (wrap64 (-bt135.1), bt135.2)))) else (none)) else ((fluxionref16_number.f k x0).bind fun bt137 => (some (bt137.1, bt137.2)))
def fluxionref16_Int.f (k : Nat) (a0 : ByteArray) : Option (Int × Int) := if (a0.size : Int) > 0 then (if 0 < (a0.size : Int) then (fluxionref16_Int.j0 k a0 ((bt a0 0) == 45)) else (none)) else (fluxionref16_Int.j0 k a0 false)
set_option maxHeartbeats 8000000 in
set_option maxRecDepth 100000 in
theorem fluxionref16_Int.calls (k : Nat) (a0 : ByteArray) (r1 : Int) (r2 : Int) (w : World) (h : fluxionref16_Int.f k a0 = some (r1, r2)) :
    Calls Tryz.prog 6 #[.string a0] w fun e w' => e = .returned (.tuple #[.int .i64 r1, .int .i64 r2]) ∧ Drawn0 w w' := by
  have H : (if (a0.size : Int) > 0 then (if 0 < (a0.size : Int) then (fluxionref16_Int.j0 k a0 ((bt a0 0) == 45)) else (none)) else (fluxionref16_Int.j0 k a0 false)) = some (r1, r2) := h
  clear h
  have HC2 := Aside0.mk H
  clear H
  go_enter Tryz.func6, Tryz.ntmps6
  go_upto_region 1 with (fail)
  go_cut [13] (fun v13 wc => ∃ (kq : Nat) (x13_1 : Bool), v13 = .bool x13_1 ∧ Aside0 (fluxionref16_Int.j0 kq a0 x13_1 = some (r1, r2)) ∧ Aside0 (kq ≤ k) ∧ Drawn0 w wc)
  case first =>
    have H := HC2.out
    clear HC2
    by_cases c3 : (a0.size : Int) > 0
    · rw [if_pos c3] at H
      have c3b0 : decide (0 < (a0.size : Int)) = true := decide_eq_true c3
      have c3b1 : decide (0 < a0.size) = true := decide_eq_true (by omega)
      clear c3
      (first | rw [c3b0] | (simp only [i64_w, i32_w]; rw [c3b0]) | skip)
      by_cases c4 : 0 < (a0.size : Int)
      · rw [if_pos c4] at H
        have c4b0 : decide (0 < (a0.size : Int)) = true := decide_eq_true c4
        have c4b1 : decide (0 < a0.size) = true := decide_eq_true (by omega)
        clear c4
        have H' := Aside0.mk H
        clear H
        have p5 : 0 ≤ (0 : Int) := (by omega)
        have q5 : 0 < a0.size := (by have : (0 : Int) < (a0.size : Int) := of_decide_eq_true (by first | (with_reducible assumption) | assumption); omega)
        have hx5 : ∀ h : 0 < a0.size, ((a0[0]'h).toNat : Int) = bt a0 0 := bt_at a0 0
        clear p5
        have qi5 : (0 < (a0.size : Int)) = True := eq_true (of_decide_eq_true (by first | (with_reducible assumption) | assumption))
        replace q5 := eq_true q5
        go_wp2
        go_meet
        case rel => exact ⟨_, (((bt a0 0) == 45)), (by first | rfl | (simp; done) | (simp [*]; done)), H', ⟨by first | omega | exact Nat.le_refl _⟩, by repeat (first | exact Drawn0.refl _ | apply Drawn0.step)⟩
      · rw [if_neg c4] at H
        exact absurd H (by simp)
    · rw [if_neg c3] at H
      have c3b0 : decide (0 < (a0.size : Int)) = false := decide_eq_false c3
      have c3b1 : decide (0 < a0.size) = false := decide_eq_false (by omega)
      clear c3
      (first | rw [c3b0] | (simp only [i64_w, i32_w]; rw [c3b0]) | skip)
      have H' := Aside0.mk H
      clear H
      go_wp2
      go_meet
      case rel => exact ⟨_, (false), (by first | rfl | (simp; done) | (simp [*]; done)), H', ⟨by first | omega | exact Nat.le_refl _⟩, by repeat (first | exact Drawn0.refl _ | apply Drawn0.step)⟩
  case rest =>
    clear HC2
    try clear p2
    try clear c3
    try clear c3b0
    try clear c3b1
    try clear c4
    try clear c4b0
    try clear c4b1
    try clear p5
    try clear q5
    try clear hx5
    try clear qi5
    try clear p5
    try clear q5
    obtain ⟨kq, x13_1, rfl, HA, HJ1, ⟨mc1, rfl⟩⟩ := hcut
    cases kq with
    | zero => exact absurd HA.out (by simp [fluxionref16_Int.j0])
    | succ kj1 =>
      have H := HA.out
      clear HA
      simp only [fluxionref16_Int.j0] at H
      by_cases c6 : x13_1 = true
      · subst c6
        have H1 : (if 1 ≤ (a0.size : Int) then ((fluxionref16_number.f kj1 (a0.extract 1 a0.size)).bind fun bt135 => (if bt135.2 = 0 then (if bt135.1 = 0 then (some (0, 19)) else (some (wrap64 (-bt135.1), bt135.2))) else (some (wrap64 (-bt135.1), bt135.2)))) else (none)) = some (r1, r2) := by rw [if_pos rfl] at H; exact H
        clear H
        have H := H1
        clear H1
        by_cases c7 : 1 ≤ (a0.size : Int)
        · rw [if_pos c7] at H
          have c7b0 := eq_true c7
          try (have h_c7 := c7; rw [ByteArray.size_append] at h_c7; have c7b3 := eq_true h_c7; have c7b4 := eq_false (Nat.not_lt.2 h_c7); clear h_c7)
          have c7b1 : decide (1 ≤ (a0.size : Int)) = true := decide_eq_true c7
          clear c7
          replace H := Option.bind_eq_some_iff.mp H
          obtain ⟨⟨t135, t136⟩, A80, H⟩ := H
          (try dsimp only at H)
          have A8 := Aside0.mk A80
          clear A80
          by_cases c9 : t136 = 0
          · rw [if_pos c9] at H
            have c9b0 : (t136 == 0) = true := beq_iff_eq.mpr c9
            have c9b1 : (t136 != 0) = false := bne_eq_false_iff_eq.mpr c9
            clear c9
            by_cases c10 : t135 = 0
            · rw [if_pos c10] at H
              have c10b0 : (t135 == 0) = true := beq_iff_eq.mpr c10
              have c10b1 : (t135 != 0) = false := bne_eq_false_iff_eq.mpr c10
              clear c10
              simp only [Option.some.injEq, Prod.mk.injEq] at H
              obtain ⟨rfl, rfl⟩ := H
              go_wp2_with (first | ((with_reducible refine gC9 (f := 20) rfl ?_); refine goesL_ (some 17) rfl rfl Tryz.func20 (by kernel_rfl) rfl #[.string (a0.extract 1 a0.size)] rfl (by (try simp only [List.map_toArray, List.map_cons, List.map_nil]); first | done | rfl | (simp only [List.length_drop, List.length_take]; rfl)) ?_; (with_reducible refine (fluxionref16_number.calls kj1 (a0.extract 1 a0.size) t135 t136 _ A8.out).mono ?_); rintro e w' ⟨rfl, ⟨nd, rfl⟩⟩; refine ⟨_, rfl, ?_⟩))
              go_ret2
              exact ⟨by first | rfl | (simp; done) | (simp [*]; done), by repeat (first | exact Drawn0.refl _ | apply Drawn0.step)⟩
            · rw [if_neg c10] at H
              have c10b0 : (t135 == 0) = false := beq_eq_false_iff_ne.mpr c10
              have c10b1 : (t135 != 0) = true := bne_iff_ne.mpr c10
              simp only [Option.some.injEq, Prod.mk.injEq] at H
              obtain ⟨rfl, rfl⟩ := H
              go_wp2_with (first | ((with_reducible refine gC9 (f := 20) rfl ?_); refine goesL_ (some 17) rfl rfl Tryz.func20 (by kernel_rfl) rfl #[.string (a0.extract 1 a0.size)] rfl (by (try simp only [List.map_toArray, List.map_cons, List.map_nil]); first | done | rfl | (simp only [List.length_drop, List.length_take]; rfl)) ?_; (with_reducible refine (fluxionref16_number.calls kj1 (a0.extract 1 a0.size) t135 t136 _ A8.out).mono ?_); rintro e w' ⟨rfl, ⟨nd, rfl⟩⟩; refine ⟨_, rfl, ?_⟩))
              go_ret2
              exact ⟨by first | rfl | (simp; done) | (simp [*]; done), by repeat (first | exact Drawn0.refl _ | apply Drawn0.step)⟩
          · rw [if_neg c9] at H
            have c9b0 : (t136 == 0) = false := beq_eq_false_iff_ne.mpr c9
            have c9b1 : (t136 != 0) = true := bne_iff_ne.mpr c9
            simp only [Option.some.injEq, Prod.mk.injEq] at H
            obtain ⟨rfl, rfl⟩ := H
            go_wp2_with (first | ((with_reducible refine gC9 (f := 20) rfl ?_); refine goesL_ (some 17) rfl rfl Tryz.func20 (by kernel_rfl) rfl #[.string (a0.extract 1 a0.size)] rfl (by (try simp only [List.map_toArray, List.map_cons, List.map_nil]); first | done | rfl | (simp only [List.length_drop, List.length_take]; rfl)) ?_; (with_reducible refine (fluxionref16_number.calls kj1 (a0.extract 1 a0.size) t135 t136 _ A8.out).mono ?_); rintro e w' ⟨rfl, ⟨nd, rfl⟩⟩; refine ⟨_, rfl, ?_⟩))
            go_ret2
            exact ⟨by first | rfl | (simp; done) | (simp [*]; done), by repeat (first | exact Drawn0.refl _ | apply Drawn0.step)⟩
        · rw [if_neg c7] at H
          exact absurd H (by simp)
      · replace c6 := Bool.eq_false_iff.mpr c6
        subst c6
        have H1 : ((fluxionref16_number.f kj1 a0).bind fun bt137 => (some (bt137.1, bt137.2))) = some (r1, r2) := by rw [if_neg (show ¬ (false = true) by decide)] at H; exact H
        clear H
        have H := H1
        clear H1
        replace H := Option.bind_eq_some_iff.mp H
        obtain ⟨⟨t137, t138⟩, A110, H⟩ := H
        replace H : (some (t137, t138)) = some (r1, r2) := H
        have A11 := Aside0.mk A110
        clear A110
        simp only [Option.some.injEq, Prod.mk.injEq] at H
        obtain ⟨rfl, rfl⟩ := H
        go_wp2_with (first | ((with_reducible refine gC9 (f := 20) rfl ?_); refine goesL_ (some 30) rfl rfl Tryz.func20 (by kernel_rfl) rfl #[.string a0] rfl (by (try simp only [List.map_toArray, List.map_cons, List.map_nil]); first | done | rfl | (simp only [List.length_drop, List.length_take]; rfl)) ?_; (with_reducible refine (fluxionref16_number.calls kj1 a0 t137 t138 _ A11.out).mono ?_); rintro e w' ⟨rfl, ⟨nd, rfl⟩⟩; refine ⟨_, rfl, ?_⟩))
        go_ret2
        exact ⟨by first | rfl | (simp; done) | (simp [*]; done), by repeat (first | exact Drawn0.refl _ | apply Drawn0.step)⟩
def fluxionref16_Ref.f (k : Nat) (a0 : ByteArray) : Option (Int × Int) := if (a0.size : Int) = 0 then (some (0, 19)) else (if 0 < (a0.size : Int) then (if (bt a0 0) = 37 then (if 1 ≤ (a0.size : Int) then ((fluxionref16_number.f k (a0.extract 1 a0.size)).bind fun bt139 => (some (bt139.1, bt139.2))) else (none)) else (some (0, 19))) else (none))
set_option maxHeartbeats 8000000 in
set_option maxRecDepth 100000 in
theorem fluxionref16_Ref.calls (k : Nat) (a0 : ByteArray) (r1 : Int) (r2 : Int) (w : World) (h : fluxionref16_Ref.f k a0 = some (r1, r2)) :
    Calls Tryz.prog 8 #[.string a0] w fun e w' => e = .returned (.tuple #[.int .i64 r1, .int .i64 r2]) ∧ Drawn0 w w' := by
  have H : (if (a0.size : Int) = 0 then (some (0, 19)) else (if 0 < (a0.size : Int) then (if (bt a0 0) = 37 then (if 1 ≤ (a0.size : Int) then ((fluxionref16_number.f k (a0.extract 1 a0.size)).bind fun bt139 => (some (bt139.1, bt139.2))) else (none)) else (some (0, 19))) else (none))) = some (r1, r2) := h
  clear h
  by_cases c2 : (a0.size : Int) = 0
  · rw [if_pos c2] at H
    have c2b0 : ((a0.size : Int) == 0) = true := beq_iff_eq.mpr c2
    have c2b1 : ((a0.size : Int) != 0) = false := bne_eq_false_iff_eq.mpr c2
    clear c2
    simp only [Option.some.injEq, Prod.mk.injEq] at H
    obtain ⟨rfl, rfl⟩ := H
    go_enter Tryz.func8, Tryz.ntmps8
    go_wp2
    go_ret2
    exact ⟨by first | rfl | (simp; done) | (simp [*]; done), by repeat (first | exact Drawn0.refl _ | apply Drawn0.step)⟩
  · rw [if_neg c2] at H
    have c2b0 : ((a0.size : Int) == 0) = false := beq_eq_false_iff_ne.mpr c2
    have c2b1 : ((a0.size : Int) != 0) = true := bne_iff_ne.mpr c2
    by_cases c3 : 0 < (a0.size : Int)
    · rw [if_pos c3] at H
      have c3b0 : decide (0 < (a0.size : Int)) = true := decide_eq_true c3
      have c3b1 : decide (0 < a0.size) = true := decide_eq_true (by omega)
      clear c3
      by_cases c5 : (bt a0 0) = 37
      · rw [if_pos c5] at H
        have c5b0 : ((bt a0 0) == 37) = true := beq_iff_eq.mpr c5
        have c5b1 : ((bt a0 0) != 37) = false := bne_eq_false_iff_eq.mpr c5
        clear c5
        by_cases c6 : 1 ≤ (a0.size : Int)
        · rw [if_pos c6] at H
          have c6b0 := eq_true c6
          try (have h_c6 := c6; rw [ByteArray.size_append] at h_c6; have c6b3 := eq_true h_c6; have c6b4 := eq_false (Nat.not_lt.2 h_c6); clear h_c6)
          have c6b1 : decide (1 ≤ (a0.size : Int)) = true := decide_eq_true c6
          clear c6
          replace H := Option.bind_eq_some_iff.mp H
          obtain ⟨⟨t139, t140⟩, A70, H⟩ := H
          replace H : (some (t139, t140)) = some (r1, r2) := H
          have A7 := Aside0.mk A70
          clear A70
          simp only [Option.some.injEq, Prod.mk.injEq] at H
          obtain ⟨rfl, rfl⟩ := H
          have p4 : 0 ≤ (0 : Int) := (by omega)
          have q4 : 0 < a0.size := (by have : (0 : Int) < (a0.size : Int) := of_decide_eq_true (by first | (with_reducible assumption) | assumption); omega)
          have hx4 : ∀ h : 0 < a0.size, ((a0[0]'h).toNat : Int) = bt a0 0 := bt_at a0 0
          clear p4
          have qi4 : (0 < (a0.size : Int)) = True := eq_true (of_decide_eq_true (by first | (with_reducible assumption) | assumption))
          replace q4 := eq_true q4
          go_enter Tryz.func8, Tryz.ntmps8
          go_wp2_with (first | ((with_reducible refine gC9 (f := 20) rfl ?_); refine goesL_ (some 14) rfl rfl Tryz.func20 (by kernel_rfl) rfl #[.string (a0.extract 1 a0.size)] rfl (by (try simp only [List.map_toArray, List.map_cons, List.map_nil]); first | done | rfl | (simp only [List.length_drop, List.length_take]; rfl)) ?_; (with_reducible refine (fluxionref16_number.calls k (a0.extract 1 a0.size) t139 t140 _ A7.out).mono ?_); rintro e w' ⟨rfl, ⟨nd, rfl⟩⟩; refine ⟨_, rfl, ?_⟩))
          go_ret2
          exact ⟨by first | rfl | (simp; done) | (simp [*]; done), by repeat (first | exact Drawn0.refl _ | apply Drawn0.step)⟩
        · rw [if_neg c6] at H
          exact absurd H (by simp)
      · rw [if_neg c5] at H
        have c5b0 : ((bt a0 0) == 37) = false := beq_eq_false_iff_ne.mpr c5
        have c5b1 : ((bt a0 0) != 37) = true := bne_iff_ne.mpr c5
        simp only [Option.some.injEq, Prod.mk.injEq] at H
        obtain ⟨rfl, rfl⟩ := H
        have p4 : 0 ≤ (0 : Int) := (by omega)
        have q4 : 0 < a0.size := (by have : (0 : Int) < (a0.size : Int) := of_decide_eq_true (by first | (with_reducible assumption) | assumption); omega)
        have hx4 : ∀ h : 0 < a0.size, ((a0[0]'h).toNat : Int) = bt a0 0 := bt_at a0 0
        clear p4
        have qi4 : (0 < (a0.size : Int)) = True := eq_true (of_decide_eq_true (by first | (with_reducible assumption) | assumption))
        replace q4 := eq_true q4
        go_enter Tryz.func8, Tryz.ntmps8
        go_wp2
        go_ret2
        exact ⟨by first | rfl | (simp; done) | (simp [*]; done), by repeat (first | exact Drawn0.refl _ | apply Drawn0.step)⟩
    · rw [if_neg c3] at H
      exact absurd H (by simp)
end Go.Proofs.YtibaoacjjcgjlaaGreatDoor.Print

namespace Go.Proofs.YtibaoacjjcgjlaaGreatDoor.Print
open Go.RowKit Go.Proofs.YtibaoacjjcgjlaaGreatDoorW.PrintWords Go.Proofs.YtibaoacjjcgjlaaGreatDoorW.PrintLast Go.Proofs.YtibaoacjjcgjlaaGreatDoorW.PrintMore
theorem litS_C (W : World) (xs : List ByteArray) (hm : xs.length ≤ 1000 := by decide) : Kd.C Kd.string (W.alloc (.cells (xs.map Value.string).toArray 9)) (some ⟨W.heap.size, 0, none⟩) xs.length xs := by
  have ho : World.ownsRow (W.alloc (.cells (xs.map Value.string).toArray 9)) 0 9 1 (.slice (some ⟨W.heap.size, 0, none⟩) xs.length xs.length) xs.length (encs Value.string xs) :=
    ⟨by simp [encs], .inr ⟨_, _, _, rfl, Nat.zero_le _, heap_alloc_new W _, Nat.le_refl _, by unfold maxLen; omega, by simp, by
      rw [Nat.mul_one, List.take_of_length_le (by simp)]; rfl⟩⟩
  exact (Kd.rR9 (Kd.R_of_own (h1 := fun _ => rfl) (ok := fun _ => True) ho (fun _ _ => trivial))).2.2
theorem litS_at (W : World) (xs : List ByteArray) (b : Nat) (hb : b = W.heap.size) (hm : xs.length ≤ 1000 := by decide) : Kd.C Kd.string (W.alloc (.cells (xs.map Value.string).toArray 9)) (some ⟨b, 0, none⟩) xs.length xs := by
  subst hb; exact litS_C W xs hm
end Go.Proofs.YtibaoacjjcgjlaaGreatDoor.Print

namespace Go.Proofs.YtibaoacjjcgjlaaGreatDoor.Print
open Go.RowKit Go.Proofs.YtibaoacjjcgjlaaGreatDoorW.PrintWords Go.Proofs.YtibaoacjjcgjlaaGreatDoorW.PrintLast Go.Proofs.YtibaoacjjcgjlaaGreatDoorW.PrintMore
attribute [local go_sem] max2_int min2_int max_two min_two max_three min_three max_four min_four   -- for this text's walks alone
set_option linter.unusedVariables false
set_option linter.unusedSimpArgs false
def fluxionref16_SameTexts.l0 : Nat → List ByteArray → List ByteArray → Int → Option (Bool)
  | 0, _, _, _ => none
  | k + 1, x0, x1, x5 => if x5 < (x0.length : Int) then (if 0 ≤ x5 then (if x5 < (x1.length : Int) then (if (rdOf ByteArray.empty x0 x5).toList = (rdOf ByteArray.empty x1 x5).toList then (fluxionref16_SameTexts.l0 k x0 x1 (wrap64 (x5 + 1))) else (some false)) else (none)) else (none)) else (some true)
def fluxionref16_SameTexts.f (k : Nat) (l0 : List ByteArray) (l1 : List ByteArray) : Option (Bool) := if (l0.length : Int) = (l1.length : Int) then (fluxionref16_SameTexts.l0 k l0 l1 0) else (some false)
theorem fluxionref16_SameTexts.mono_l : ∀ k, (∀ y0 y1 y2, LeO (fluxionref16_SameTexts.l0 k y0 y1 y2) (fluxionref16_SameTexts.l0 (k + 1) y0 y1 y2))
  | 0 => fun _ _ _ r h => by simp [fluxionref16_SameTexts.l0] at h
  | k + 1 => by
    have ih0 := fluxionref16_SameTexts.mono_l k
    · intro y0 y1 y2
      unfold fluxionref16_SameTexts.l0
      repeat' first
      | (with_reducible exact ih0 _ _ _)
      | (with_reducible exact LeO.refl _)
      | (with_reducible exact LeO.none _)
      | (with_reducible refine LeO.ite ?_ ?_)
      | (with_reducible refine LeO.bind ?_ (fun _ => ?_))
      | exact ih0 _ _ _
      | exact LeO.none _
      | refine LeO.ite ?_ ?_
      | refine LeO.bind ?_ (fun _ => ?_)
theorem fluxionref16_SameTexts.mono : ∀ a0 a1 k, LeO (fluxionref16_SameTexts.f k a0 a1) (fluxionref16_SameTexts.f (k + 1) a0 a1) := by
  intro a0 a1 k
  have ih0 := fluxionref16_SameTexts.mono_l k
  unfold fluxionref16_SameTexts.f
  repeat' first
      | (with_reducible exact ih0 _ _ _)
      | (with_reducible exact LeO.refl _)
      | (with_reducible exact LeO.none _)
      | (with_reducible refine LeO.ite ?_ ?_)
      | (with_reducible refine LeO.bind ?_ (fun _ => ?_))
      | exact ih0 _ _ _
      | exact LeO.none _
      | refine LeO.ite ?_ ?_
      | refine LeO.bind ?_ (fun _ => ?_)
set_option maxHeartbeats 8000000 in
set_option maxRecDepth 100000 in
theorem fluxionref16_SameTexts.calls (k : Nat) (A0 : Option Addr) (c0 : Nat) (l0 : List ByteArray) (A1 : Option Addr) (c1 : Nat) (l1 : List ByteArray) (r : Bool) (w : World) (hr0 : Kd.C Kd.string w A0 l0.length l0) (hc0 : l0.length ≤ c0) (hr1 : Kd.C Kd.string w A1 l1.length l1) (hc1 : l1.length ≤ c1) (h : fluxionref16_SameTexts.f k l0 l1 = some r) :
    Calls Tryz.prog 16 #[.slice A0 l0.length c0, .slice A1 l1.length c1] w fun e w' => e = .returned (.bool r) ∧ Drawn0 w w' := by
  have HR0 := Aside0.mk hr0
  have HC0 := Aside0.mk hc0
  clear hr0 hc0
  have HR1 := Aside0.mk hr1
  have HC1 := Aside0.mk hc1
  clear hr1 hc1
  have H : (if (l0.length : Int) = (l1.length : Int) then (fluxionref16_SameTexts.l0 k l0 l1 0) else (some false)) = some r := h
  clear h
  by_cases c3 : (l0.length : Int) = (l1.length : Int)
  · rw [if_pos c3] at H
    have c3b0 : ((l0.length : Int) == (l1.length : Int)) = true := beq_iff_eq.mpr c3
    have c3b1 : ((l0.length : Int) != (l1.length : Int)) = false := bne_eq_false_iff_eq.mpr c3
    have c3b2 : (l0.length == l1.length) = true := by first | simpa using c3 | (simp at c3 ⊢; omega)
    clear c3
    have H' := Aside0.mk H
    clear H
    go_enter Tryz.func16, Tryz.ntmps16
    go_wp2
    repeat (go_quiet (fail); try go_wp2)
    go_loopg [5] k (fun kq v5 w' => ∃ (x5_1 : Int), v5 = .int .i64 x5_1 ∧ Aside0 (fluxionref16_SameTexts.l0 kq l0 l1 x5_1 = some r) ∧ Aside0 (kq ≤ k) ∧ Drawn0 w w')
    case atStart => exact ⟨(0), (by first | rfl | (simp; done) | (simp [*]; done)), H', ⟨Nat.le_refl _⟩, by repeat (first | exact Drawn0.refl _ | apply Drawn0.step)⟩
    case round =>
      clear H'
      try clear c1
      try clear p2
      try clear c3
      try clear c3b0
      try clear c3b1
      try clear c3b2
      obtain ⟨x5_1, rfl, HA, HK1, ⟨m1, rfl⟩⟩ := hrel
      cases gk with
      | zero => exact absurd HA.out (by simp [fluxionref16_SameTexts.l0])
      | succ k1 =>
        have H := HA.out
        clear HA
        simp only [fluxionref16_SameTexts.l0] at H
        by_cases c4 : x5_1 < (l0.length : Int)
        · rw [if_pos c4] at H
          have c4b0 : decide (x5_1 < (l0.length : Int)) = true := decide_eq_true c4
          clear c4
          by_cases c5 : 0 ≤ x5_1
          · rw [if_pos c5] at H
            have c5b0 : decide (0 ≤ x5_1) = true := decide_eq_true c5
            clear c5
            by_cases c6 : x5_1 < (l1.length : Int)
            · rw [if_pos c6] at H
              have c6b0 : decide (x5_1 < (l1.length : Int)) = true := decide_eq_true c6
              clear c6
              by_cases c7 : (rdOf ByteArray.empty l0 x5_1).toList = (rdOf ByteArray.empty l1 x5_1).toList
              · rw [if_pos c7] at H
                have c7b0 : ((rdOf ByteArray.empty l0 x5_1).toList == (rdOf ByteArray.empty l1 x5_1).toList) = true := beq_iff_eq.mpr c7
                have c7b1 : ((rdOf ByteArray.empty l0 x5_1).toList != (rdOf ByteArray.empty l1 x5_1).toList) = false := bne_eq_false_iff_eq.mpr c7
                clear c7
                have H' := Aside0.mk H
                clear H
                have p141 : 0 ≤ (x5_1 : Int) := of_decide_eq_true (by first | (with_reducible assumption) | assumption)
                have q141 : x5_1 < (l0.length : Int) := of_decide_eq_true (by first | (with_reducible assumption) | assumption)
                obtain ⟨ad141, e141, hx141_0⟩ := Kd.at_string HR0.out x5_1 p141 q141
                cases e141
                replace p141 := eq_true p141
                replace q141 := eq_true q141
                have p142 : 0 ≤ (x5_1 : Int) := of_decide_eq_true (by first | (with_reducible assumption) | assumption)
                have q142 : x5_1 < (l1.length : Int) := of_decide_eq_true (by first | (with_reducible assumption) | assumption)
                obtain ⟨ad142, e142, hx142_0⟩ := Kd.at_string HR1.out x5_1 p142 q142
                cases e142
                replace p142 := eq_true p142
                replace q142 := eq_true q142
                go_wp2
                repeat (go_quiet (fail); try go_wp2)
                go_roundg k1
                case measure => have := HK1.out; omega
                case rel => exact ⟨(wrap64 (x5_1 + 1)), (by first | rfl | (simp; done) | (simp [*]; done)), H', ⟨by have := HK1.out; omega⟩, by repeat (first | exact Drawn0.refl _ | apply Drawn0.step)⟩
              · rw [if_neg c7] at H
                have c7b0 : ((rdOf ByteArray.empty l0 x5_1).toList == (rdOf ByteArray.empty l1 x5_1).toList) = false := beq_eq_false_iff_ne.mpr c7
                have c7b1 : ((rdOf ByteArray.empty l0 x5_1).toList != (rdOf ByteArray.empty l1 x5_1).toList) = true := bne_iff_ne.mpr c7
                obtain rfl := Option.some.inj H
                have p141 : 0 ≤ (x5_1 : Int) := of_decide_eq_true (by first | (with_reducible assumption) | assumption)
                have q141 : x5_1 < (l0.length : Int) := of_decide_eq_true (by first | (with_reducible assumption) | assumption)
                obtain ⟨ad141, e141, hx141_0⟩ := Kd.at_string HR0.out x5_1 p141 q141
                cases e141
                replace p141 := eq_true p141
                replace q141 := eq_true q141
                have p142 : 0 ≤ (x5_1 : Int) := of_decide_eq_true (by first | (with_reducible assumption) | assumption)
                have q142 : x5_1 < (l1.length : Int) := of_decide_eq_true (by first | (with_reducible assumption) | assumption)
                obtain ⟨ad142, e142, hx142_0⟩ := Kd.at_string HR1.out x5_1 p142 q142
                cases e142
                replace p142 := eq_true p142
                replace q142 := eq_true q142
                go_wp2
                repeat (go_quiet (fail); try go_wp2)
                go_ret
                exact ⟨by first | rfl | (simp; done) | (simp [*]; done), by repeat (first | exact Drawn0.refl _ | apply Drawn0.step)⟩
            · rw [if_neg c6] at H
              exact absurd H (by simp)
          · rw [if_neg c5] at H
            exact absurd H (by simp)
        · rw [if_neg c4] at H
          have c4b0 : decide (x5_1 < (l0.length : Int)) = false := decide_eq_false c4
          clear c4
          obtain rfl := Option.some.inj H
          go_wp2
          repeat (go_quiet (fail); try go_wp2)
          go_ret
          exact ⟨by first | rfl | (simp; done) | (simp [*]; done), by repeat (first | exact Drawn0.refl _ | apply Drawn0.step)⟩
  · rw [if_neg c3] at H
    have c3b0 : ((l0.length : Int) == (l1.length : Int)) = false := beq_eq_false_iff_ne.mpr c3
    have c3b1 : ((l0.length : Int) != (l1.length : Int)) = true := bne_iff_ne.mpr c3
    have c3b2 : (l0.length == l1.length) = false := by first | simpa using c3 | (simp at c3 ⊢; omega)
    obtain rfl := Option.some.inj H
    go_enter Tryz.func16, Tryz.ntmps16
    go_wp2
    repeat (go_quiet (fail); try go_wp2)
    go_ret
    exact ⟨by first | rfl | (simp; done) | (simp [*]; done), by repeat (first | exact Drawn0.refl _ | apply Drawn0.step)⟩
def fluxionlaw16_number.f (k : Nat) (a0 : ByteArray) (a1 : Int) (a2 : Int) : Option (Bool) := (lex_Int.f k a0).bind fun bt143 => (if bt143.1 = a1 then (some (bt143.2 == a2)) else (some false))
theorem fluxionlaw16_number.mono : ∀ a0 a1 a2 k, LeO (fluxionlaw16_number.f k a0 a1 a2) (fluxionlaw16_number.f (k + 1) a0 a1 a2) := by
  intro a0 a1 a2 k
  unfold fluxionlaw16_number.f
  repeat' first
      | (with_reducible exact lex_Int.mono _ _)
      | (with_reducible exact LeO.refl _)
      | (with_reducible exact LeO.none _)
      | (with_reducible refine LeO.ite ?_ ?_)
      | (with_reducible refine LeO.bind ?_ (fun _ => ?_))
      | exact lex_Int.mono _ _
      | exact LeO.none _
      | refine LeO.ite ?_ ?_
      | refine LeO.bind ?_ (fun _ => ?_)
set_option maxHeartbeats 8000000 in
set_option maxRecDepth 100000 in
theorem fluxionlaw16_number.calls (k : Nat) (a0 : ByteArray) (a1 : Int) (a2 : Int) (r : Bool) (w : World) (hv : RangeVar w) (h : fluxionlaw16_number.f k a0 a1 a2 = some r) :
    Calls Tryz.prog 22 #[.string a0, .int .i64 a1, .int .i64 a2] w fun e w' => e = .returned (.bool r) ∧ Below w.heap.size w w' := by
  have HRV := Aside0.mk hv
  clear hv
  have HB := Aside0.mk (Below.refl w.heap.size w)
  have H : ((lex_Int.f k a0).bind fun bt143 => (if bt143.1 = a1 then (some (bt143.2 == a2)) else (some false))) = some r := h
  clear h
  replace H := Option.bind_eq_some_iff.mp H
  obtain ⟨⟨t143, t144⟩, A40, H⟩ := H
  (try dsimp only at H)
  have A4 := Aside0.mk A40
  clear A40
  by_cases c5 : t143 = a1
  · rw [if_pos c5] at H
    have c5b0 : (t143 == a1) = true := beq_iff_eq.mpr c5
    have c5b1 : (t143 != a1) = false := bne_eq_false_iff_eq.mpr c5
    clear c5
    obtain rfl := Option.some.inj H
    go_enter Tryz.func22, Tryz.ntmps22
    go_wp2_with (first | ((with_reducible refine gC9 (f := 5) rfl ?_); refine goesL_ (some 11) rfl rfl Tryz.func5 (by kernel_rfl) rfl #[.string a0] rfl (by (try simp only [List.map_toArray, List.map_cons, List.map_nil]); first | done | rfl | (simp only [List.length_drop, List.length_take]; rfl)) ?_; (with_reducible refine (lex_Int.calls k a0 t143 t144 _ (RangeVar.below HRV.out (by repeat (first | (with_reducible first | exact HB.out | apply bA9 | apply bN9 | apply bD9) | exact HB.out))) A4.out).mono ?_); rintro e w6 ⟨rfl, hb⟩; refine ⟨_, rfl, ?_⟩; have n0_ := Aside0.mk (bT9 (by repeat (first | (with_reducible first | exact HB.out | apply bA9 | apply bN9 | apply bD9) | exact HB.out)) hb); clear HB; have HB := n0_; clear n0_; (try clear hb); (try clear hb2); (try clear hk); (try clear hi)))
    go_ret
    exact ⟨by first | rfl | (simp [eN9, eS9] <;> rfl) | (simp [*, eN9, eS9] <;> rfl), by repeat (first | (with_reducible first | exact HB.out | apply bA9 | apply bN9 | apply bD9) | exact HB.out)⟩
  · rw [if_neg c5] at H
    have c5b0 : (t143 == a1) = false := beq_eq_false_iff_ne.mpr c5
    have c5b1 : (t143 != a1) = true := bne_iff_ne.mpr c5
    obtain rfl := Option.some.inj H
    go_enter Tryz.func22, Tryz.ntmps22
    go_wp2_with (first | ((with_reducible refine gC9 (f := 5) rfl ?_); refine goesL_ (some 11) rfl rfl Tryz.func5 (by kernel_rfl) rfl #[.string a0] rfl (by (try simp only [List.map_toArray, List.map_cons, List.map_nil]); first | done | rfl | (simp only [List.length_drop, List.length_take]; rfl)) ?_; (with_reducible refine (lex_Int.calls k a0 t143 t144 _ (RangeVar.below HRV.out (by repeat (first | (with_reducible first | exact HB.out | apply bA9 | apply bN9 | apply bD9) | exact HB.out))) A4.out).mono ?_); rintro e w7 ⟨rfl, hb⟩; refine ⟨_, rfl, ?_⟩; have n0_ := Aside0.mk (bT9 (by repeat (first | (with_reducible first | exact HB.out | apply bA9 | apply bN9 | apply bD9) | exact HB.out)) hb); clear HB; have HB := n0_; clear n0_; (try clear hb); (try clear hb2); (try clear hk); (try clear hi)))
    go_ret
    exact ⟨by first | rfl | (simp [eN9, eS9] <;> rfl) | (simp [*, eN9, eS9] <;> rfl), by repeat (first | (with_reducible first | exact HB.out | apply bA9 | apply bN9 | apply bD9) | exact HB.out)⟩
def fluxionlaw16_known.f (k : Nat)  : Option (Bool) := (lex_Lines.f k (⟨#[97, 10, 10]⟩ : ByteArray)).bind fun bt145 => ((lex_Lines.f k (⟨#[97]⟩ : ByteArray)).bind fun bt149 => ((lex_Split.f k (⟨#[97, 32, 98]⟩ : ByteArray)).bind fun bt153 => ((lex_Split.f k (⟨#[97, 32, 32, 98]⟩ : ByteArray)).bind fun bt157 => ((lex_Split.f k (⟨#[32, 97]⟩ : ByteArray)).bind fun bt161 => ((lex_Ref.f (⟨#[37, 55]⟩ : ByteArray)).bind fun bt165 => ((lex_Ref.f (⟨#[37, 45, 49]⟩ : ByteArray)).bind fun bt167 => (if bt145.2 = 0 then ((fluxionref16_SameTexts.f k bt145.1 (([(⟨#[97]⟩ : ByteArray), (⟨#[]⟩ : ByteArray)] : List ByteArray))).bind fun t172 => (if t172 = true then (if bt149.2 = 19 then (if bt153.2 = 0 then ((fluxionref16_SameTexts.f k bt153.1 (([(⟨#[97]⟩ : ByteArray), (⟨#[98]⟩ : ByteArray)] : List ByteArray))).bind fun t176 => (if t176 = true then (if bt157.2 = 19 then (if bt161.2 = 19 then ((fluxionlaw16_number.f k (⟨#[45, 49, 50]⟩ : ByteArray) (-12) 0).bind fun t177 => (if t177 = true then ((fluxionlaw16_number.f k (⟨#[45, 48]⟩ : ByteArray) 0 19).bind fun t178 => (if t178 = true then ((fluxionlaw16_number.f k (⟨#[48, 49]⟩ : ByteArray) 0 19).bind fun t179 => (if t179 = true then ((fluxionlaw16_number.f k (⟨#[50, 49, 52, 55, 52, 56, 51, 54, 52, 56]⟩ : ByteArray) 0 14).bind fun t180 => (if t180 = true then (if bt165.1 = 7 then (if bt165.2 = 0 then (if bt167.2 = 19 then ((lex_Name.f (⟨#[120, 95, 49]⟩ : ByteArray)).bind fun t181 => (if t181 = 0 then ((lex_Name.f (⟨#[126, 48]⟩ : ByteArray)).bind fun t182 => (if t182 = 0 then ((lex_Name.f (⟨#[126, 48, 49]⟩ : ByteArray)).bind fun t183 => (if t183 = 15 then ((lex_Name.f (⟨#[88]⟩ : ByteArray)).bind fun t184 => (some (t184 == 15))) else (none))) else (none))) else (none))) else (none)) else (none)) else (none)) else (none))) else (none))) else (none))) else (none))) else (none)) else (none)) else (none))) else (none)) else (none)) else (none))) else (none))))))))
theorem fluxionlaw16_known.mono : ∀ k, LeO (fluxionlaw16_known.f k ) (fluxionlaw16_known.f (k + 1) ) := by
  intro  k
  unfold fluxionlaw16_known.f
  repeat' first
      | (with_reducible exact fluxionlaw16_number.mono _ _ _ _)
      | (with_reducible exact fluxionref16_SameTexts.mono _ _ _)
      | (with_reducible exact lex_Lines.mono _ _)
      | (with_reducible exact lex_Split.mono _ _)
      | (with_reducible exact LeO.refl _)
      | (with_reducible exact LeO.none _)
      | (with_reducible refine LeO.ite ?_ ?_)
      | (with_reducible refine LeO.bind ?_ (fun _ => ?_))
      | exact fluxionlaw16_number.mono _ _ _ _
      | exact fluxionref16_SameTexts.mono _ _ _
      | exact lex_Lines.mono _ _
      | exact lex_Split.mono _ _
      | exact LeO.none _
      | refine LeO.ite ?_ ?_
      | refine LeO.bind ?_ (fun _ => ?_)
set_option maxHeartbeats 8000000 in
set_option maxRecDepth 100000 in
theorem fluxionlaw16_known.calls (k : Nat)  (r : Bool) (w : World) (hv : RangeVar w) (h : fluxionlaw16_known.f k  = some r) :
    Calls Tryz.prog 9 #[] w fun e w' => e = .returned (.bool r) ∧ Below w.heap.size w w' := by
  have HRV := Aside0.mk hv
  clear hv
  have HB := Aside0.mk (Below.refl w.heap.size w)
  have H : ((lex_Lines.f k (⟨#[97, 10, 10]⟩ : ByteArray)).bind fun bt145 => ((lex_Lines.f k (⟨#[97]⟩ : ByteArray)).bind fun bt149 => ((lex_Split.f k (⟨#[97, 32, 98]⟩ : ByteArray)).bind fun bt153 => ((lex_Split.f k (⟨#[97, 32, 32, 98]⟩ : ByteArray)).bind fun bt157 => ((lex_Split.f k (⟨#[32, 97]⟩ : ByteArray)).bind fun bt161 => ((lex_Ref.f (⟨#[37, 55]⟩ : ByteArray)).bind fun bt165 => ((lex_Ref.f (⟨#[37, 45, 49]⟩ : ByteArray)).bind fun bt167 => (if bt145.2 = 0 then ((fluxionref16_SameTexts.f k bt145.1 (([(⟨#[97]⟩ : ByteArray), (⟨#[]⟩ : ByteArray)] : List ByteArray))).bind fun t172 => (if t172 = true then (if bt149.2 = 19 then (if bt153.2 = 0 then ((fluxionref16_SameTexts.f k bt153.1 (([(⟨#[97]⟩ : ByteArray), (⟨#[98]⟩ : ByteArray)] : List ByteArray))).bind fun t176 => (if t176 = true then (if bt157.2 = 19 then (if bt161.2 = 19 then ((fluxionlaw16_number.f k (⟨#[45, 49, 50]⟩ : ByteArray) (-12) 0).bind fun t177 => (if t177 = true then ((fluxionlaw16_number.f k (⟨#[45, 48]⟩ : ByteArray) 0 19).bind fun t178 => (if t178 = true then ((fluxionlaw16_number.f k (⟨#[48, 49]⟩ : ByteArray) 0 19).bind fun t179 => (if t179 = true then ((fluxionlaw16_number.f k (⟨#[50, 49, 52, 55, 52, 56, 51, 54, 52, 56]⟩ : ByteArray) 0 14).bind fun t180 => (if t180 = true then (if bt165.1 = 7 then (if bt165.2 = 0 then (if bt167.2 = 19 then ((lex_Name.f (⟨#[120, 95, 49]⟩ : ByteArray)).bind fun t181 => (if t181 = 0 then ((lex_Name.f (⟨#[126, 48]⟩ : ByteArray)).bind fun t182 => (if t182 = 0 then ((lex_Name.f (⟨#[126, 48, 49]⟩ : ByteArray)).bind fun t183 => (if t183 = 15 then ((lex_Name.f (⟨#[88]⟩ : ByteArray)).bind fun t184 => (some (t184 == 15))) else (none))) else (none))) else (none))) else (none)) else (none)) else (none)) else (none))) else (none))) else (none))) else (none))) else (none)) else (none)) else (none))) else (none)) else (none)) else (none))) else (none))))))))) = some r := h
  clear h
  replace H := Option.bind_eq_some_iff.mp H
  obtain ⟨⟨t145, t146⟩, A10, H⟩ := H
  (try dsimp only at H)
  have A1 := Aside0.mk A10
  clear A10
  replace H := Option.bind_eq_some_iff.mp H
  obtain ⟨⟨t149, t150⟩, A20, H⟩ := H
  (try dsimp only at H)
  have A2 := Aside0.mk A20
  clear A20
  replace H := Option.bind_eq_some_iff.mp H
  obtain ⟨⟨t153, t154⟩, A30, H⟩ := H
  (try dsimp only at H)
  have A3 := Aside0.mk A30
  clear A30
  replace H := Option.bind_eq_some_iff.mp H
  obtain ⟨⟨t157, t158⟩, A40, H⟩ := H
  (try dsimp only at H)
  have A4 := Aside0.mk A40
  clear A40
  replace H := Option.bind_eq_some_iff.mp H
  obtain ⟨⟨t161, t162⟩, A50, H⟩ := H
  (try dsimp only at H)
  have A5 := Aside0.mk A50
  clear A50
  replace H := Option.bind_eq_some_iff.mp H
  obtain ⟨⟨t165, t166⟩, A60, H⟩ := H
  (try dsimp only at H)
  have A6 := Aside0.mk A60
  clear A60
  replace H := Option.bind_eq_some_iff.mp H
  obtain ⟨⟨t167, t168⟩, A70, H⟩ := H
  (try dsimp only at H)
  have A7 := Aside0.mk A70
  clear A70
  by_cases c8 : t146 = 0
  · rw [if_pos c8] at H
    have c8b0 : (t146 == 0) = true := beq_iff_eq.mpr c8
    have c8b1 : (t146 != 0) = false := bne_eq_false_iff_eq.mpr c8
    clear c8
    obtain ⟨y169, hy169⟩ : ∃ y_ : List ByteArray, y_ = (([(⟨#[97]⟩ : ByteArray), (⟨#[]⟩ : ByteArray)] : List ByteArray)) := ⟨_, rfl⟩
    replace H : ((fluxionref16_SameTexts.f k t145 y169).bind fun t172 => (if t172 = true then (if t150 = 19 then (if t154 = 0 then ((fluxionref16_SameTexts.f k t153 (([(⟨#[97]⟩ : ByteArray), (⟨#[98]⟩ : ByteArray)] : List ByteArray))).bind fun t176 => (if t176 = true then (if t158 = 19 then (if t162 = 19 then ((fluxionlaw16_number.f k (⟨#[45, 49, 50]⟩ : ByteArray) (-12) 0).bind fun t177 => (if t177 = true then ((fluxionlaw16_number.f k (⟨#[45, 48]⟩ : ByteArray) 0 19).bind fun t178 => (if t178 = true then ((fluxionlaw16_number.f k (⟨#[48, 49]⟩ : ByteArray) 0 19).bind fun t179 => (if t179 = true then ((fluxionlaw16_number.f k (⟨#[50, 49, 52, 55, 52, 56, 51, 54, 52, 56]⟩ : ByteArray) 0 14).bind fun t180 => (if t180 = true then (if t165 = 7 then (if t166 = 0 then (if t168 = 19 then ((lex_Name.f (⟨#[120, 95, 49]⟩ : ByteArray)).bind fun t181 => (if t181 = 0 then ((lex_Name.f (⟨#[126, 48]⟩ : ByteArray)).bind fun t182 => (if t182 = 0 then ((lex_Name.f (⟨#[126, 48, 49]⟩ : ByteArray)).bind fun t183 => (if t183 = 15 then ((lex_Name.f (⟨#[88]⟩ : ByteArray)).bind fun t184 => (some (t184 == 15))) else (none))) else (none))) else (none))) else (none)) else (none)) else (none)) else (none))) else (none))) else (none))) else (none))) else (none)) else (none)) else (none))) else (none)) else (none)) else (none))) = some r := by first | (rw [hy169]; with_reducible exact H) | (have H2_ := (Option.bind_some _ _).symm.trans H; rw [hy169]; with_reducible exact H2_) | (have H2_ := (Option.bind_some _ _).symm.trans H; with_reducible exact H2_) | with_reducible exact H | (rw [hy169]; exact H) | exact H
    have Ny169 := Aside0.mk hy169
    clear hy169
    replace H := Option.bind_eq_some_iff.mp H
    obtain ⟨t172, A90, H⟩ := H
    (try dsimp only at H)
    have A9 := Aside0.mk A90
    clear A90
    by_cases c10 : t172 = true
    · subst c10
      have H1 : (if t150 = 19 then (if t154 = 0 then ((fluxionref16_SameTexts.f k t153 (([(⟨#[97]⟩ : ByteArray), (⟨#[98]⟩ : ByteArray)] : List ByteArray))).bind fun t176 => (if t176 = true then (if t158 = 19 then (if t162 = 19 then ((fluxionlaw16_number.f k (⟨#[45, 49, 50]⟩ : ByteArray) (-12) 0).bind fun t177 => (if t177 = true then ((fluxionlaw16_number.f k (⟨#[45, 48]⟩ : ByteArray) 0 19).bind fun t178 => (if t178 = true then ((fluxionlaw16_number.f k (⟨#[48, 49]⟩ : ByteArray) 0 19).bind fun t179 => (if t179 = true then ((fluxionlaw16_number.f k (⟨#[50, 49, 52, 55, 52, 56, 51, 54, 52, 56]⟩ : ByteArray) 0 14).bind fun t180 => (if t180 = true then (if t165 = 7 then (if t166 = 0 then (if t168 = 19 then ((lex_Name.f (⟨#[120, 95, 49]⟩ : ByteArray)).bind fun t181 => (if t181 = 0 then ((lex_Name.f (⟨#[126, 48]⟩ : ByteArray)).bind fun t182 => (if t182 = 0 then ((lex_Name.f (⟨#[126, 48, 49]⟩ : ByteArray)).bind fun t183 => (if t183 = 15 then ((lex_Name.f (⟨#[88]⟩ : ByteArray)).bind fun t184 => (some (t184 == 15))) else (none))) else (none))) else (none))) else (none)) else (none)) else (none)) else (none))) else (none))) else (none))) else (none))) else (none)) else (none)) else (none))) else (none)) else (none)) = some r := by rw [if_pos rfl] at H; exact H
      clear H
      have H := H1
      clear H1
      by_cases c11 : t150 = 19
      · rw [if_pos c11] at H
        have c11b0 : (t150 == 19) = true := beq_iff_eq.mpr c11
        have c11b1 : (t150 != 19) = false := bne_eq_false_iff_eq.mpr c11
        clear c11
        by_cases c12 : t154 = 0
        · rw [if_pos c12] at H
          have c12b0 : (t154 == 0) = true := beq_iff_eq.mpr c12
          have c12b1 : (t154 != 0) = false := bne_eq_false_iff_eq.mpr c12
          clear c12
          obtain ⟨y173, hy173⟩ : ∃ y_ : List ByteArray, y_ = (([(⟨#[97]⟩ : ByteArray), (⟨#[98]⟩ : ByteArray)] : List ByteArray)) := ⟨_, rfl⟩
          replace H : ((fluxionref16_SameTexts.f k t153 y173).bind fun t176 => (if t176 = true then (if t158 = 19 then (if t162 = 19 then ((fluxionlaw16_number.f k (⟨#[45, 49, 50]⟩ : ByteArray) (-12) 0).bind fun t177 => (if t177 = true then ((fluxionlaw16_number.f k (⟨#[45, 48]⟩ : ByteArray) 0 19).bind fun t178 => (if t178 = true then ((fluxionlaw16_number.f k (⟨#[48, 49]⟩ : ByteArray) 0 19).bind fun t179 => (if t179 = true then ((fluxionlaw16_number.f k (⟨#[50, 49, 52, 55, 52, 56, 51, 54, 52, 56]⟩ : ByteArray) 0 14).bind fun t180 => (if t180 = true then (if t165 = 7 then (if t166 = 0 then (if t168 = 19 then ((lex_Name.f (⟨#[120, 95, 49]⟩ : ByteArray)).bind fun t181 => (if t181 = 0 then ((lex_Name.f (⟨#[126, 48]⟩ : ByteArray)).bind fun t182 => (if t182 = 0 then ((lex_Name.f (⟨#[126, 48, 49]⟩ : ByteArray)).bind fun t183 => (if t183 = 15 then ((lex_Name.f (⟨#[88]⟩ : ByteArray)).bind fun t184 => (some (t184 == 15))) else (none))) else (none))) else (none))) else (none)) else (none)) else (none)) else (none))) else (none))) else (none))) else (none))) else (none)) else (none)) else (none))) = some r := by first | (rw [hy173]; with_reducible exact H) | (have H2_ := (Option.bind_some _ _).symm.trans H; rw [hy173]; with_reducible exact H2_) | (have H2_ := (Option.bind_some _ _).symm.trans H; with_reducible exact H2_) | with_reducible exact H | (rw [hy173]; exact H) | exact H
          have Ny173 := Aside0.mk hy173
          clear hy173
          replace H := Option.bind_eq_some_iff.mp H
          obtain ⟨t176, A130, H⟩ := H
          (try dsimp only at H)
          have A13 := Aside0.mk A130
          clear A130
          by_cases c14 : t176 = true
          · subst c14
            have H1 : (if t158 = 19 then (if t162 = 19 then ((fluxionlaw16_number.f k (⟨#[45, 49, 50]⟩ : ByteArray) (-12) 0).bind fun t177 => (if t177 = true then ((fluxionlaw16_number.f k (⟨#[45, 48]⟩ : ByteArray) 0 19).bind fun t178 => (if t178 = true then ((fluxionlaw16_number.f k (⟨#[48, 49]⟩ : ByteArray) 0 19).bind fun t179 => (if t179 = true then ((fluxionlaw16_number.f k (⟨#[50, 49, 52, 55, 52, 56, 51, 54, 52, 56]⟩ : ByteArray) 0 14).bind fun t180 => (if t180 = true then (if t165 = 7 then (if t166 = 0 then (if t168 = 19 then ((lex_Name.f (⟨#[120, 95, 49]⟩ : ByteArray)).bind fun t181 => (if t181 = 0 then ((lex_Name.f (⟨#[126, 48]⟩ : ByteArray)).bind fun t182 => (if t182 = 0 then ((lex_Name.f (⟨#[126, 48, 49]⟩ : ByteArray)).bind fun t183 => (if t183 = 15 then ((lex_Name.f (⟨#[88]⟩ : ByteArray)).bind fun t184 => (some (t184 == 15))) else (none))) else (none))) else (none))) else (none)) else (none)) else (none)) else (none))) else (none))) else (none))) else (none))) else (none)) else (none)) = some r := by rw [if_pos rfl] at H; exact H
            clear H
            have H := H1
            clear H1
            by_cases c15 : t158 = 19
            · rw [if_pos c15] at H
              have c15b0 : (t158 == 19) = true := beq_iff_eq.mpr c15
              have c15b1 : (t158 != 19) = false := bne_eq_false_iff_eq.mpr c15
              clear c15
              by_cases c16 : t162 = 19
              · rw [if_pos c16] at H
                have c16b0 : (t162 == 19) = true := beq_iff_eq.mpr c16
                have c16b1 : (t162 != 19) = false := bne_eq_false_iff_eq.mpr c16
                clear c16
                replace H := Option.bind_eq_some_iff.mp H
                obtain ⟨t177, A170, H⟩ := H
                (try dsimp only at H)
                have A17 := Aside0.mk A170
                clear A170
                by_cases c18 : t177 = true
                · subst c18
                  have H1 : ((fluxionlaw16_number.f k (⟨#[45, 48]⟩ : ByteArray) 0 19).bind fun t178 => (if t178 = true then ((fluxionlaw16_number.f k (⟨#[48, 49]⟩ : ByteArray) 0 19).bind fun t179 => (if t179 = true then ((fluxionlaw16_number.f k (⟨#[50, 49, 52, 55, 52, 56, 51, 54, 52, 56]⟩ : ByteArray) 0 14).bind fun t180 => (if t180 = true then (if t165 = 7 then (if t166 = 0 then (if t168 = 19 then ((lex_Name.f (⟨#[120, 95, 49]⟩ : ByteArray)).bind fun t181 => (if t181 = 0 then ((lex_Name.f (⟨#[126, 48]⟩ : ByteArray)).bind fun t182 => (if t182 = 0 then ((lex_Name.f (⟨#[126, 48, 49]⟩ : ByteArray)).bind fun t183 => (if t183 = 15 then ((lex_Name.f (⟨#[88]⟩ : ByteArray)).bind fun t184 => (some (t184 == 15))) else (none))) else (none))) else (none))) else (none)) else (none)) else (none)) else (none))) else (none))) else (none))) = some r := by rw [if_pos rfl] at H; exact H
                  clear H
                  have H := H1
                  clear H1
                  replace H := Option.bind_eq_some_iff.mp H
                  obtain ⟨t178, A190, H⟩ := H
                  (try dsimp only at H)
                  have A19 := Aside0.mk A190
                  clear A190
                  by_cases c20 : t178 = true
                  · subst c20
                    have H1 : ((fluxionlaw16_number.f k (⟨#[48, 49]⟩ : ByteArray) 0 19).bind fun t179 => (if t179 = true then ((fluxionlaw16_number.f k (⟨#[50, 49, 52, 55, 52, 56, 51, 54, 52, 56]⟩ : ByteArray) 0 14).bind fun t180 => (if t180 = true then (if t165 = 7 then (if t166 = 0 then (if t168 = 19 then ((lex_Name.f (⟨#[120, 95, 49]⟩ : ByteArray)).bind fun t181 => (if t181 = 0 then ((lex_Name.f (⟨#[126, 48]⟩ : ByteArray)).bind fun t182 => (if t182 = 0 then ((lex_Name.f (⟨#[126, 48, 49]⟩ : ByteArray)).bind fun t183 => (if t183 = 15 then ((lex_Name.f (⟨#[88]⟩ : ByteArray)).bind fun t184 => (some (t184 == 15))) else (none))) else (none))) else (none))) else (none)) else (none)) else (none)) else (none))) else (none))) = some r := by rw [if_pos rfl] at H; exact H
                    clear H
                    have H := H1
                    clear H1
                    replace H := Option.bind_eq_some_iff.mp H
                    obtain ⟨t179, A210, H⟩ := H
                    (try dsimp only at H)
                    have A21 := Aside0.mk A210
                    clear A210
                    by_cases c22 : t179 = true
                    · subst c22
                      have H1 : ((fluxionlaw16_number.f k (⟨#[50, 49, 52, 55, 52, 56, 51, 54, 52, 56]⟩ : ByteArray) 0 14).bind fun t180 => (if t180 = true then (if t165 = 7 then (if t166 = 0 then (if t168 = 19 then ((lex_Name.f (⟨#[120, 95, 49]⟩ : ByteArray)).bind fun t181 => (if t181 = 0 then ((lex_Name.f (⟨#[126, 48]⟩ : ByteArray)).bind fun t182 => (if t182 = 0 then ((lex_Name.f (⟨#[126, 48, 49]⟩ : ByteArray)).bind fun t183 => (if t183 = 15 then ((lex_Name.f (⟨#[88]⟩ : ByteArray)).bind fun t184 => (some (t184 == 15))) else (none))) else (none))) else (none))) else (none)) else (none)) else (none)) else (none))) = some r := by rw [if_pos rfl] at H; exact H
                      clear H
                      have H := H1
                      clear H1
                      replace H := Option.bind_eq_some_iff.mp H
                      obtain ⟨t180, A230, H⟩ := H
                      (try dsimp only at H)
                      have A23 := Aside0.mk A230
                      clear A230
                      by_cases c24 : t180 = true
                      · subst c24
                        have H1 : (if t165 = 7 then (if t166 = 0 then (if t168 = 19 then ((lex_Name.f (⟨#[120, 95, 49]⟩ : ByteArray)).bind fun t181 => (if t181 = 0 then ((lex_Name.f (⟨#[126, 48]⟩ : ByteArray)).bind fun t182 => (if t182 = 0 then ((lex_Name.f (⟨#[126, 48, 49]⟩ : ByteArray)).bind fun t183 => (if t183 = 15 then ((lex_Name.f (⟨#[88]⟩ : ByteArray)).bind fun t184 => (some (t184 == 15))) else (none))) else (none))) else (none))) else (none)) else (none)) else (none)) = some r := by rw [if_pos rfl] at H; exact H
                        clear H
                        have H := H1
                        clear H1
                        by_cases c25 : t165 = 7
                        · rw [if_pos c25] at H
                          have c25b0 : (t165 == 7) = true := beq_iff_eq.mpr c25
                          have c25b1 : (t165 != 7) = false := bne_eq_false_iff_eq.mpr c25
                          clear c25
                          by_cases c26 : t166 = 0
                          · rw [if_pos c26] at H
                            have c26b0 : (t166 == 0) = true := beq_iff_eq.mpr c26
                            have c26b1 : (t166 != 0) = false := bne_eq_false_iff_eq.mpr c26
                            clear c26
                            by_cases c27 : t168 = 19
                            · rw [if_pos c27] at H
                              have c27b0 : (t168 == 19) = true := beq_iff_eq.mpr c27
                              have c27b1 : (t168 != 19) = false := bne_eq_false_iff_eq.mpr c27
                              clear c27
                              replace H := Option.bind_eq_some_iff.mp H
                              obtain ⟨t181, A280, H⟩ := H
                              (try dsimp only at H)
                              have A28 := Aside0.mk A280
                              clear A280
                              by_cases c29 : t181 = 0
                              · rw [if_pos c29] at H
                                have c29b0 : (t181 == 0) = true := beq_iff_eq.mpr c29
                                have c29b1 : (t181 != 0) = false := bne_eq_false_iff_eq.mpr c29
                                clear c29
                                replace H := Option.bind_eq_some_iff.mp H
                                obtain ⟨t182, A300, H⟩ := H
                                (try dsimp only at H)
                                have A30 := Aside0.mk A300
                                clear A300
                                by_cases c31 : t182 = 0
                                · rw [if_pos c31] at H
                                  have c31b0 : (t182 == 0) = true := beq_iff_eq.mpr c31
                                  have c31b1 : (t182 != 0) = false := bne_eq_false_iff_eq.mpr c31
                                  clear c31
                                  replace H := Option.bind_eq_some_iff.mp H
                                  obtain ⟨t183, A320, H⟩ := H
                                  (try dsimp only at H)
                                  have A32 := Aside0.mk A320
                                  clear A320
                                  by_cases c33 : t183 = 15
                                  · rw [if_pos c33] at H
                                    have c33b0 : (t183 == 15) = true := beq_iff_eq.mpr c33
                                    have c33b1 : (t183 != 15) = false := bne_eq_false_iff_eq.mpr c33
                                    clear c33
                                    replace H := Option.bind_eq_some_iff.mp H
                                    obtain ⟨t184, A340, H⟩ := H
                                    replace H : (some (t184 == 15)) = some r := H
                                    have A34 := Aside0.mk A340
                                    clear A340
                                    obtain rfl := Option.some.inj H
                                    go_enter Tryz.func9, Tryz.ntmps9
                                    go_wp2_with (first | ((with_reducible refine gC9 (f := 21) rfl ?_); refine goesL_ (some 16) rfl rfl Tryz.func21 (by kernel_rfl) rfl #[.string (⟨#[97, 10, 10]⟩ : ByteArray)] rfl (by (try simp only [List.map_toArray, List.map_cons, List.map_nil]); first | done | rfl | (simp only [List.length_drop, List.length_take]; rfl)) ?_; (with_reducible refine (lex_Lines.calls k (⟨#[97, 10, 10]⟩ : ByteArray) t145 t146 _ A1.out).mono ?_); rintro e w35 ⟨v147, rfl, ho0, hb⟩; refine ⟨_, rfl, ?_⟩; have n0_ := Aside0.mk (Kd.rL9 ho0 (bZ9 (by repeat (first | (with_reducible first | exact HB.out | apply bA9 | apply bN9 | apply bD9) | exact HB.out)))); have n1_ := Aside0.mk (bT9 (by repeat (first | (with_reducible first | exact HB.out | apply bA9 | apply bN9 | apply bD9) | exact HB.out)) hb); clear HB; have HO148 := n0_; have HB := n1_; clear n0_ n1_; (try clear hb); (try clear hb2); (try clear hk); (try clear hi); (try clear ho0)) | ((with_reducible refine gC9 (f := 21) rfl ?_); refine goesL_ (some 20) rfl rfl Tryz.func21 (by kernel_rfl) rfl #[.string (⟨#[97]⟩ : ByteArray)] rfl (by (try simp only [List.map_toArray, List.map_cons, List.map_nil]); first | done | rfl | (simp only [List.length_drop, List.length_take]; rfl)) ?_; (with_reducible refine (lex_Lines.calls k (⟨#[97]⟩ : ByteArray) t149 t150 _ A2.out).mono ?_); rintro e w36 ⟨v151, rfl, ho0, hb⟩; refine ⟨_, rfl, ?_⟩; have n0_ := Aside0.mk (Kd.R_elder' (by (with_reducible repeat (first | apply Kd.rA9 | apply Kd.rN9 | apply Kd.rD9)); exact HO148.out) (Kd.R_base ho0) hb); have n1_ := Aside0.mk (Kd.rL9 (Kd.R_new' ho0 (Kd.R_lt (by (with_reducible repeat (first | apply Kd.rA9 | apply Kd.rN9 | apply Kd.rD9)); exact HO148.out))) (bZ9 (by repeat (first | (with_reducible first | exact HB.out | apply bA9 | apply bN9 | apply bD9) | exact HB.out)))); have n2_ := Aside0.mk (bT9 (by repeat (first | (with_reducible first | exact HB.out | apply bA9 | apply bN9 | apply bD9) | exact HB.out)) hb); clear HO148; clear HB; have HO148 := n0_; have HO152 := n1_; have HB := n2_; clear n0_ n1_ n2_; (try clear hb); (try clear hb2); (try clear hk); (try clear hi); (try clear ho0)) | ((with_reducible refine gC9 (f := 15) rfl ?_); refine goesL_ (some 24) rfl rfl Tryz.func15 (by kernel_rfl) rfl #[.string (⟨#[97, 32, 98]⟩ : ByteArray)] rfl (by (try simp only [List.map_toArray, List.map_cons, List.map_nil]); first | done | rfl | (simp only [List.length_drop, List.length_take]; rfl)) ?_; (with_reducible refine (lex_Split.calls k (⟨#[97, 32, 98]⟩ : ByteArray) t153 t154 _ A3.out).mono ?_); rintro e w37 ⟨v155, rfl, ho0, hb⟩; refine ⟨_, rfl, ?_⟩; have n0_ := Aside0.mk (Kd.R_elder' (by (with_reducible repeat (first | apply Kd.rA9 | apply Kd.rN9 | apply Kd.rD9)); exact HO148.out) (Kd.R_base ho0) hb); have n1_ := Aside0.mk (Kd.R_elder' (by (with_reducible repeat (first | apply Kd.rA9 | apply Kd.rN9 | apply Kd.rD9)); exact HO152.out) (Kd.R_base ho0) hb); have n2_ := Aside0.mk (Kd.rL9 (Kd.R_new' (Kd.R_new' ho0 (Kd.R_lt (by (with_reducible repeat (first | apply Kd.rA9 | apply Kd.rN9 | apply Kd.rD9)); exact HO148.out))) (Kd.R_lt (by (with_reducible repeat (first | apply Kd.rA9 | apply Kd.rN9 | apply Kd.rD9)); exact HO152.out))) (bZ9 (by repeat (first | (with_reducible first | exact HB.out | apply bA9 | apply bN9 | apply bD9) | exact HB.out)))); have n3_ := Aside0.mk (bT9 (by repeat (first | (with_reducible first | exact HB.out | apply bA9 | apply bN9 | apply bD9) | exact HB.out)) hb); clear HO148; clear HO152; clear HB; have HO148 := n0_; have HO152 := n1_; have HO156 := n2_; have HB := n3_; clear n0_ n1_ n2_ n3_; (try clear hb); (try clear hb2); (try clear hk); (try clear hi); (try clear ho0)) | ((with_reducible refine gC9 (f := 15) rfl ?_); refine goesL_ (some 28) rfl rfl Tryz.func15 (by kernel_rfl) rfl #[.string (⟨#[97, 32, 32, 98]⟩ : ByteArray)] rfl (by (try simp only [List.map_toArray, List.map_cons, List.map_nil]); first | done | rfl | (simp only [List.length_drop, List.length_take]; rfl)) ?_; (with_reducible refine (lex_Split.calls k (⟨#[97, 32, 32, 98]⟩ : ByteArray) t157 t158 _ A4.out).mono ?_); rintro e w38 ⟨v159, rfl, ho0, hb⟩; refine ⟨_, rfl, ?_⟩; have n0_ := Aside0.mk (Kd.R_elder' (by (with_reducible repeat (first | apply Kd.rA9 | apply Kd.rN9 | apply Kd.rD9)); exact HO148.out) (Kd.R_base ho0) hb); have n1_ := Aside0.mk (Kd.R_elder' (by (with_reducible repeat (first | apply Kd.rA9 | apply Kd.rN9 | apply Kd.rD9)); exact HO152.out) (Kd.R_base ho0) hb); have n2_ := Aside0.mk (Kd.R_elder' (by (with_reducible repeat (first | apply Kd.rA9 | apply Kd.rN9 | apply Kd.rD9)); exact HO156.out) (Kd.R_base ho0) hb); have n3_ := Aside0.mk (Kd.rL9 (Kd.R_new' (Kd.R_new' (Kd.R_new' ho0 (Kd.R_lt (by (with_reducible repeat (first | apply Kd.rA9 | apply Kd.rN9 | apply Kd.rD9)); exact HO148.out))) (Kd.R_lt (by (with_reducible repeat (first | apply Kd.rA9 | apply Kd.rN9 | apply Kd.rD9)); exact HO152.out))) (Kd.R_lt (by (with_reducible repeat (first | apply Kd.rA9 | apply Kd.rN9 | apply Kd.rD9)); exact HO156.out))) (bZ9 (by repeat (first | (with_reducible first | exact HB.out | apply bA9 | apply bN9 | apply bD9) | exact HB.out)))); have n4_ := Aside0.mk (bT9 (by repeat (first | (with_reducible first | exact HB.out | apply bA9 | apply bN9 | apply bD9) | exact HB.out)) hb); clear HO148; clear HO152; clear HO156; clear HB; have HO148 := n0_; have HO152 := n1_; have HO156 := n2_; have HO160 := n3_; have HB := n4_; clear n0_ n1_ n2_ n3_ n4_; (try clear hb); (try clear hb2); (try clear hk); (try clear hi); (try clear ho0)) | ((with_reducible refine gC9 (f := 15) rfl ?_); refine goesL_ (some 32) rfl rfl Tryz.func15 (by kernel_rfl) rfl #[.string (⟨#[32, 97]⟩ : ByteArray)] rfl (by (try simp only [List.map_toArray, List.map_cons, List.map_nil]); first | done | rfl | (simp only [List.length_drop, List.length_take]; rfl)) ?_; (with_reducible refine (lex_Split.calls k (⟨#[32, 97]⟩ : ByteArray) t161 t162 _ A5.out).mono ?_); rintro e w39 ⟨v163, rfl, ho0, hb⟩; refine ⟨_, rfl, ?_⟩; have n0_ := Aside0.mk (Kd.R_elder' (by (with_reducible repeat (first | apply Kd.rA9 | apply Kd.rN9 | apply Kd.rD9)); exact HO148.out) (Kd.R_base ho0) hb); have n1_ := Aside0.mk (Kd.R_elder' (by (with_reducible repeat (first | apply Kd.rA9 | apply Kd.rN9 | apply Kd.rD9)); exact HO152.out) (Kd.R_base ho0) hb); have n2_ := Aside0.mk (Kd.R_elder' (by (with_reducible repeat (first | apply Kd.rA9 | apply Kd.rN9 | apply Kd.rD9)); exact HO156.out) (Kd.R_base ho0) hb); have n3_ := Aside0.mk (Kd.R_elder' (by (with_reducible repeat (first | apply Kd.rA9 | apply Kd.rN9 | apply Kd.rD9)); exact HO160.out) (Kd.R_base ho0) hb); have n4_ := Aside0.mk (Kd.rL9 (Kd.R_new' (Kd.R_new' (Kd.R_new' (Kd.R_new' ho0 (Kd.R_lt (by (with_reducible repeat (first | apply Kd.rA9 | apply Kd.rN9 | apply Kd.rD9)); exact HO148.out))) (Kd.R_lt (by (with_reducible repeat (first | apply Kd.rA9 | apply Kd.rN9 | apply Kd.rD9)); exact HO152.out))) (Kd.R_lt (by (with_reducible repeat (first | apply Kd.rA9 | apply Kd.rN9 | apply Kd.rD9)); exact HO156.out))) (Kd.R_lt (by (with_reducible repeat (first | apply Kd.rA9 | apply Kd.rN9 | apply Kd.rD9)); exact HO160.out))) (bZ9 (by repeat (first | (with_reducible first | exact HB.out | apply bA9 | apply bN9 | apply bD9) | exact HB.out)))); have n5_ := Aside0.mk (bT9 (by repeat (first | (with_reducible first | exact HB.out | apply bA9 | apply bN9 | apply bD9) | exact HB.out)) hb); clear HO148; clear HO152; clear HO156; clear HO160; clear HB; have HO148 := n0_; have HO152 := n1_; have HO156 := n2_; have HO160 := n3_; have HO164 := n4_; have HB := n5_; clear n0_ n1_ n2_ n3_ n4_ n5_; (try clear hb); (try clear hb2); (try clear hk); (try clear hi); (try clear ho0)) | ((with_reducible refine gC9 (f := 7) rfl ?_); refine goesL_ (some 36) rfl rfl Tryz.func7 (by kernel_rfl) rfl #[.string (⟨#[37, 55]⟩ : ByteArray)] rfl (by (try simp only [List.map_toArray, List.map_cons, List.map_nil]); first | done | rfl | (simp only [List.length_drop, List.length_take]; rfl)) ?_; (with_reducible refine (lex_Ref.calls (⟨#[37, 55]⟩ : ByteArray) t165 t166 _ (RangeVar.below HRV.out (by repeat (first | (with_reducible first | exact HB.out | apply bA9 | apply bN9 | apply bD9) | exact HB.out))) A6.out).mono ?_); rintro e w40 ⟨rfl, hb⟩; refine ⟨_, rfl, ?_⟩; have n0_ := Aside0.mk (Kd.rB9 (by (with_reducible repeat (first | apply Kd.rA9 | apply Kd.rN9 | apply Kd.rD9)); exact HO148.out) hb); have n1_ := Aside0.mk (Kd.rB9 (by (with_reducible repeat (first | apply Kd.rA9 | apply Kd.rN9 | apply Kd.rD9)); exact HO152.out) hb); have n2_ := Aside0.mk (Kd.rB9 (by (with_reducible repeat (first | apply Kd.rA9 | apply Kd.rN9 | apply Kd.rD9)); exact HO156.out) hb); have n3_ := Aside0.mk (Kd.rB9 (by (with_reducible repeat (first | apply Kd.rA9 | apply Kd.rN9 | apply Kd.rD9)); exact HO160.out) hb); have n4_ := Aside0.mk (Kd.rB9 (by (with_reducible repeat (first | apply Kd.rA9 | apply Kd.rN9 | apply Kd.rD9)); exact HO164.out) hb); have n5_ := Aside0.mk (bT9 (by repeat (first | (with_reducible first | exact HB.out | apply bA9 | apply bN9 | apply bD9) | exact HB.out)) hb); clear HO148; clear HO152; clear HO156; clear HO160; clear HO164; clear HB; have HO148 := n0_; have HO152 := n1_; have HO156 := n2_; have HO160 := n3_; have HO164 := n4_; have HB := n5_; clear n0_ n1_ n2_ n3_ n4_ n5_; (try clear hb); (try clear hb2); (try clear hk); (try clear hi)) | ((with_reducible refine gC9 (f := 7) rfl ?_); refine goesL_ (some 40) rfl rfl Tryz.func7 (by kernel_rfl) rfl #[.string (⟨#[37, 45, 49]⟩ : ByteArray)] rfl (by (try simp only [List.map_toArray, List.map_cons, List.map_nil]); first | done | rfl | (simp only [List.length_drop, List.length_take]; rfl)) ?_; (with_reducible refine (lex_Ref.calls (⟨#[37, 45, 49]⟩ : ByteArray) t167 t168 _ (RangeVar.below HRV.out (by repeat (first | (with_reducible first | exact HB.out | apply bA9 | apply bN9 | apply bD9) | exact HB.out))) A7.out).mono ?_); rintro e w41 ⟨rfl, hb⟩; refine ⟨_, rfl, ?_⟩; have n0_ := Aside0.mk (Kd.rB9 (by (with_reducible repeat (first | apply Kd.rA9 | apply Kd.rN9 | apply Kd.rD9)); exact HO148.out) hb); have n1_ := Aside0.mk (Kd.rB9 (by (with_reducible repeat (first | apply Kd.rA9 | apply Kd.rN9 | apply Kd.rD9)); exact HO152.out) hb); have n2_ := Aside0.mk (Kd.rB9 (by (with_reducible repeat (first | apply Kd.rA9 | apply Kd.rN9 | apply Kd.rD9)); exact HO156.out) hb); have n3_ := Aside0.mk (Kd.rB9 (by (with_reducible repeat (first | apply Kd.rA9 | apply Kd.rN9 | apply Kd.rD9)); exact HO160.out) hb); have n4_ := Aside0.mk (Kd.rB9 (by (with_reducible repeat (first | apply Kd.rA9 | apply Kd.rN9 | apply Kd.rD9)); exact HO164.out) hb); have n5_ := Aside0.mk (bT9 (by repeat (first | (with_reducible first | exact HB.out | apply bA9 | apply bN9 | apply bD9) | exact HB.out)) hb); clear HO148; clear HO152; clear HO156; clear HO160; clear HO164; clear HB; have HO148 := n0_; have HO152 := n1_; have HO156 := n2_; have HO160 := n3_; have HO164 := n4_; have HB := n5_; clear n0_ n1_ n2_ n3_ n4_ n5_; (try clear hb); (try clear hb2); (try clear hk); (try clear hi)) | (go_at_call 16; obtain ⟨Aoz, coz, eoz⟩ := Kd.rS9 HO148.out; subst eoz; refine (fluxionref16_SameTexts.calls k _ _ t145 _ 2 [(⟨#[97]⟩ : ByteArray), (⟨#[]⟩ : ByteArray)] true _ ?side1 ?side2 ?side3 (Nat.le_refl _) (by rw [← Ny169.out]; exact A9.out)).mono ?_; (case side1 => repeat (first | exact (Kd.rR9 HO148.out).2.2 | (with_reducible refine Kd.cA9 ?_ _) | (with_reducible refine Kd.cN9 ?_ _) | (with_reducible refine Kd.cD9 ?_))); (case side2 => exact (Kd.rR9 HO148.out).2.1); (case side3 => exact litS_at _ [(⟨#[97]⟩ : ByteArray), (⟨#[]⟩ : ByteArray)] _ (by simp)); rintro e w' ⟨rfl, ⟨nd, rfl⟩⟩; have HO171 := HO148) | (go_at_call 16; obtain ⟨Aoz, coz, eoz⟩ := Kd.rS9 HO156.out; subst eoz; refine (fluxionref16_SameTexts.calls k _ _ t153 _ 2 [(⟨#[97]⟩ : ByteArray), (⟨#[98]⟩ : ByteArray)] true _ ?side1 ?side2 ?side3 (Nat.le_refl _) (by rw [← Ny173.out]; exact A13.out)).mono ?_; (case side1 => repeat (first | exact (Kd.rR9 HO156.out).2.2 | (with_reducible refine Kd.cA9 ?_ _) | (with_reducible refine Kd.cN9 ?_ _) | (with_reducible refine Kd.cD9 ?_))); (case side2 => exact (Kd.rR9 HO156.out).2.1); (case side3 => exact litS_at _ [(⟨#[97]⟩ : ByteArray), (⟨#[98]⟩ : ByteArray)] _ (by simp)); rintro e w' ⟨rfl, ⟨nd, rfl⟩⟩; have HO175 := HO156) | (go_at_call 22; (with_reducible refine (fluxionlaw16_number.calls k (⟨#[45, 49, 50]⟩ : ByteArray) (-12) 0 true _ (RangeVar.below HRV.out (by repeat (first | (with_reducible first | exact HB.out | apply bA9 | apply bN9 | apply bD9) | exact HB.out))) A17.out).mono ?_); rintro e w50 ⟨rfl, hb⟩; have n0_ := Aside0.mk (Kd.rB9 (by (with_reducible repeat (first | apply Kd.rA9 | apply Kd.rN9 | apply Kd.rD9)); exact HO148.out) hb); have n1_ := Aside0.mk (Kd.rB9 (by (with_reducible repeat (first | apply Kd.rA9 | apply Kd.rN9 | apply Kd.rD9)); exact HO152.out) hb); have n2_ := Aside0.mk (Kd.rB9 (by (with_reducible repeat (first | apply Kd.rA9 | apply Kd.rN9 | apply Kd.rD9)); exact HO156.out) hb); have n3_ := Aside0.mk (Kd.rB9 (by (with_reducible repeat (first | apply Kd.rA9 | apply Kd.rN9 | apply Kd.rD9)); exact HO160.out) hb); have n4_ := Aside0.mk (Kd.rB9 (by (with_reducible repeat (first | apply Kd.rA9 | apply Kd.rN9 | apply Kd.rD9)); exact HO164.out) hb); have n5_ := Aside0.mk (Kd.rB9 (by (with_reducible repeat (first | apply Kd.rA9 | apply Kd.rN9 | apply Kd.rD9)); exact HO171.out) hb); have n6_ := Aside0.mk (Kd.rB9 (by (with_reducible repeat (first | apply Kd.rA9 | apply Kd.rN9 | apply Kd.rD9)); exact HO175.out) hb); have n7_ := Aside0.mk (bT9 (by repeat (first | (with_reducible first | exact HB.out | apply bA9 | apply bN9 | apply bD9) | exact HB.out)) hb); clear HO148; clear HO152; clear HO156; clear HO160; clear HO164; clear HO171; clear HO175; clear HB; have HO148 := n0_; have HO152 := n1_; have HO156 := n2_; have HO160 := n3_; have HO164 := n4_; have HO171 := n5_; have HO175 := n6_; have HB := n7_; clear n0_ n1_ n2_ n3_ n4_ n5_ n6_ n7_; (try clear hb); (try clear hb2); (try clear hk); (try clear hi)) | (go_at_call 22; (with_reducible refine (fluxionlaw16_number.calls k (⟨#[45, 48]⟩ : ByteArray) 0 19 true _ (RangeVar.below HRV.out (by repeat (first | (with_reducible first | exact HB.out | apply bA9 | apply bN9 | apply bD9) | exact HB.out))) A19.out).mono ?_); rintro e w51 ⟨rfl, hb⟩; have n0_ := Aside0.mk (Kd.rB9 (by (with_reducible repeat (first | apply Kd.rA9 | apply Kd.rN9 | apply Kd.rD9)); exact HO148.out) hb); have n1_ := Aside0.mk (Kd.rB9 (by (with_reducible repeat (first | apply Kd.rA9 | apply Kd.rN9 | apply Kd.rD9)); exact HO152.out) hb); have n2_ := Aside0.mk (Kd.rB9 (by (with_reducible repeat (first | apply Kd.rA9 | apply Kd.rN9 | apply Kd.rD9)); exact HO156.out) hb); have n3_ := Aside0.mk (Kd.rB9 (by (with_reducible repeat (first | apply Kd.rA9 | apply Kd.rN9 | apply Kd.rD9)); exact HO160.out) hb); have n4_ := Aside0.mk (Kd.rB9 (by (with_reducible repeat (first | apply Kd.rA9 | apply Kd.rN9 | apply Kd.rD9)); exact HO164.out) hb); have n5_ := Aside0.mk (Kd.rB9 (by (with_reducible repeat (first | apply Kd.rA9 | apply Kd.rN9 | apply Kd.rD9)); exact HO171.out) hb); have n6_ := Aside0.mk (Kd.rB9 (by (with_reducible repeat (first | apply Kd.rA9 | apply Kd.rN9 | apply Kd.rD9)); exact HO175.out) hb); have n7_ := Aside0.mk (bT9 (by repeat (first | (with_reducible first | exact HB.out | apply bA9 | apply bN9 | apply bD9) | exact HB.out)) hb); clear HO148; clear HO152; clear HO156; clear HO160; clear HO164; clear HO171; clear HO175; clear HB; have HO148 := n0_; have HO152 := n1_; have HO156 := n2_; have HO160 := n3_; have HO164 := n4_; have HO171 := n5_; have HO175 := n6_; have HB := n7_; clear n0_ n1_ n2_ n3_ n4_ n5_ n6_ n7_; (try clear hb); (try clear hb2); (try clear hk); (try clear hi)) | (go_at_call 22; (with_reducible refine (fluxionlaw16_number.calls k (⟨#[48, 49]⟩ : ByteArray) 0 19 true _ (RangeVar.below HRV.out (by repeat (first | (with_reducible first | exact HB.out | apply bA9 | apply bN9 | apply bD9) | exact HB.out))) A21.out).mono ?_); rintro e w52 ⟨rfl, hb⟩; have n0_ := Aside0.mk (Kd.rB9 (by (with_reducible repeat (first | apply Kd.rA9 | apply Kd.rN9 | apply Kd.rD9)); exact HO148.out) hb); have n1_ := Aside0.mk (Kd.rB9 (by (with_reducible repeat (first | apply Kd.rA9 | apply Kd.rN9 | apply Kd.rD9)); exact HO152.out) hb); have n2_ := Aside0.mk (Kd.rB9 (by (with_reducible repeat (first | apply Kd.rA9 | apply Kd.rN9 | apply Kd.rD9)); exact HO156.out) hb); have n3_ := Aside0.mk (Kd.rB9 (by (with_reducible repeat (first | apply Kd.rA9 | apply Kd.rN9 | apply Kd.rD9)); exact HO160.out) hb); have n4_ := Aside0.mk (Kd.rB9 (by (with_reducible repeat (first | apply Kd.rA9 | apply Kd.rN9 | apply Kd.rD9)); exact HO164.out) hb); have n5_ := Aside0.mk (Kd.rB9 (by (with_reducible repeat (first | apply Kd.rA9 | apply Kd.rN9 | apply Kd.rD9)); exact HO171.out) hb); have n6_ := Aside0.mk (Kd.rB9 (by (with_reducible repeat (first | apply Kd.rA9 | apply Kd.rN9 | apply Kd.rD9)); exact HO175.out) hb); have n7_ := Aside0.mk (bT9 (by repeat (first | (with_reducible first | exact HB.out | apply bA9 | apply bN9 | apply bD9) | exact HB.out)) hb); clear HO148; clear HO152; clear HO156; clear HO160; clear HO164; clear HO171; clear HO175; clear HB; have HO148 := n0_; have HO152 := n1_; have HO156 := n2_; have HO160 := n3_; have HO164 := n4_; have HO171 := n5_; have HO175 := n6_; have HB := n7_; clear n0_ n1_ n2_ n3_ n4_ n5_ n6_ n7_; (try clear hb); (try clear hb2); (try clear hk); (try clear hi)) | (go_at_call 22; (with_reducible refine (fluxionlaw16_number.calls k (⟨#[50, 49, 52, 55, 52, 56, 51, 54, 52, 56]⟩ : ByteArray) 0 14 true _ (RangeVar.below HRV.out (by repeat (first | (with_reducible first | exact HB.out | apply bA9 | apply bN9 | apply bD9) | exact HB.out))) A23.out).mono ?_); rintro e w53 ⟨rfl, hb⟩; have n0_ := Aside0.mk (Kd.rB9 (by (with_reducible repeat (first | apply Kd.rA9 | apply Kd.rN9 | apply Kd.rD9)); exact HO148.out) hb); have n1_ := Aside0.mk (Kd.rB9 (by (with_reducible repeat (first | apply Kd.rA9 | apply Kd.rN9 | apply Kd.rD9)); exact HO152.out) hb); have n2_ := Aside0.mk (Kd.rB9 (by (with_reducible repeat (first | apply Kd.rA9 | apply Kd.rN9 | apply Kd.rD9)); exact HO156.out) hb); have n3_ := Aside0.mk (Kd.rB9 (by (with_reducible repeat (first | apply Kd.rA9 | apply Kd.rN9 | apply Kd.rD9)); exact HO160.out) hb); have n4_ := Aside0.mk (Kd.rB9 (by (with_reducible repeat (first | apply Kd.rA9 | apply Kd.rN9 | apply Kd.rD9)); exact HO164.out) hb); have n5_ := Aside0.mk (Kd.rB9 (by (with_reducible repeat (first | apply Kd.rA9 | apply Kd.rN9 | apply Kd.rD9)); exact HO171.out) hb); have n6_ := Aside0.mk (Kd.rB9 (by (with_reducible repeat (first | apply Kd.rA9 | apply Kd.rN9 | apply Kd.rD9)); exact HO175.out) hb); have n7_ := Aside0.mk (bT9 (by repeat (first | (with_reducible first | exact HB.out | apply bA9 | apply bN9 | apply bD9) | exact HB.out)) hb); clear HO148; clear HO152; clear HO156; clear HO160; clear HO164; clear HO171; clear HO175; clear HB; have HO148 := n0_; have HO152 := n1_; have HO156 := n2_; have HO160 := n3_; have HO164 := n4_; have HO171 := n5_; have HO175 := n6_; have HB := n7_; clear n0_ n1_ n2_ n3_ n4_ n5_ n6_ n7_; (try clear hb); (try clear hb2); (try clear hk); (try clear hi)) | (go_at_call 13; (with_reducible refine (lex_Name.calls (⟨#[120, 95, 49]⟩ : ByteArray) t181 _ A28.out).mono ?_); rintro e w54 ⟨rfl, hb⟩; have n0_ := Aside0.mk (Kd.rB9 (by (with_reducible repeat (first | apply Kd.rA9 | apply Kd.rN9 | apply Kd.rD9)); exact HO148.out) hb); have n1_ := Aside0.mk (Kd.rB9 (by (with_reducible repeat (first | apply Kd.rA9 | apply Kd.rN9 | apply Kd.rD9)); exact HO152.out) hb); have n2_ := Aside0.mk (Kd.rB9 (by (with_reducible repeat (first | apply Kd.rA9 | apply Kd.rN9 | apply Kd.rD9)); exact HO156.out) hb); have n3_ := Aside0.mk (Kd.rB9 (by (with_reducible repeat (first | apply Kd.rA9 | apply Kd.rN9 | apply Kd.rD9)); exact HO160.out) hb); have n4_ := Aside0.mk (Kd.rB9 (by (with_reducible repeat (first | apply Kd.rA9 | apply Kd.rN9 | apply Kd.rD9)); exact HO164.out) hb); have n5_ := Aside0.mk (Kd.rB9 (by (with_reducible repeat (first | apply Kd.rA9 | apply Kd.rN9 | apply Kd.rD9)); exact HO171.out) hb); have n6_ := Aside0.mk (Kd.rB9 (by (with_reducible repeat (first | apply Kd.rA9 | apply Kd.rN9 | apply Kd.rD9)); exact HO175.out) hb); have n7_ := Aside0.mk (bT9 (by repeat (first | (with_reducible first | exact HB.out | apply bA9 | apply bN9 | apply bD9) | exact HB.out)) hb); clear HO148; clear HO152; clear HO156; clear HO160; clear HO164; clear HO171; clear HO175; clear HB; have HO148 := n0_; have HO152 := n1_; have HO156 := n2_; have HO160 := n3_; have HO164 := n4_; have HO171 := n5_; have HO175 := n6_; have HB := n7_; clear n0_ n1_ n2_ n3_ n4_ n5_ n6_ n7_; (try clear hb); (try clear hb2); (try clear hk); (try clear hi)) | (go_at_call 13; (with_reducible refine (lex_Name.calls (⟨#[126, 48]⟩ : ByteArray) t182 _ A30.out).mono ?_); rintro e w55 ⟨rfl, hb⟩; have n0_ := Aside0.mk (Kd.rB9 (by (with_reducible repeat (first | apply Kd.rA9 | apply Kd.rN9 | apply Kd.rD9)); exact HO148.out) hb); have n1_ := Aside0.mk (Kd.rB9 (by (with_reducible repeat (first | apply Kd.rA9 | apply Kd.rN9 | apply Kd.rD9)); exact HO152.out) hb); have n2_ := Aside0.mk (Kd.rB9 (by (with_reducible repeat (first | apply Kd.rA9 | apply Kd.rN9 | apply Kd.rD9)); exact HO156.out) hb); have n3_ := Aside0.mk (Kd.rB9 (by (with_reducible repeat (first | apply Kd.rA9 | apply Kd.rN9 | apply Kd.rD9)); exact HO160.out) hb); have n4_ := Aside0.mk (Kd.rB9 (by (with_reducible repeat (first | apply Kd.rA9 | apply Kd.rN9 | apply Kd.rD9)); exact HO164.out) hb); have n5_ := Aside0.mk (Kd.rB9 (by (with_reducible repeat (first | apply Kd.rA9 | apply Kd.rN9 | apply Kd.rD9)); exact HO171.out) hb); have n6_ := Aside0.mk (Kd.rB9 (by (with_reducible repeat (first | apply Kd.rA9 | apply Kd.rN9 | apply Kd.rD9)); exact HO175.out) hb); have n7_ := Aside0.mk (bT9 (by repeat (first | (with_reducible first | exact HB.out | apply bA9 | apply bN9 | apply bD9) | exact HB.out)) hb); clear HO148; clear HO152; clear HO156; clear HO160; clear HO164; clear HO171; clear HO175; clear HB; have HO148 := n0_; have HO152 := n1_; have HO156 := n2_; have HO160 := n3_; have HO164 := n4_; have HO171 := n5_; have HO175 := n6_; have HB := n7_; clear n0_ n1_ n2_ n3_ n4_ n5_ n6_ n7_; (try clear hb); (try clear hb2); (try clear hk); (try clear hi)) | (go_at_call 13; (with_reducible refine (lex_Name.calls (⟨#[126, 48, 49]⟩ : ByteArray) t183 _ A32.out).mono ?_); rintro e w56 ⟨rfl, hb⟩; have n0_ := Aside0.mk (Kd.rB9 (by (with_reducible repeat (first | apply Kd.rA9 | apply Kd.rN9 | apply Kd.rD9)); exact HO148.out) hb); have n1_ := Aside0.mk (Kd.rB9 (by (with_reducible repeat (first | apply Kd.rA9 | apply Kd.rN9 | apply Kd.rD9)); exact HO152.out) hb); have n2_ := Aside0.mk (Kd.rB9 (by (with_reducible repeat (first | apply Kd.rA9 | apply Kd.rN9 | apply Kd.rD9)); exact HO156.out) hb); have n3_ := Aside0.mk (Kd.rB9 (by (with_reducible repeat (first | apply Kd.rA9 | apply Kd.rN9 | apply Kd.rD9)); exact HO160.out) hb); have n4_ := Aside0.mk (Kd.rB9 (by (with_reducible repeat (first | apply Kd.rA9 | apply Kd.rN9 | apply Kd.rD9)); exact HO164.out) hb); have n5_ := Aside0.mk (Kd.rB9 (by (with_reducible repeat (first | apply Kd.rA9 | apply Kd.rN9 | apply Kd.rD9)); exact HO171.out) hb); have n6_ := Aside0.mk (Kd.rB9 (by (with_reducible repeat (first | apply Kd.rA9 | apply Kd.rN9 | apply Kd.rD9)); exact HO175.out) hb); have n7_ := Aside0.mk (bT9 (by repeat (first | (with_reducible first | exact HB.out | apply bA9 | apply bN9 | apply bD9) | exact HB.out)) hb); clear HO148; clear HO152; clear HO156; clear HO160; clear HO164; clear HO171; clear HO175; clear HB; have HO148 := n0_; have HO152 := n1_; have HO156 := n2_; have HO160 := n3_; have HO164 := n4_; have HO171 := n5_; have HO175 := n6_; have HB := n7_; clear n0_ n1_ n2_ n3_ n4_ n5_ n6_ n7_; (try clear hb); (try clear hb2); (try clear hk); (try clear hi)) | (go_at_call 13; (with_reducible refine (lex_Name.calls (⟨#[88]⟩ : ByteArray) t184 _ A34.out).mono ?_); rintro e w57 ⟨rfl, hb⟩; have n0_ := Aside0.mk (Kd.rB9 (by (with_reducible repeat (first | apply Kd.rA9 | apply Kd.rN9 | apply Kd.rD9)); exact HO148.out) hb); have n1_ := Aside0.mk (Kd.rB9 (by (with_reducible repeat (first | apply Kd.rA9 | apply Kd.rN9 | apply Kd.rD9)); exact HO152.out) hb); have n2_ := Aside0.mk (Kd.rB9 (by (with_reducible repeat (first | apply Kd.rA9 | apply Kd.rN9 | apply Kd.rD9)); exact HO156.out) hb); have n3_ := Aside0.mk (Kd.rB9 (by (with_reducible repeat (first | apply Kd.rA9 | apply Kd.rN9 | apply Kd.rD9)); exact HO160.out) hb); have n4_ := Aside0.mk (Kd.rB9 (by (with_reducible repeat (first | apply Kd.rA9 | apply Kd.rN9 | apply Kd.rD9)); exact HO164.out) hb); have n5_ := Aside0.mk (Kd.rB9 (by (with_reducible repeat (first | apply Kd.rA9 | apply Kd.rN9 | apply Kd.rD9)); exact HO171.out) hb); have n6_ := Aside0.mk (Kd.rB9 (by (with_reducible repeat (first | apply Kd.rA9 | apply Kd.rN9 | apply Kd.rD9)); exact HO175.out) hb); have n7_ := Aside0.mk (bT9 (by repeat (first | (with_reducible first | exact HB.out | apply bA9 | apply bN9 | apply bD9) | exact HB.out)) hb); clear HO148; clear HO152; clear HO156; clear HO160; clear HO164; clear HO171; clear HO175; clear HB; have HO148 := n0_; have HO152 := n1_; have HO156 := n2_; have HO160 := n3_; have HO164 := n4_; have HO171 := n5_; have HO175 := n6_; have HB := n7_; clear n0_ n1_ n2_ n3_ n4_ n5_ n6_ n7_; (try clear hb); (try clear hb2); (try clear hk); (try clear hi)))
                                    go_ret
                                    exact ⟨by first | rfl | (simp [eN9, eS9] <;> rfl) | (simp [*, eN9, eS9] <;> rfl), by repeat (first | (with_reducible first | exact HB.out | apply bA9 | apply bN9 | apply bD9) | exact HB.out)⟩
                                  · rw [if_neg c33] at H
                                    exact absurd H (by simp)
                                · rw [if_neg c31] at H
                                  exact absurd H (by simp)
                              · rw [if_neg c29] at H
                                exact absurd H (by simp)
                            · rw [if_neg c27] at H
                              exact absurd H (by simp)
                          · rw [if_neg c26] at H
                            exact absurd H (by simp)
                        · rw [if_neg c25] at H
                          exact absurd H (by simp)
                      · replace c24 := Bool.eq_false_iff.mpr c24
                        subst c24
                        have H1 : (none) = some r := by rw [if_neg (show ¬ (false = true) by decide)] at H; exact H
                        clear H
                        have H := H1
                        clear H1
                        exact absurd H (by simp)
                    · replace c22 := Bool.eq_false_iff.mpr c22
                      subst c22
                      have H1 : (none) = some r := by rw [if_neg (show ¬ (false = true) by decide)] at H; exact H
                      clear H
                      have H := H1
                      clear H1
                      exact absurd H (by simp)
                  · replace c20 := Bool.eq_false_iff.mpr c20
                    subst c20
                    have H1 : (none) = some r := by rw [if_neg (show ¬ (false = true) by decide)] at H; exact H
                    clear H
                    have H := H1
                    clear H1
                    exact absurd H (by simp)
                · replace c18 := Bool.eq_false_iff.mpr c18
                  subst c18
                  have H1 : (none) = some r := by rw [if_neg (show ¬ (false = true) by decide)] at H; exact H
                  clear H
                  have H := H1
                  clear H1
                  exact absurd H (by simp)
              · rw [if_neg c16] at H
                exact absurd H (by simp)
            · rw [if_neg c15] at H
              exact absurd H (by simp)
          · replace c14 := Bool.eq_false_iff.mpr c14
            subst c14
            have H1 : (none) = some r := by rw [if_neg (show ¬ (false = true) by decide)] at H; exact H
            clear H
            have H := H1
            clear H1
            exact absurd H (by simp)
        · rw [if_neg c12] at H
          exact absurd H (by simp)
      · rw [if_neg c11] at H
        exact absurd H (by simp)
    · replace c10 := Bool.eq_false_iff.mpr c10
      subst c10
      have H1 : (none) = some r := by rw [if_neg (show ¬ (false = true) by decide)] at H; exact H
      clear H
      have H := H1
      clear H1
      exact absurd H (by simp)
  · rw [if_neg c8] at H
    exact absurd H (by simp)
end Go.Proofs.YtibaoacjjcgjlaaGreatDoor.Print
