/- Written by wip/tools/claimtexts.py: these texts, one behind another, without what this claim does not use: Ya1, PuNames, PuRefA, HFormat, PuRefB, HBack, HDig, PuNats, PuWord, PuRefC, E1, PuRats, PuParse, PuBack. -/
import Derived.Test.YtibaoacjjcgjlaaGreatDoorMgNum2
import Derived.Test.YtibaoacjjcgjlaaGreatDoorMgNum3
import Derived.Test.YtibaoacjjcgjlaaGreatDoorMgNum4
import Derived.Test.YtibaoacjjcgjlaaGreatDoorMgNum8
import Derived.Test.YtibaoacjjcgjlaaGreatDoorMgNum7
import Derived.Test.YtibaoacjjcgjlaaGreatDoorMgNum5
import Derived.Ground.NamesProg
import Derived.Shelf.Lay
import Derived.Shelf.LaysM
import Derived.Shelf.Strconv.Itoa1
import Derived.Shelf.Strconv.Itoa2
import Derived.Lib.Walk
import Derived.Lib.ItoaMem
import Derived.Lib.AppendIntMem
import Derived.Lib.LaidTab
import Derived.WalkKit
import Derived.BigCall
import Derived.BigGuard
import Derived.Test.YtibaoacjjcgjlaaGreatDoorMgNum6
import Derived.RangeFuncNested
import Derived.RangeFuncBound
import Derived.RangeFuncCalls
import Derived.RangeFuncLeaves
import Derived.RangeFuncBox
import Derived.Shelf.Abstract
import Derived.Shelf.RegionOpen
import Derived.OwnWalkIn
import Derived.TacticsInMore
import Derived.LoopNIn
import Derived.LoopIn
import Derived.Lib.OthersKept
import Derived.Lib.BufferKept
import Derived.Shelf.Strings.Builder1
import Derived.Shelf.Strings.BuilderK
import Derived.Shelf.Strings.OnBuilder
import Derived.Shelf.Strings.Repeat
import Derived.Maps.AppendAt
import Derived.Deep.RegionHeld3
namespace Go.Proofs.YtibaoacjjcgjlaaGreatDoor.Print
open Go.RowKit Go.Proofs.YtibaoacjjcgjlaaGreatDoorW.PrintWords Go.Proofs.YtibaoacjjcgjlaaGreatDoorW.PrintLast Go.Proofs.YtibaoacjjcgjlaaGreatDoorW.PrintMore
attribute [local go_sem] max2_int min2_int max_two min_two max_three min_three max_four min_four   -- for this text's walks alone
set_option linter.unusedVariables false
set_option linter.unusedSimpArgs false
def fluxionlaw16_LexNumbers.j0 : Nat → ByteArray → Bool → Option (Bool)
  | 0, _, _ => none
  | k + 1, x0, x52 => if x52 = true then (none) else (if (x0.size : Int) > 120 then ((fluxionlaw16_known.f k).bind fun t109 => (some t109)) else ((lex_Rat.f k x0).bind fun bt110 => ((r4PR.f k x0).bind fun bt119 => (if bt119.2.2.2 = 0 then (if bt110.2.2.2 = 0 then ((r3Is.f k bt119.1 bt119.2.1 bt119.2.2.1 bt110.1 bt110.2.1 bt110.2.2.1).bind fun t128 => (if t128 = true then ((fluxionlaw16_known.f k).bind fun t129 => (some t129)) else (none))) else (none)) else (if bt110.2.2.2 = bt119.2.2.2 then (if bt110.1 = true then (none) else (if (bt110.2.1.length : Int) = 0 then (if (bt110.2.2.1.length : Int) = 0 then ((fluxionlaw16_known.f k).bind fun t130 => (some t130)) else (none)) else (none))) else (none))))))
def fluxionlaw16_LexNumbers.f (k : Nat) (a0 : ByteArray) : Option (Bool) := (lex_Int.f k a0).bind fun bt101 => ((fluxionref16_Int.f k a0).bind fun bt103 => ((lex_Ref.f a0).bind fun bt105 => ((fluxionref16_Ref.f k a0).bind fun bt107 => (if bt101.1 = bt103.1 then (if bt101.2 = bt103.2 then (if bt105.1 = bt107.1 then (fluxionlaw16_LexNumbers.j0 k a0 (bt105.2 != bt107.2)) else (fluxionlaw16_LexNumbers.j0 k a0 true)) else (fluxionlaw16_LexNumbers.j0 k a0 true)) else (fluxionlaw16_LexNumbers.j0 k a0 true)))))
set_option maxHeartbeats 8000000 in
set_option maxRecDepth 100000 in
theorem fluxionlaw16_LexNumbers.calls (k : Nat) (a0 : ByteArray) (r : Bool) (w : World) (hv : RangeVar w) (h : fluxionlaw16_LexNumbers.f k a0 = some r) :
    Calls Tryz.prog 3 #[.string a0] w fun e w' => e = .returned (.bool r) ∧ Below w.heap.size w w' := by
  have HRV := Aside0.mk hv
  clear hv
  have hu31 := Tryz.underlying31
  have hu37 := Tryz.underlying37
  have HB := Aside0.mk (Below.refl w.heap.size w)
  have H : ((lex_Int.f k a0).bind fun bt101 => ((fluxionref16_Int.f k a0).bind fun bt103 => ((lex_Ref.f a0).bind fun bt105 => ((fluxionref16_Ref.f k a0).bind fun bt107 => (if bt101.1 = bt103.1 then (if bt101.2 = bt103.2 then (if bt105.1 = bt107.1 then (fluxionlaw16_LexNumbers.j0 k a0 (bt105.2 != bt107.2)) else (fluxionlaw16_LexNumbers.j0 k a0 true)) else (fluxionlaw16_LexNumbers.j0 k a0 true)) else (fluxionlaw16_LexNumbers.j0 k a0 true)))))) = some r := h
  clear h
  replace H := Option.bind_eq_some_iff.mp H
  obtain ⟨⟨t101, t102⟩, A20, H⟩ := H
  (try dsimp only at H)
  have A2 := Aside0.mk A20
  clear A20
  replace H := Option.bind_eq_some_iff.mp H
  obtain ⟨⟨t103, t104⟩, A30, H⟩ := H
  (try dsimp only at H)
  have A3 := Aside0.mk A30
  clear A30
  replace H := Option.bind_eq_some_iff.mp H
  obtain ⟨⟨t105, t106⟩, A40, H⟩ := H
  (try dsimp only at H)
  have A4 := Aside0.mk A40
  clear A40
  replace H := Option.bind_eq_some_iff.mp H
  obtain ⟨⟨t107, t108⟩, A50, H⟩ := H
  (try dsimp only at H)
  have A5 := Aside0.mk A50
  clear A50
  have HC6 := Aside0.mk H
  clear H
  go_enter Tryz.func3, Tryz.ntmps3
  go_upto_region 5 with (first | ((with_reducible refine gC9 (f := 5) rfl ?_); refine goesL_ (some 17) rfl rfl Tryz.func5 (by kernel_rfl) rfl #[.string a0] rfl (by (try simp only [List.map_toArray, List.map_cons, List.map_nil]); first | done | rfl | (simp only [List.length_drop, List.length_take]; rfl)) ?_; (with_reducible refine (lex_Int.calls k a0 t101 t102 _ (RangeVar.below HRV.out (by repeat (first | (with_reducible first | exact HB.out | apply bA9 | apply bN9 | apply bD9 | refine bS9 ?_ GE118.out | refine bS9 ?_ GE127.out) | exact HB.out))) A2.out).mono ?_); rintro e w7 ⟨rfl, hb⟩; refine ⟨_, rfl, ?_⟩; have n0_ := Aside0.mk (bT9 (by repeat (first | (with_reducible first | exact HB.out | apply bA9 | apply bN9 | apply bD9) | exact HB.out)) hb); clear HB; have HB := n0_; clear n0_; (try clear hb); (try clear hb2); (try clear hk); (try clear hi)) | ((with_reducible refine gC9 (f := 6) rfl ?_); refine goesL_ (some 22) rfl rfl Tryz.func6 (by kernel_rfl) rfl #[.string a0] rfl (by (try simp only [List.map_toArray, List.map_cons, List.map_nil]); first | done | rfl | (simp only [List.length_drop, List.length_take]; rfl)) ?_; (with_reducible refine (fluxionref16_Int.calls k a0 t103 t104 _ A3.out).mono ?_); rintro e w' ⟨rfl, ⟨nd, rfl⟩⟩; refine ⟨_, rfl, ?_⟩) | ((with_reducible refine gC9 (f := 7) rfl ?_); refine goesL_ (some 27) rfl rfl Tryz.func7 (by kernel_rfl) rfl #[.string a0] rfl (by (try simp only [List.map_toArray, List.map_cons, List.map_nil]); first | done | rfl | (simp only [List.length_drop, List.length_take]; rfl)) ?_; (with_reducible refine (lex_Ref.calls a0 t105 t106 _ (RangeVar.below HRV.out (by repeat (first | (with_reducible first | exact HB.out | apply bA9 | apply bN9 | apply bD9 | refine bS9 ?_ GE118.out | refine bS9 ?_ GE127.out) | exact HB.out))) A4.out).mono ?_); rintro e w8 ⟨rfl, hb⟩; refine ⟨_, rfl, ?_⟩; have n0_ := Aside0.mk (bT9 (by repeat (first | (with_reducible first | exact HB.out | apply bA9 | apply bN9 | apply bD9) | exact HB.out)) hb); clear HB; have HB := n0_; clear n0_; (try clear hb); (try clear hb2); (try clear hk); (try clear hi)) | ((with_reducible refine gC9 (f := 8) rfl ?_); refine goesL_ (some 32) rfl rfl Tryz.func8 (by kernel_rfl) rfl #[.string a0] rfl (by (try simp only [List.map_toArray, List.map_cons, List.map_nil]); first | done | rfl | (simp only [List.length_drop, List.length_take]; rfl)) ?_; (with_reducible refine (fluxionref16_Ref.calls k a0 t107 t108 _ A5.out).mono ?_); rintro e w' ⟨rfl, ⟨nd, rfl⟩⟩; refine ⟨_, rfl, ?_⟩))
  (try simp only [Act.put, List.setIfInBounds_toArray, List.set_cons_zero, List.set_cons_succ])
  go_cut [52] (fun v52 wc => ∃ (kq : Nat) (x52_5 : Bool), v52 = .bool x52_5 ∧ Aside0 (fluxionlaw16_LexNumbers.j0 kq a0 x52_5 = some r) ∧ Aside0 (kq ≤ k) ∧ Aside0 (Below w.heap.size w wc))
  case first =>
    have H := HC6.out
    clear HC6
    by_cases c9 : t101 = t103
    · rw [if_pos c9] at H
      have c9b0 : (t101 == t103) = true := beq_iff_eq.mpr c9
      have c9b1 : (t101 != t103) = false := bne_eq_false_iff_eq.mpr c9
      clear c9
      (first | rw [c9b0] | (simp only [i64_w, i32_w]; rw [c9b0]) | skip)
      by_cases c10 : t102 = t104
      · rw [if_pos c10] at H
        have c10b0 : (t102 == t104) = true := beq_iff_eq.mpr c10
        have c10b1 : (t102 != t104) = false := bne_eq_false_iff_eq.mpr c10
        clear c10
        by_cases c11 : t105 = t107
        · rw [if_pos c11] at H
          have c11b0 : (t105 == t107) = true := beq_iff_eq.mpr c11
          have c11b1 : (t105 != t107) = false := bne_eq_false_iff_eq.mpr c11
          clear c11
          have H' := Aside0.mk H
          clear H
          go_wp2
          go_meet
          case rel => exact ⟨_, ((t106 != t108)), (by first | rfl | (simp; done) | (simp [*]; done)), H', ⟨by first | omega | exact Nat.le_refl _⟩, ⟨by repeat (first | (with_reducible first | exact HB.out | apply bA9 | apply bN9 | apply bD9) | exact HB.out)⟩⟩
        · rw [if_neg c11] at H
          have c11b0 : (t105 == t107) = false := beq_eq_false_iff_ne.mpr c11
          have c11b1 : (t105 != t107) = true := bne_iff_ne.mpr c11
          have H' := Aside0.mk H
          clear H
          go_wp2
          go_meet
          case rel => exact ⟨_, (true), (by first | rfl | (simp; done) | (simp [*]; done)), H', ⟨by first | omega | exact Nat.le_refl _⟩, ⟨by repeat (first | (with_reducible first | exact HB.out | apply bA9 | apply bN9 | apply bD9) | exact HB.out)⟩⟩
      · rw [if_neg c10] at H
        have c10b0 : (t102 == t104) = false := beq_eq_false_iff_ne.mpr c10
        have c10b1 : (t102 != t104) = true := bne_iff_ne.mpr c10
        have H' := Aside0.mk H
        clear H
        go_wp2
        go_meet
        case rel => exact ⟨_, (true), (by first | rfl | (simp; done) | (simp [*]; done)), H', ⟨by first | omega | exact Nat.le_refl _⟩, ⟨by repeat (first | (with_reducible first | exact HB.out | apply bA9 | apply bN9 | apply bD9) | exact HB.out)⟩⟩
    · rw [if_neg c9] at H
      have c9b0 : (t101 == t103) = false := beq_eq_false_iff_ne.mpr c9
      have c9b1 : (t101 != t103) = true := bne_iff_ne.mpr c9
      (first | rw [c9b0] | (simp only [i64_w, i32_w]; rw [c9b0]) | skip)
      have H' := Aside0.mk H
      clear H
      go_wp2
      go_meet
      case rel => exact ⟨_, (true), (by first | rfl | (simp; done) | (simp [*]; done)), H', ⟨by first | omega | exact Nat.le_refl _⟩, ⟨by repeat (first | (with_reducible first | exact HB.out | apply bA9 | apply bN9 | apply bD9) | exact HB.out)⟩⟩
  case rest =>
    clear HC6
    try clear c1
    try clear p2
    try clear c3
    try clear c5
    try clear c6
    try clear c7
    try clear c8
    try clear c9
    try clear c9b0
    try clear c9b1
    try clear c10
    try clear c10b0
    try clear c10b1
    try clear c11
    try clear c11b0
    try clear c11b1
    obtain ⟨kq, x52_5, rfl, HA, HJ5, HB⟩ := hcut
    cases kq with
    | zero => exact absurd HA.out (by simp [fluxionlaw16_LexNumbers.j0])
    | succ kj5 =>
      have H := HA.out
      clear HA
      simp only [fluxionlaw16_LexNumbers.j0] at H
      by_cases c12 : x52_5 = true
      · subst c12
        have H1 : (none) = some r := by rw [if_pos rfl] at H; exact H
        clear H
        have H := H1
        clear H1
        exact absurd H (by simp)
      · replace c12 := Bool.eq_false_iff.mpr c12
        subst c12
        have H1 : (if (a0.size : Int) > 120 then ((fluxionlaw16_known.f kj5).bind fun t109 => (some t109)) else ((lex_Rat.f kj5 a0).bind fun bt110 => ((r4PR.f kj5 a0).bind fun bt119 => (if bt119.2.2.2 = 0 then (if bt110.2.2.2 = 0 then ((r3Is.f kj5 bt119.1 bt119.2.1 bt119.2.2.1 bt110.1 bt110.2.1 bt110.2.2.1).bind fun t128 => (if t128 = true then ((fluxionlaw16_known.f kj5).bind fun t129 => (some t129)) else (none))) else (none)) else (if bt110.2.2.2 = bt119.2.2.2 then (if bt110.1 = true then (none) else (if (bt110.2.1.length : Int) = 0 then (if (bt110.2.2.1.length : Int) = 0 then ((fluxionlaw16_known.f kj5).bind fun t130 => (some t130)) else (none)) else (none))) else (none)))))) = some r := by rw [if_neg (show ¬ (false = true) by decide)] at H; exact H
        clear H
        have H := H1
        clear H1
        by_cases c13 : (a0.size : Int) > 120
        · rw [if_pos c13] at H
          have c13b0 : decide (120 < (a0.size : Int)) = true := decide_eq_true c13
          have c13b1 : decide (120 < a0.size) = true := decide_eq_true (by omega)
          clear c13
          replace H := Option.bind_eq_some_iff.mp H
          obtain ⟨t109, A140, H⟩ := H
          replace H : (some t109) = some r := H
          have A14 := Aside0.mk A140
          clear A140
          obtain rfl := Option.some.inj H
          go_wp2_with (first | ((with_reducible refine gC9 (f := 9) rfl ?_); refine goesL_ (some 56) rfl rfl Tryz.func9 (by kernel_rfl) rfl #[] rfl (by (try simp only [List.map_toArray, List.map_cons, List.map_nil]); first | done | rfl | (simp only [List.length_drop, List.length_take]; rfl)) ?_; (with_reducible refine (fluxionlaw16_known.calls kj5  t109 _ (RangeVar.below HRV.out (by repeat (first | (with_reducible first | exact HB.out | apply bA9 | apply bN9 | apply bD9 | refine bS9 ?_ GE118.out | refine bS9 ?_ GE127.out) | exact HB.out))) A14.out).mono ?_); rintro e w15 ⟨rfl, hb⟩; refine ⟨_, rfl, ?_⟩; have n0_ := Aside0.mk (bT9 (by repeat (first | (with_reducible first | exact HB.out | apply bA9 | apply bN9 | apply bD9) | exact HB.out)) hb); clear HB; have HB := n0_; clear n0_; (try clear hb); (try clear hb2); (try clear hk); (try clear hi)))
          go_ret
          exact ⟨by first | rfl | (simp [eN9, eS9] <;> rfl) | (simp [*, eN9, eS9] <;> rfl), by repeat (first | (with_reducible first | exact HB.out | apply bA9 | apply bN9 | apply bD9) | exact HB.out)⟩
        · rw [if_neg c13] at H
          have c13b0 : decide (120 < (a0.size : Int)) = false := decide_eq_false c13
          have c13b1 : decide (120 < a0.size) = false := decide_eq_false (by omega)
          clear c13
          replace H := Option.bind_eq_some_iff.mp H
          obtain ⟨⟨t110, t111, t114, t117⟩, A160, H⟩ := H
          (try dsimp only at H)
          have A16 := Aside0.mk A160
          clear A160
          replace H := Option.bind_eq_some_iff.mp H
          obtain ⟨⟨t119, t120, t123, t126⟩, A170, H⟩ := H
          (try dsimp only at H)
          have A17 := Aside0.mk A170
          clear A170
          by_cases c18 : t126 = 0
          · rw [if_pos c18] at H
            have c18b0 : (t126 == 0) = true := beq_iff_eq.mpr c18
            have c18b1 : (t126 != 0) = false := bne_eq_false_iff_eq.mpr c18
            clear c18
            by_cases c19 : t117 = 0
            · rw [if_pos c19] at H
              have c19b0 : (t117 == 0) = true := beq_iff_eq.mpr c19
              have c19b1 : (t117 != 0) = false := bne_eq_false_iff_eq.mpr c19
              clear c19
              replace H := Option.bind_eq_some_iff.mp H
              obtain ⟨t128, A200, H⟩ := H
              (try dsimp only at H)
              have A20 := Aside0.mk A200
              clear A200
              by_cases c21 : t128 = true
              · subst c21
                have H1 : ((fluxionlaw16_known.f kj5).bind fun t129 => (some t129)) = some r := by rw [if_pos rfl] at H; exact H
                clear H
                have H := H1
                clear H1
                replace H := Option.bind_eq_some_iff.mp H
                obtain ⟨t129, A220, H⟩ := H
                replace H : (some t129) = some r := H
                have A22 := Aside0.mk A220
                clear A220
                obtain rfl := Option.some.inj H
                go_wp2_with (first | ((with_reducible refine gC9 (f := 10) rfl ?_); refine goesL_ (some 59) rfl rfl Tryz.func10 (by kernel_rfl) rfl #[.string a0] rfl (by (try simp only [List.map_toArray, List.map_cons, List.map_nil]); first | done | rfl | (simp only [List.length_drop, List.length_take]; rfl)) ?_; (with_reducible refine (lex_Rat.calls kj5 a0 t110 t111 t114 t117 _ A16.out).mono ?_); rintro e w23 ⟨v112, v115, rfl, ho0, ho1, hb⟩; refine ⟨_, rfl, ?_⟩; have n0_ := Aside0.mk (Kd.rL9 ho0 (bZ9 (by repeat (first | (with_reducible first | exact HB.out | apply bA9 | apply bN9 | apply bD9) | exact HB.out)))); have n1_ := Aside0.mk (Kd.rL9 ho1 (bZ9 (by repeat (first | (with_reducible first | exact HB.out | apply bA9 | apply bN9 | apply bD9) | exact HB.out)))); have n2_ := Aside0.mk (bT9 (by repeat (first | (with_reducible first | exact HB.out | apply bA9 | apply bN9 | apply bD9) | exact HB.out)) hb); clear HB; have HO113 := n0_; have HO116 := n1_; have HB := n2_; clear n0_ n1_ n2_; (try clear hb); (try clear hb2); (try clear hk); (try clear hi); (try clear ho0); (try clear ho1)) | ((with_reducible refine gD9 (N := 11) rfl ?_); (try (refine gate_guard (by rfl) ?_; dsimp only)); refine bE9 ?hg (N := 11) ?hd (cs := #[.bool false, .slice none 0 0, .slice none 0 0]) (t := 31) ?hr ?_; (case hd => rfl); (case hg => rfl); (case hr => first | (go_simp; done) | (go_simp; rfl)); intro gb118 hg w24 hbox hb; have n0_ := Aside0.mk (Kd.rB9 (by (with_reducible repeat (first | apply Kd.rA9 | apply Kd.rN9 | apply Kd.rD9)); exact HO113.out) hb); have n1_ := Aside0.mk (Kd.rB9 (by (with_reducible repeat (first | apply Kd.rA9 | apply Kd.rN9 | apply Kd.rD9)); exact HO116.out) hb); have n2_ := Aside0.mk (bT9 (by repeat (first | (with_reducible first | exact HB.out | apply bA9 | apply bN9 | apply bD9) | exact HB.out)) hb); have n3_ := Aside0.mk (hbox); have n4_ := Aside0.mk ((by rw [hg]; exact (bZ9 (by repeat (first | (with_reducible first | exact HB.out | apply bA9 | apply bN9 | apply bD9) | exact HB.out))) : w.heap.size ≤ gb118)); have n5_ := Aside0.mk ((by rw [hg]; exact (bZ9 (by repeat (first | (with_reducible first | exact HB.out | apply bA9 | apply bN9 | apply bD9) | exact HB.out))) : w.heap.size ≤ gb118)); clear HO113; clear HO116; clear HB; have HO113 := n0_; have HO116 := n1_; have HB := n2_; have BK118 := n3_; have GW118 := n4_; have GE118 := n5_; clear n0_ n1_ n2_ n3_ n4_ n5_; clear hb hbox hg; have hcz25_0 : w24.cell? ⟨gb118, 0, none⟩ = some (.bool false) := (kC9 BK118.out 0).trans rfl; have hcz25_1 : w24.cell? ⟨gb118, 1, none⟩ = some (.slice none 0 0) := (kC9 BK118.out 1).trans rfl; have hcz25_2 : w24.cell? ⟨gb118, 2, none⟩ = some (.slice none 0 0) := (kC9 BK118.out 2).trans rfl; have hfz25_0 := kF9 BK118.out 0; have hfz25_1 := kF9 BK118.out 1; have hfz25_2 := kF9 BK118.out 2; obtain ⟨Ao26, co26, eo26⟩ := Kd.rS9 HO113.out; subst eo26; obtain ⟨Ao27, co27, eo27⟩ := Kd.rS9 HO116.out; subst eo27) | ((with_reducible refine gC9 (f := 11) rfl ?_); refine goesL_ (some 64) rfl rfl Tryz.func11 (by kernel_rfl) rfl #[.string a0] rfl (by (try simp only [List.map_toArray, List.map_cons, List.map_nil]); first | done | rfl | (simp only [List.length_drop, List.length_take]; rfl)) ?_; (with_reducible refine (r4PR.calls kj5 a0 t119 t120 t123 t126 _ A17.out).mono ?_); rintro e w28 ⟨v121, v124, rfl, ho0, ho1, hb⟩; refine ⟨_, rfl, ?_⟩; have n0_ := Aside0.mk (Kd.rB9 (by (with_reducible repeat (first | apply Kd.rA9 | apply Kd.rN9 | apply Kd.rD9)); exact (Kd.R_mono (Kd.R_far (p := ⟨gb118, 2, none⟩) (Kd.R_far (p := ⟨gb118, 1, none⟩) (Kd.R_far (p := ⟨gb118, 0, none⟩) (Kd.rT9 HO113.out BK118.out (by decide)) (fun _ hk => hk.2) (.bool t110)) (fun _ hk => hk.2) (.slice Ao26 t111.length co26)) (fun _ hk => hk.2) (.slice Ao27 t114.length co27)) (fun _ h_ => h_.1))) hb); have n1_ := Aside0.mk (Kd.rB9 (by (with_reducible repeat (first | apply Kd.rA9 | apply Kd.rN9 | apply Kd.rD9)); exact (Kd.R_mono (Kd.R_far (p := ⟨gb118, 2, none⟩) (Kd.R_far (p := ⟨gb118, 1, none⟩) (Kd.R_far (p := ⟨gb118, 0, none⟩) (Kd.rT9 HO116.out BK118.out (by decide)) (fun _ hk => hk.2) (.bool t110)) (fun _ hk => hk.2) (.slice Ao26 t111.length co26)) (fun _ hk => hk.2) (.slice Ao27 t114.length co27)) (fun _ h_ => h_.1))) hb); have n2_ := Aside0.mk (Kd.rL9 ho0 (bZ9 (by repeat (first | (with_reducible first | exact HB.out | apply bA9 | apply bN9 | apply bD9 | refine bS9 ?_ GE118.out) | exact HB.out)))); have n3_ := Aside0.mk (Kd.rL9 ho1 (bZ9 (by repeat (first | (with_reducible first | exact HB.out | apply bA9 | apply bN9 | apply bD9 | refine bS9 ?_ GE118.out) | exact HB.out)))); have n4_ := Aside0.mk (kB9 (g := gb118) (o := .cells #[.bool t110, .slice Ao26 t111.length co26, .slice Ao27 t114.length co27] 31 (0, 0)) (by (with_reducible repeat (first | refine kN9 ?_ _ | refine kD9 ?_ | refine kA9 ?_ _)); refine kP9 (cs := #[.bool t110, .slice Ao26 t111.length co26, .slice none 0 0]) ?_ 2 _ rfl; (with_reducible repeat (first | refine kN9 ?_ _ | refine kD9 ?_ | refine kA9 ?_ _)); refine kP9 (cs := #[.bool t110, .slice none 0 0, .slice none 0 0]) ?_ 1 _ rfl; (with_reducible repeat (first | refine kN9 ?_ _ | refine kD9 ?_ | refine kA9 ?_ _)); refine kP9 (cs := #[.bool false, .slice none 0 0, .slice none 0 0]) ?_ 0 _ rfl; (with_reducible repeat (first | refine kN9 ?_ _ | refine kD9 ?_ | refine kA9 ?_ _)); exact BK118.out) hb); have n5_ := Aside0.mk (bT9 (by repeat (first | (with_reducible first | exact HB.out | apply bA9 | apply bN9 | apply bD9 | refine bS9 ?_ GE118.out) | exact HB.out)) hb); clear HO113; clear HO116; clear BK118; clear HB; have HO113 := n0_; have HO116 := n1_; have HO122 := n2_; have HO125 := n3_; have BK118 := n4_; have HB := n5_; clear n0_ n1_ n2_ n3_ n4_ n5_; (try clear hb); (try clear hb2); (try clear hk); (try clear hi); (try clear ho0); (try clear ho1)) | ((with_reducible refine gD9 (N := 13) rfl ?_); (try (refine gate_guard (by rfl) ?_; dsimp only)); refine bE9 ?hg (N := 13) ?hd (cs := #[.bool false, .slice none 0 0, .slice none 0 0]) (t := 37) ?hr ?_; (case hd => rfl); (case hg => rfl); (case hr => first | (go_simp; done) | (go_simp; rfl)); intro gb127 hg w29 hbox hb; have n0_ := Aside0.mk (Kd.rB9 (by (with_reducible repeat (first | apply Kd.rA9 | apply Kd.rN9 | apply Kd.rD9)); exact HO113.out) hb); have n1_ := Aside0.mk (Kd.rB9 (by (with_reducible repeat (first | apply Kd.rA9 | apply Kd.rN9 | apply Kd.rD9)); exact HO116.out) hb); have n2_ := Aside0.mk (Kd.rB9 (by (with_reducible repeat (first | apply Kd.rA9 | apply Kd.rN9 | apply Kd.rD9)); exact HO122.out) hb); have n3_ := Aside0.mk (Kd.rB9 (by (with_reducible repeat (first | apply Kd.rA9 | apply Kd.rN9 | apply Kd.rD9)); exact HO125.out) hb); have n4_ := Aside0.mk (kB9 (g := gb118) (o := .cells #[.bool t110, .slice Ao26 t111.length co26, .slice Ao27 t114.length co27] 31 (0, 0)) (by (with_reducible repeat (first | refine kN9 ?_ _ | refine kD9 ?_ | refine kA9 ?_ _)); exact BK118.out) hb); have n5_ := Aside0.mk (bT9 (by repeat (first | (with_reducible first | exact HB.out | apply bA9 | apply bN9 | apply bD9 | refine bS9 ?_ GE118.out) | exact HB.out)) hb); have n6_ := Aside0.mk (hbox); have n7_ := Aside0.mk ((by rw [hg]; exact (bZ9 (by repeat (first | (with_reducible first | exact HB.out | apply bA9 | apply bN9 | apply bD9 | refine bS9 ?_ GE118.out) | exact HB.out))) : w.heap.size ≤ gb127)); have n8_ := Aside0.mk ((by rw [hg]; exact (bZ9 (by repeat (first | (with_reducible first | exact HB.out | apply bA9 | apply bN9 | apply bD9 | refine bS9 ?_ GE118.out) | exact HB.out))) : w.heap.size ≤ gb127)); have n9_ := Aside0.mk ((by rw [hg]; exact Nat.ne_of_lt (blk_lt (g := gb118) (o := .cells #[.bool t110, .slice Ao26 t111.length co26, .slice Ao27 t114.length co27] 31 (0, 0)) (by (with_reducible repeat (first | refine kN9 ?_ _ | refine kD9 ?_ | refine kA9 ?_ _)); exact BK118.out)) : gb118 ≠ gb127)); have n10_ := Aside0.mk ((by rw [hg]; exact Nat.ne_of_gt (blk_lt (g := gb118) (o := .cells #[.bool t110, .slice Ao26 t111.length co26, .slice Ao27 t114.length co27] 31 (0, 0)) (by (with_reducible repeat (first | refine kN9 ?_ _ | refine kD9 ?_ | refine kA9 ?_ _)); exact BK118.out)) : gb127 ≠ gb118)); clear HO113; clear HO116; clear HO122; clear HO125; clear BK118; clear HB; have HO113 := n0_; have HO116 := n1_; have HO122 := n2_; have HO125 := n3_; have BK118 := n4_; have HB := n5_; have BK127 := n6_; have GW127 := n7_; have GE127 := n8_; have NB118_127 := n9_; have NB127_118 := n10_; clear n0_ n1_ n2_ n3_ n4_ n5_ n6_ n7_ n8_ n9_ n10_; clear hb hbox hg; have hnb30 := NB127_118.out; have hnc30 := NB118_127.out; have hcz31_0 : w29.cell? ⟨gb127, 0, none⟩ = some (.bool false) := (kC9 BK127.out 0).trans rfl; have hcz31_1 : w29.cell? ⟨gb127, 1, none⟩ = some (.slice none 0 0) := (kC9 BK127.out 1).trans rfl; have hcz31_2 : w29.cell? ⟨gb127, 2, none⟩ = some (.slice none 0 0) := (kC9 BK127.out 2).trans rfl; have hfz31_0 := kF9 BK127.out 0; have hfz31_1 := kF9 BK127.out 1; have hfz31_2 := kF9 BK127.out 2; obtain ⟨Ao32, co32, eo32⟩ := Kd.rS9 HO122.out; subst eo32; obtain ⟨Ao33, co33, eo33⟩ := Kd.rS9 HO125.out; subst eo33; have hcz34_0 : w29.cell? ⟨gb118, 0, none⟩ = some (.bool t110) := (kC9 BK118.out 0).trans rfl; have hcz34_1 : w29.cell? ⟨gb118, 1, none⟩ = some (.slice Ao26 t111.length co26) := (kC9 BK118.out 1).trans rfl; have hcz34_2 : w29.cell? ⟨gb118, 2, none⟩ = some (.slice Ao27 t114.length co27) := (kC9 BK118.out 2).trans rfl; have hfz34_0 := kF9 BK118.out 0; have hfz34_1 := kF9 BK118.out 1; have hfz34_2 := kF9 BK118.out 2) | (go_at_call 12; (with_reducible refine (r3Is.calls kj5 t119 _ _ t120 _ _ t123 t110 _ _ t111 _ _ t114 true _ ?side1 ?side2 ?side3 ?side4 ?side5 ?side6 ?side7 ?side8 A20.out).mono ?_); (case side1 => refine (Kd.rR9 (e := 3) (base := w.heap.size) (ok := fun k_ => some k_ ≠ (.slice Ao33 t123.length co33 : Value).ownBlock) (n := t120.length) (c := co32) ?_).2.2; exact (by (with_reducible repeat (first | apply Kd.rA9 | apply Kd.rN9 | apply Kd.rD9)); exact (Kd.R_mono (Kd.R_far (p := ⟨gb127, 2, none⟩) (Kd.R_far (p := ⟨gb127, 1, none⟩) (Kd.R_far (p := ⟨gb127, 0, none⟩) (Kd.rT9 HO122.out BK127.out (by decide)) (fun _ hk => hk.2) (.bool t119)) (fun _ hk => hk.2) (.slice Ao32 t120.length co32)) (fun _ hk => hk.2) (.slice Ao33 t123.length co33)) (fun _ h_ => h_.1)))); (case side2 => exact (Kd.rR9 HO122.out).2.1); (case side3 => refine (Kd.rR9 (e := 3) (base := w.heap.size) (ok := fun k_ => some k_ ≠ (.slice Ao32 t120.length co32 : Value).ownBlock) (n := t123.length) (c := co33) ?_).2.2; exact (by (with_reducible repeat (first | apply Kd.rA9 | apply Kd.rN9 | apply Kd.rD9)); exact (Kd.R_mono (Kd.R_far (p := ⟨gb127, 2, none⟩) (Kd.R_far (p := ⟨gb127, 1, none⟩) (Kd.R_far (p := ⟨gb127, 0, none⟩) (Kd.rT9 HO125.out BK127.out (by decide)) (fun _ hk => hk.2) (.bool t119)) (fun _ hk => hk.2) (.slice Ao32 t120.length co32)) (fun _ hk => hk.2) (.slice Ao33 t123.length co33)) (fun _ h_ => h_.1)))); (case side4 => exact (Kd.rR9 HO125.out).2.1); (case side5 => refine (Kd.rR9 (e := 88) (base := w.heap.size) (ok := fun k_ => some k_ ≠ (.slice Ao27 t114.length co27 : Value).ownBlock) (n := t111.length) (c := co26) ?_).2.2; exact (by (with_reducible repeat (first | apply Kd.rA9 | apply Kd.rN9 | apply Kd.rD9)); exact (Kd.R_mono (Kd.R_far (p := ⟨gb127, 2, none⟩) (Kd.R_far (p := ⟨gb127, 1, none⟩) (Kd.R_far (p := ⟨gb127, 0, none⟩) (Kd.rT9 HO113.out BK127.out (by decide)) (fun _ hk => hk.2) (.bool t119)) (fun _ hk => hk.2) (.slice Ao32 t120.length co32)) (fun _ hk => hk.2) (.slice Ao33 t123.length co33)) (fun _ h_ => h_.1)))); (case side6 => exact (Kd.rR9 HO113.out).2.1); (case side7 => refine (Kd.rR9 (e := 88) (base := w.heap.size) (ok := fun k_ => some k_ ≠ (.slice Ao26 t111.length co26 : Value).ownBlock) (n := t114.length) (c := co27) ?_).2.2; exact (by (with_reducible repeat (first | apply Kd.rA9 | apply Kd.rN9 | apply Kd.rD9)); exact (Kd.R_mono (Kd.R_far (p := ⟨gb127, 2, none⟩) (Kd.R_far (p := ⟨gb127, 1, none⟩) (Kd.R_far (p := ⟨gb127, 0, none⟩) (Kd.rT9 HO116.out BK127.out (by decide)) (fun _ hk => hk.2) (.bool t119)) (fun _ hk => hk.2) (.slice Ao32 t120.length co32)) (fun _ hk => hk.2) (.slice Ao33 t123.length co33)) (fun _ h_ => h_.1)))); (case side8 => exact (Kd.rR9 HO116.out).2.1); rintro e w35 ⟨rfl, hb⟩; have n0_ := Aside0.mk (Kd.rB9 (by (with_reducible repeat (first | apply Kd.rA9 | apply Kd.rN9 | apply Kd.rD9)); exact (Kd.R_mono (Kd.R_far (p := ⟨gb127, 2, none⟩) (Kd.R_far (p := ⟨gb127, 1, none⟩) (Kd.R_far (p := ⟨gb127, 0, none⟩) (Kd.rT9 HO113.out BK127.out (by decide)) (fun _ hk => hk.2) (.bool t119)) (fun _ hk => hk.2) (.slice Ao32 t120.length co32)) (fun _ hk => hk.2) (.slice Ao33 t123.length co33)) (fun _ h_ => h_.1))) hb); have n1_ := Aside0.mk (Kd.rB9 (by (with_reducible repeat (first | apply Kd.rA9 | apply Kd.rN9 | apply Kd.rD9)); exact (Kd.R_mono (Kd.R_far (p := ⟨gb127, 2, none⟩) (Kd.R_far (p := ⟨gb127, 1, none⟩) (Kd.R_far (p := ⟨gb127, 0, none⟩) (Kd.rT9 HO116.out BK127.out (by decide)) (fun _ hk => hk.2) (.bool t119)) (fun _ hk => hk.2) (.slice Ao32 t120.length co32)) (fun _ hk => hk.2) (.slice Ao33 t123.length co33)) (fun _ h_ => h_.1))) hb); have n2_ := Aside0.mk (Kd.rB9 (by (with_reducible repeat (first | apply Kd.rA9 | apply Kd.rN9 | apply Kd.rD9)); exact (Kd.R_mono (Kd.R_far (p := ⟨gb127, 2, none⟩) (Kd.R_far (p := ⟨gb127, 1, none⟩) (Kd.R_far (p := ⟨gb127, 0, none⟩) (Kd.rT9 HO122.out BK127.out (by decide)) (fun _ hk => hk.2) (.bool t119)) (fun _ hk => hk.2) (.slice Ao32 t120.length co32)) (fun _ hk => hk.2) (.slice Ao33 t123.length co33)) (fun _ h_ => h_.1))) hb); have n3_ := Aside0.mk (Kd.rB9 (by (with_reducible repeat (first | apply Kd.rA9 | apply Kd.rN9 | apply Kd.rD9)); exact (Kd.R_mono (Kd.R_far (p := ⟨gb127, 2, none⟩) (Kd.R_far (p := ⟨gb127, 1, none⟩) (Kd.R_far (p := ⟨gb127, 0, none⟩) (Kd.rT9 HO125.out BK127.out (by decide)) (fun _ hk => hk.2) (.bool t119)) (fun _ hk => hk.2) (.slice Ao32 t120.length co32)) (fun _ hk => hk.2) (.slice Ao33 t123.length co33)) (fun _ h_ => h_.1))) hb); have n4_ := Aside0.mk (kB9 (g := gb118) (o := .cells #[.bool t110, .slice Ao26 t111.length co26, .slice Ao27 t114.length co27] 31 (0, 0)) (by (with_reducible repeat (first | refine kN9 ?_ _ | refine kD9 ?_ | refine kA9 ?_ _)); refine blk_far ?_ NB118_127.out _; (with_reducible repeat (first | refine kN9 ?_ _ | refine kD9 ?_ | refine kA9 ?_ _)); refine blk_far ?_ NB118_127.out _; (with_reducible repeat (first | refine kN9 ?_ _ | refine kD9 ?_ | refine kA9 ?_ _)); refine blk_far ?_ NB118_127.out _; (with_reducible repeat (first | refine kN9 ?_ _ | refine kD9 ?_ | refine kA9 ?_ _)); exact BK118.out) hb); have n5_ := Aside0.mk (kB9 (g := gb127) (o := .cells #[.bool t119, .slice Ao32 t120.length co32, .slice Ao33 t123.length co33] 37 (0, 0)) (by (with_reducible repeat (first | refine kN9 ?_ _ | refine kD9 ?_ | refine kA9 ?_ _)); refine kP9 (cs := #[.bool t119, .slice Ao32 t120.length co32, .slice none 0 0]) ?_ 2 _ rfl; (with_reducible repeat (first | refine kN9 ?_ _ | refine kD9 ?_ | refine kA9 ?_ _)); refine kP9 (cs := #[.bool t119, .slice none 0 0, .slice none 0 0]) ?_ 1 _ rfl; (with_reducible repeat (first | refine kN9 ?_ _ | refine kD9 ?_ | refine kA9 ?_ _)); refine kP9 (cs := #[.bool false, .slice none 0 0, .slice none 0 0]) ?_ 0 _ rfl; (with_reducible repeat (first | refine kN9 ?_ _ | refine kD9 ?_ | refine kA9 ?_ _)); exact BK127.out) hb); have n6_ := Aside0.mk (bT9 (by repeat (first | (with_reducible first | exact HB.out | apply bA9 | apply bN9 | apply bD9 | refine bS9 ?_ GE118.out | refine bS9 ?_ GE127.out) | exact HB.out)) hb); clear HO113; clear HO116; clear HO122; clear HO125; clear BK118; clear BK127; clear HB; have HO113 := n0_; have HO116 := n1_; have HO122 := n2_; have HO125 := n3_; have BK118 := n4_; have BK127 := n5_; have HB := n6_; clear n0_ n1_ n2_ n3_ n4_ n5_ n6_; (try clear hb); (try clear hb2); (try clear hk); (try clear hi)) | (go_at_call 9; (with_reducible refine (fluxionlaw16_known.calls kj5  t129 _ (RangeVar.below HRV.out (by repeat (first | (with_reducible first | exact HB.out | apply bA9 | apply bN9 | apply bD9 | refine bS9 ?_ GE118.out | refine bS9 ?_ GE127.out) | exact HB.out))) A22.out).mono ?_); rintro e w36 ⟨rfl, hb⟩; have n0_ := Aside0.mk (Kd.rB9 (by (with_reducible repeat (first | apply Kd.rA9 | apply Kd.rN9 | apply Kd.rD9)); exact HO113.out) hb); have n1_ := Aside0.mk (Kd.rB9 (by (with_reducible repeat (first | apply Kd.rA9 | apply Kd.rN9 | apply Kd.rD9)); exact HO116.out) hb); have n2_ := Aside0.mk (Kd.rB9 (by (with_reducible repeat (first | apply Kd.rA9 | apply Kd.rN9 | apply Kd.rD9)); exact HO122.out) hb); have n3_ := Aside0.mk (Kd.rB9 (by (with_reducible repeat (first | apply Kd.rA9 | apply Kd.rN9 | apply Kd.rD9)); exact HO125.out) hb); have n4_ := Aside0.mk (kB9 (g := gb118) (o := .cells #[.bool t110, .slice Ao26 t111.length co26, .slice Ao27 t114.length co27] 31 (0, 0)) (by (with_reducible repeat (first | refine kN9 ?_ _ | refine kD9 ?_ | refine kA9 ?_ _)); exact BK118.out) hb); have n5_ := Aside0.mk (kB9 (g := gb127) (o := .cells #[.bool t119, .slice Ao32 t120.length co32, .slice Ao33 t123.length co33] 37 (0, 0)) (by (with_reducible repeat (first | refine kN9 ?_ _ | refine kD9 ?_ | refine kA9 ?_ _)); exact BK127.out) hb); have n6_ := Aside0.mk (bT9 (by repeat (first | (with_reducible first | exact HB.out | apply bA9 | apply bN9 | apply bD9 | refine bS9 ?_ GE118.out | refine bS9 ?_ GE127.out) | exact HB.out)) hb); clear HO113; clear HO116; clear HO122; clear HO125; clear BK118; clear BK127; clear HB; have HO113 := n0_; have HO116 := n1_; have HO122 := n2_; have HO125 := n3_; have BK118 := n4_; have BK127 := n5_; have HB := n6_; clear n0_ n1_ n2_ n3_ n4_ n5_ n6_; (try clear hb); (try clear hb2); (try clear hk); (try clear hi)))
                go_ret
                exact ⟨by first | rfl | (simp [eN9, eS9] <;> rfl) | (simp [*, eN9, eS9] <;> rfl), by repeat (first | (with_reducible first | exact HB.out | apply bA9 | apply bN9 | apply bD9 | refine bS9 ?_ GE118.out | refine bS9 ?_ GE127.out) | exact HB.out)⟩
              · replace c21 := Bool.eq_false_iff.mpr c21
                subst c21
                have H1 : (none) = some r := by rw [if_neg (show ¬ (false = true) by decide)] at H; exact H
                clear H
                have H := H1
                clear H1
                exact absurd H (by simp)
            · rw [if_neg c19] at H
              exact absurd H (by simp)
          · rw [if_neg c18] at H
            have c18b0 : (t126 == 0) = false := beq_eq_false_iff_ne.mpr c18
            have c18b1 : (t126 != 0) = true := bne_iff_ne.mpr c18
            by_cases c37 : t117 = t126
            · rw [if_pos c37] at H
              have c37b0 : (t117 == t126) = true := beq_iff_eq.mpr c37
              have c37b1 : (t117 != t126) = false := bne_eq_false_iff_eq.mpr c37
              clear c37
              by_cases c38 : t110 = true
              · subst c38
                have H1 : (none) = some r := by rw [if_pos rfl] at H; exact H
                clear H
                have H := H1
                clear H1
                exact absurd H (by simp)
              · replace c38 := Bool.eq_false_iff.mpr c38
                subst c38
                have H1 : (if (t111.length : Int) = 0 then (if (t114.length : Int) = 0 then ((fluxionlaw16_known.f kj5).bind fun t130 => (some t130)) else (none)) else (none)) = some r := by rw [if_neg (show ¬ (false = true) by decide)] at H; exact H
                clear H
                have H := H1
                clear H1
                by_cases c39 : (t111.length : Int) = 0
                · rw [if_pos c39] at H
                  have c39b0 : ((t111.length : Int) == 0) = true := beq_iff_eq.mpr c39
                  have c39b1 : ((t111.length : Int) != 0) = false := bne_eq_false_iff_eq.mpr c39
                  clear c39
                  by_cases c40 : (t114.length : Int) = 0
                  · rw [if_pos c40] at H
                    have c40b0 : ((t114.length : Int) == 0) = true := beq_iff_eq.mpr c40
                    have c40b1 : ((t114.length : Int) != 0) = false := bne_eq_false_iff_eq.mpr c40
                    clear c40
                    replace H := Option.bind_eq_some_iff.mp H
                    obtain ⟨t130, A410, H⟩ := H
                    replace H : (some t130) = some r := H
                    have A41 := Aside0.mk A410
                    clear A410
                    obtain rfl := Option.some.inj H
                    go_wp2_with (first | ((with_reducible refine gC9 (f := 10) rfl ?_); refine goesL_ (some 59) rfl rfl Tryz.func10 (by kernel_rfl) rfl #[.string a0] rfl (by (try simp only [List.map_toArray, List.map_cons, List.map_nil]); first | done | rfl | (simp only [List.length_drop, List.length_take]; rfl)) ?_; (with_reducible refine (lex_Rat.calls kj5 a0 false t111 t114 t117 _ A16.out).mono ?_); rintro e w42 ⟨v112, v115, rfl, ho0, ho1, hb⟩; refine ⟨_, rfl, ?_⟩; have n0_ := Aside0.mk (Kd.rL9 ho0 (bZ9 (by repeat (first | (with_reducible first | exact HB.out | apply bA9 | apply bN9 | apply bD9) | exact HB.out)))); have n1_ := Aside0.mk (Kd.rL9 ho1 (bZ9 (by repeat (first | (with_reducible first | exact HB.out | apply bA9 | apply bN9 | apply bD9) | exact HB.out)))); have n2_ := Aside0.mk (bT9 (by repeat (first | (with_reducible first | exact HB.out | apply bA9 | apply bN9 | apply bD9) | exact HB.out)) hb); clear HB; have HO113 := n0_; have HO116 := n1_; have HB := n2_; clear n0_ n1_ n2_; (try clear hb); (try clear hb2); (try clear hk); (try clear hi); (try clear ho0); (try clear ho1)) | ((with_reducible refine gD9 (N := 11) rfl ?_); (try (refine gate_guard (by rfl) ?_; dsimp only)); refine bE9 ?hg (N := 11) ?hd (cs := #[.bool false, .slice none 0 0, .slice none 0 0]) (t := 31) ?hr ?_; (case hd => rfl); (case hg => rfl); (case hr => first | (go_simp; done) | (go_simp; rfl)); intro gb118 hg w43 hbox hb; have n0_ := Aside0.mk (Kd.rB9 (by (with_reducible repeat (first | apply Kd.rA9 | apply Kd.rN9 | apply Kd.rD9)); exact HO113.out) hb); have n1_ := Aside0.mk (Kd.rB9 (by (with_reducible repeat (first | apply Kd.rA9 | apply Kd.rN9 | apply Kd.rD9)); exact HO116.out) hb); have n2_ := Aside0.mk (bT9 (by repeat (first | (with_reducible first | exact HB.out | apply bA9 | apply bN9 | apply bD9) | exact HB.out)) hb); have n3_ := Aside0.mk (hbox); have n4_ := Aside0.mk ((by rw [hg]; exact (bZ9 (by repeat (first | (with_reducible first | exact HB.out | apply bA9 | apply bN9 | apply bD9) | exact HB.out))) : w.heap.size ≤ gb118)); have n5_ := Aside0.mk ((by rw [hg]; exact (bZ9 (by repeat (first | (with_reducible first | exact HB.out | apply bA9 | apply bN9 | apply bD9) | exact HB.out))) : w.heap.size ≤ gb118)); clear HO113; clear HO116; clear HB; have HO113 := n0_; have HO116 := n1_; have HB := n2_; have BK118 := n3_; have GW118 := n4_; have GE118 := n5_; clear n0_ n1_ n2_ n3_ n4_ n5_; clear hb hbox hg; have hcz44_0 : w43.cell? ⟨gb118, 0, none⟩ = some (.bool false) := (kC9 BK118.out 0).trans rfl; have hcz44_1 : w43.cell? ⟨gb118, 1, none⟩ = some (.slice none 0 0) := (kC9 BK118.out 1).trans rfl; have hcz44_2 : w43.cell? ⟨gb118, 2, none⟩ = some (.slice none 0 0) := (kC9 BK118.out 2).trans rfl; have hfz44_0 := kF9 BK118.out 0; have hfz44_1 := kF9 BK118.out 1; have hfz44_2 := kF9 BK118.out 2; obtain ⟨Ao45, co45, eo45⟩ := Kd.rS9 HO113.out; subst eo45; obtain ⟨Ao46, co46, eo46⟩ := Kd.rS9 HO116.out; subst eo46) | ((with_reducible refine gC9 (f := 11) rfl ?_); refine goesL_ (some 64) rfl rfl Tryz.func11 (by kernel_rfl) rfl #[.string a0] rfl (by (try simp only [List.map_toArray, List.map_cons, List.map_nil]); first | done | rfl | (simp only [List.length_drop, List.length_take]; rfl)) ?_; (with_reducible refine (r4PR.calls kj5 a0 t119 t120 t123 t126 _ A17.out).mono ?_); rintro e w47 ⟨v121, v124, rfl, ho0, ho1, hb⟩; refine ⟨_, rfl, ?_⟩; have n0_ := Aside0.mk (Kd.rB9 (by (with_reducible repeat (first | apply Kd.rA9 | apply Kd.rN9 | apply Kd.rD9)); exact (Kd.R_mono (Kd.R_far (p := ⟨gb118, 2, none⟩) (Kd.R_far (p := ⟨gb118, 1, none⟩) (Kd.R_far (p := ⟨gb118, 0, none⟩) (Kd.rT9 HO113.out BK118.out (by decide)) (fun _ hk => hk.2) (.bool false)) (fun _ hk => hk.2) (.slice Ao45 t111.length co45)) (fun _ hk => hk.2) (.slice Ao46 t114.length co46)) (fun _ h_ => h_.1))) hb); have n1_ := Aside0.mk (Kd.rB9 (by (with_reducible repeat (first | apply Kd.rA9 | apply Kd.rN9 | apply Kd.rD9)); exact (Kd.R_mono (Kd.R_far (p := ⟨gb118, 2, none⟩) (Kd.R_far (p := ⟨gb118, 1, none⟩) (Kd.R_far (p := ⟨gb118, 0, none⟩) (Kd.rT9 HO116.out BK118.out (by decide)) (fun _ hk => hk.2) (.bool false)) (fun _ hk => hk.2) (.slice Ao45 t111.length co45)) (fun _ hk => hk.2) (.slice Ao46 t114.length co46)) (fun _ h_ => h_.1))) hb); have n2_ := Aside0.mk (Kd.rL9 ho0 (bZ9 (by repeat (first | (with_reducible first | exact HB.out | apply bA9 | apply bN9 | apply bD9 | refine bS9 ?_ GE118.out) | exact HB.out)))); have n3_ := Aside0.mk (Kd.rL9 ho1 (bZ9 (by repeat (first | (with_reducible first | exact HB.out | apply bA9 | apply bN9 | apply bD9 | refine bS9 ?_ GE118.out) | exact HB.out)))); have n4_ := Aside0.mk (kB9 (g := gb118) (o := .cells #[.bool false, .slice Ao45 t111.length co45, .slice Ao46 t114.length co46] 31 (0, 0)) (by (with_reducible repeat (first | refine kN9 ?_ _ | refine kD9 ?_ | refine kA9 ?_ _)); refine kP9 (cs := #[.bool false, .slice Ao45 t111.length co45, .slice none 0 0]) ?_ 2 _ rfl; (with_reducible repeat (first | refine kN9 ?_ _ | refine kD9 ?_ | refine kA9 ?_ _)); refine kP9 (cs := #[.bool false, .slice none 0 0, .slice none 0 0]) ?_ 1 _ rfl; (with_reducible repeat (first | refine kN9 ?_ _ | refine kD9 ?_ | refine kA9 ?_ _)); refine kP9 (cs := #[.bool false, .slice none 0 0, .slice none 0 0]) ?_ 0 _ rfl; (with_reducible repeat (first | refine kN9 ?_ _ | refine kD9 ?_ | refine kA9 ?_ _)); exact BK118.out) hb); have n5_ := Aside0.mk (bT9 (by repeat (first | (with_reducible first | exact HB.out | apply bA9 | apply bN9 | apply bD9 | refine bS9 ?_ GE118.out) | exact HB.out)) hb); clear HO113; clear HO116; clear BK118; clear HB; have HO113 := n0_; have HO116 := n1_; have HO122 := n2_; have HO125 := n3_; have BK118 := n4_; have HB := n5_; clear n0_ n1_ n2_ n3_ n4_ n5_; (try clear hb); (try clear hb2); (try clear hk); (try clear hi); (try clear ho0); (try clear ho1)) | ((with_reducible refine gD9 (N := 13) rfl ?_); (try (refine gate_guard (by rfl) ?_; dsimp only)); refine bE9 ?hg (N := 13) ?hd (cs := #[.bool false, .slice none 0 0, .slice none 0 0]) (t := 37) ?hr ?_; (case hd => rfl); (case hg => rfl); (case hr => first | (go_simp; done) | (go_simp; rfl)); intro gb127 hg w48 hbox hb; have n0_ := Aside0.mk (Kd.rB9 (by (with_reducible repeat (first | apply Kd.rA9 | apply Kd.rN9 | apply Kd.rD9)); exact HO113.out) hb); have n1_ := Aside0.mk (Kd.rB9 (by (with_reducible repeat (first | apply Kd.rA9 | apply Kd.rN9 | apply Kd.rD9)); exact HO116.out) hb); have n2_ := Aside0.mk (Kd.rB9 (by (with_reducible repeat (first | apply Kd.rA9 | apply Kd.rN9 | apply Kd.rD9)); exact HO122.out) hb); have n3_ := Aside0.mk (Kd.rB9 (by (with_reducible repeat (first | apply Kd.rA9 | apply Kd.rN9 | apply Kd.rD9)); exact HO125.out) hb); have n4_ := Aside0.mk (kB9 (g := gb118) (o := .cells #[.bool false, .slice Ao45 t111.length co45, .slice Ao46 t114.length co46] 31 (0, 0)) (by (with_reducible repeat (first | refine kN9 ?_ _ | refine kD9 ?_ | refine kA9 ?_ _)); exact BK118.out) hb); have n5_ := Aside0.mk (bT9 (by repeat (first | (with_reducible first | exact HB.out | apply bA9 | apply bN9 | apply bD9 | refine bS9 ?_ GE118.out) | exact HB.out)) hb); have n6_ := Aside0.mk (hbox); have n7_ := Aside0.mk ((by rw [hg]; exact (bZ9 (by repeat (first | (with_reducible first | exact HB.out | apply bA9 | apply bN9 | apply bD9 | refine bS9 ?_ GE118.out) | exact HB.out))) : w.heap.size ≤ gb127)); have n8_ := Aside0.mk ((by rw [hg]; exact (bZ9 (by repeat (first | (with_reducible first | exact HB.out | apply bA9 | apply bN9 | apply bD9 | refine bS9 ?_ GE118.out) | exact HB.out))) : w.heap.size ≤ gb127)); have n9_ := Aside0.mk ((by rw [hg]; exact Nat.ne_of_lt (blk_lt (g := gb118) (o := .cells #[.bool false, .slice Ao45 t111.length co45, .slice Ao46 t114.length co46] 31 (0, 0)) (by (with_reducible repeat (first | refine kN9 ?_ _ | refine kD9 ?_ | refine kA9 ?_ _)); exact BK118.out)) : gb118 ≠ gb127)); have n10_ := Aside0.mk ((by rw [hg]; exact Nat.ne_of_gt (blk_lt (g := gb118) (o := .cells #[.bool false, .slice Ao45 t111.length co45, .slice Ao46 t114.length co46] 31 (0, 0)) (by (with_reducible repeat (first | refine kN9 ?_ _ | refine kD9 ?_ | refine kA9 ?_ _)); exact BK118.out)) : gb127 ≠ gb118)); clear HO113; clear HO116; clear HO122; clear HO125; clear BK118; clear HB; have HO113 := n0_; have HO116 := n1_; have HO122 := n2_; have HO125 := n3_; have BK118 := n4_; have HB := n5_; have BK127 := n6_; have GW127 := n7_; have GE127 := n8_; have NB118_127 := n9_; have NB127_118 := n10_; clear n0_ n1_ n2_ n3_ n4_ n5_ n6_ n7_ n8_ n9_ n10_; clear hb hbox hg; have hnb49 := NB127_118.out; have hnc49 := NB118_127.out; have hcz50_0 : w48.cell? ⟨gb127, 0, none⟩ = some (.bool false) := (kC9 BK127.out 0).trans rfl; have hcz50_1 : w48.cell? ⟨gb127, 1, none⟩ = some (.slice none 0 0) := (kC9 BK127.out 1).trans rfl; have hcz50_2 : w48.cell? ⟨gb127, 2, none⟩ = some (.slice none 0 0) := (kC9 BK127.out 2).trans rfl; have hfz50_0 := kF9 BK127.out 0; have hfz50_1 := kF9 BK127.out 1; have hfz50_2 := kF9 BK127.out 2; obtain ⟨Ao51, co51, eo51⟩ := Kd.rS9 HO122.out; subst eo51; obtain ⟨Ao52, co52, eo52⟩ := Kd.rS9 HO125.out; subst eo52; have hcz53_0 : w48.cell? ⟨gb118, 0, none⟩ = some (.bool false) := (kC9 BK118.out 0).trans rfl; have hcz53_1 : w48.cell? ⟨gb118, 1, none⟩ = some (.slice Ao45 t111.length co45) := (kC9 BK118.out 1).trans rfl; have hcz53_2 : w48.cell? ⟨gb118, 2, none⟩ = some (.slice Ao46 t114.length co46) := (kC9 BK118.out 2).trans rfl; have hfz53_0 := kF9 BK118.out 0; have hfz53_1 := kF9 BK118.out 1; have hfz53_2 := kF9 BK118.out 2) | (go_at_call 9; (with_reducible refine (fluxionlaw16_known.calls kj5  t130 _ (RangeVar.below HRV.out (by repeat (first | (with_reducible first | exact HB.out | apply bA9 | apply bN9 | apply bD9 | refine bS9 ?_ GE118.out | refine bS9 ?_ GE127.out) | exact HB.out))) A41.out).mono ?_); rintro e w54 ⟨rfl, hb⟩; have n0_ := Aside0.mk (Kd.rB9 (by (with_reducible repeat (first | apply Kd.rA9 | apply Kd.rN9 | apply Kd.rD9)); exact (Kd.R_mono (Kd.R_far (p := ⟨gb127, 2, none⟩) (Kd.R_far (p := ⟨gb127, 1, none⟩) (Kd.R_far (p := ⟨gb127, 0, none⟩) (Kd.rT9 HO113.out BK127.out (by decide)) (fun _ hk => hk.2) (.bool t119)) (fun _ hk => hk.2) (.slice Ao51 t120.length co51)) (fun _ hk => hk.2) (.slice Ao52 t123.length co52)) (fun _ h_ => h_.1))) hb); have n1_ := Aside0.mk (Kd.rB9 (by (with_reducible repeat (first | apply Kd.rA9 | apply Kd.rN9 | apply Kd.rD9)); exact (Kd.R_mono (Kd.R_far (p := ⟨gb127, 2, none⟩) (Kd.R_far (p := ⟨gb127, 1, none⟩) (Kd.R_far (p := ⟨gb127, 0, none⟩) (Kd.rT9 HO116.out BK127.out (by decide)) (fun _ hk => hk.2) (.bool t119)) (fun _ hk => hk.2) (.slice Ao51 t120.length co51)) (fun _ hk => hk.2) (.slice Ao52 t123.length co52)) (fun _ h_ => h_.1))) hb); have n2_ := Aside0.mk (Kd.rB9 (by (with_reducible repeat (first | apply Kd.rA9 | apply Kd.rN9 | apply Kd.rD9)); exact (Kd.R_mono (Kd.R_far (p := ⟨gb127, 2, none⟩) (Kd.R_far (p := ⟨gb127, 1, none⟩) (Kd.R_far (p := ⟨gb127, 0, none⟩) (Kd.rT9 HO122.out BK127.out (by decide)) (fun _ hk => hk.2) (.bool t119)) (fun _ hk => hk.2) (.slice Ao51 t120.length co51)) (fun _ hk => hk.2) (.slice Ao52 t123.length co52)) (fun _ h_ => h_.1))) hb); have n3_ := Aside0.mk (Kd.rB9 (by (with_reducible repeat (first | apply Kd.rA9 | apply Kd.rN9 | apply Kd.rD9)); exact (Kd.R_mono (Kd.R_far (p := ⟨gb127, 2, none⟩) (Kd.R_far (p := ⟨gb127, 1, none⟩) (Kd.R_far (p := ⟨gb127, 0, none⟩) (Kd.rT9 HO125.out BK127.out (by decide)) (fun _ hk => hk.2) (.bool t119)) (fun _ hk => hk.2) (.slice Ao51 t120.length co51)) (fun _ hk => hk.2) (.slice Ao52 t123.length co52)) (fun _ h_ => h_.1))) hb); have n4_ := Aside0.mk (kB9 (g := gb118) (o := .cells #[.bool false, .slice Ao45 t111.length co45, .slice Ao46 t114.length co46] 31 (0, 0)) (by (with_reducible repeat (first | refine kN9 ?_ _ | refine kD9 ?_ | refine kA9 ?_ _)); refine blk_far ?_ NB118_127.out _; (with_reducible repeat (first | refine kN9 ?_ _ | refine kD9 ?_ | refine kA9 ?_ _)); refine blk_far ?_ NB118_127.out _; (with_reducible repeat (first | refine kN9 ?_ _ | refine kD9 ?_ | refine kA9 ?_ _)); refine blk_far ?_ NB118_127.out _; (with_reducible repeat (first | refine kN9 ?_ _ | refine kD9 ?_ | refine kA9 ?_ _)); exact BK118.out) hb); have n5_ := Aside0.mk (kB9 (g := gb127) (o := .cells #[.bool t119, .slice Ao51 t120.length co51, .slice Ao52 t123.length co52] 37 (0, 0)) (by (with_reducible repeat (first | refine kN9 ?_ _ | refine kD9 ?_ | refine kA9 ?_ _)); refine kP9 (cs := #[.bool t119, .slice Ao51 t120.length co51, .slice none 0 0]) ?_ 2 _ rfl; (with_reducible repeat (first | refine kN9 ?_ _ | refine kD9 ?_ | refine kA9 ?_ _)); refine kP9 (cs := #[.bool t119, .slice none 0 0, .slice none 0 0]) ?_ 1 _ rfl; (with_reducible repeat (first | refine kN9 ?_ _ | refine kD9 ?_ | refine kA9 ?_ _)); refine kP9 (cs := #[.bool false, .slice none 0 0, .slice none 0 0]) ?_ 0 _ rfl; (with_reducible repeat (first | refine kN9 ?_ _ | refine kD9 ?_ | refine kA9 ?_ _)); exact BK127.out) hb); have n6_ := Aside0.mk (bT9 (by repeat (first | (with_reducible first | exact HB.out | apply bA9 | apply bN9 | apply bD9 | refine bS9 ?_ GE118.out | refine bS9 ?_ GE127.out) | exact HB.out)) hb); clear HO113; clear HO116; clear HO122; clear HO125; clear BK118; clear BK127; clear HB; have HO113 := n0_; have HO116 := n1_; have HO122 := n2_; have HO125 := n3_; have BK118 := n4_; have BK127 := n5_; have HB := n6_; clear n0_ n1_ n2_ n3_ n4_ n5_ n6_; (try clear hb); (try clear hb2); (try clear hk); (try clear hi)))
                    go_ret
                    exact ⟨by first | rfl | (simp [eN9, eS9] <;> rfl) | (simp [*, eN9, eS9] <;> rfl), by repeat (first | (with_reducible first | exact HB.out | apply bA9 | apply bN9 | apply bD9 | refine bS9 ?_ GE118.out | refine bS9 ?_ GE127.out) | exact HB.out)⟩
                  · rw [if_neg c40] at H
                    exact absurd H (by simp)
                · rw [if_neg c39] at H
                  exact absurd H (by simp)
            · rw [if_neg c37] at H
              exact absurd H (by simp)
def fluxionlaw16_LexNumbers.Pure : Prop := ∀ (a0 : ByteArray), a0.size ≤ 140737488351232 → ∃ k, fluxionlaw16_LexNumbers.f k a0 = some true
end Go.Proofs.YtibaoacjjcgjlaaGreatDoor.Print

namespace Go.Proofs.YtibaoacjjcgjlaaGreatDoor.Print
open Go.RowKit Go.Proofs.YtibaoacjjcgjlaaGreatDoorW.PrintWords Go.Proofs.YtibaoacjjcgjlaaGreatDoorW.PrintLast Go.Proofs.YtibaoacjjcgjlaaGreatDoorW.PrintMore
set_option linter.unusedVariables false
set_option linter.unusedSimpArgs false
theorem known16_ev : Ev (fun k => fluxionlaw16_known.f k) true := Ev.of (fun k => fluxionlaw16_known.mono k) (k := 40) (by decide +kernel)
theorem wrap_id {x : Int} (h0 : -9223372036854775808 ≤ x) (h1 : x ≤ 9223372036854775807) : wrap64 x = x := by
  unfold wrap64; omega
theorem Ev.at {α : Type} {g : Nat → Option α} {r : α} (n : Nat) (h : ∀ k, g (k + n) = some r) : Ev g r :=
  ⟨n, fun k hk => by rw [show k = (k - n) + n by omega]; exact h _⟩
theorem toList_len (s : ByteArray) : s.toList.length = s.size := by rw [Go.ByteArray.toList_eq]; cases s; rfl
theorem inB_iff (a b c : Int) : inB a b c = true ↔ a ≤ c ∧ c ≤ b := by simp [inB]
def endS (r : ByteArray) : Bool := if r.size = 1 then true else if r.size > 1 then (bt r 0 != 48) else false
theorem digits_loop (r : ByteArray) (hs : r.size ≤ 140737488351232) : ∀ (m i : Nat), r.size - i = m → i ≤ r.size →
    Ev (fun k => fluxionref16_digits.l0 k r (i : Int)) (if ∀ j, j < r.size → i ≤ j → digAt r j = true then endS r else false)
  | 0, i, hm, hi => by
    rw [if_pos (fun j hj hij => by omega)]
    refine Ev.at 1 (fun k => ?_)
    simp only [fluxionref16_digits.l0]
    rw [if_neg (by omega)]
    unfold endS
    by_cases h1 : r.size = 1
    · rw [if_pos h1, if_pos (by omega)]
    · rw [if_neg h1, if_neg (by omega)]
      by_cases h2 : r.size > 1
      · rw [if_pos h2, if_pos (by omega), if_pos (by omega)]
      · rw [if_neg h2, if_neg (by omega)]
  | m + 1, i, hm, hi => by
    have hlt : i < r.size := by omega
    have ih := digits_loop r hs m (i + 1) (by omega) (by omega)
    by_cases c : digAt r i = true
    · have c' := (inB_iff _ _ _).1 c
      have e : (∀ j, j < r.size → i ≤ j → digAt r j = true) ↔ (∀ j, j < r.size → i + 1 ≤ j → digAt r j = true) :=
        ⟨fun h j hj hij => h j hj (by omega), fun h j hj hij => by
          by_cases e : j = i
          · rw [e]; exact c
          · exact h j hj (by omega)⟩
      simp only [e]
      refine Ev.step (fun k => ?_) ih
      simp only [fluxionref16_digits.l0]
      rw [if_pos (by omega), if_pos (by omega), if_neg (by omega), if_neg (by omega), wrap_id (by omega) (by omega)]; rfl
    · rw [if_neg (fun h => c (h i hlt (Nat.le_refl _)))]
      refine Ev.at 1 (fun k => ?_)
      simp only [fluxionref16_digits.l0]
      rw [if_pos (by omega), if_pos (by omega)]
      by_cases c1 : bt r (i : Int) < 48
      · rw [if_pos c1]
      · rw [if_neg c1, if_pos (by
          have : ¬ (48 ≤ bt r (i : Int) ∧ bt r (i : Int) ≤ 57) := fun h => c ((inB_iff _ _ _).2 h)
          omega)]
theorem natB_end (r : ByteArray) : natW r = if ∀ j, j < r.size → 0 ≤ j → digAt r j = true then endS r else false := by
  have hl := toList_len r
  unfold natW endS
  by_cases h : ∀ j, j < r.size → digAt r j = true
  · rw [if_pos h, if_pos (fun j hj _ => h j hj)]
    by_cases h0 : r.size = 0
    · have e : r.toList = [] := List.eq_nil_of_length_eq_zero (by omega)
      rw [e, if_neg (by omega), if_neg (by omega)]; rfl
    · have hne : (r.toList != ([] : List UInt8)) = true := by
        have : r.toList ≠ [] := fun e => by rw [e] at hl; simp at hl; omega
        simpa using this
      rw [hne]
      by_cases h1 : r.size = 1
      · rw [if_pos h1]
        cases hb : (bt r 0 != 48) with
        | true => simp
        | false =>
          have hb : bt r 0 = 48 := by simpa using hb
          have hpos : 0 < r.size := by omega
          have hx : ((r[0]'hpos).toNat : Int) = 48 := (bt_at r 0 hpos).trans hb
          have e : r.toList = [48] := by
            rw [Go.ByteArray.toList_eq]
            have hll : r.data.toList.length = 1 := by rw [← Go.ByteArray.toList_eq]; omega
            obtain ⟨x, hx2⟩ := List.length_eq_one_iff.1 hll
            rw [hx2]
            have : (r[0]'hpos) = x := by
              have e2 : r.data.toList[0]'(by omega) = x := by simp [hx2]
              rw [← e2]; rfl
            rw [this] at hx
            have : x.toNat = 48 := by omega
            have : x = 48 := UInt8.toNat_inj.1 (by rw [this]; rfl)
            rw [this]
          rw [e]; rfl
      · rw [if_neg h1, if_pos (by omega)]
        have e : (r.toList == ([48] : List UInt8)) = false := by
          have : r.toList ≠ [48] := fun e => by rw [e] at hl; simp at hl; omega
          simpa using this
        rw [e]; simp
  · rw [if_neg h, if_neg (fun c => h (fun j hj => c j hj (Nat.zero_le _)))]
theorem digits_ev (r : ByteArray) (hs : r.size ≤ 140737488351232) : Ev (fun k => fluxionref16_digits.f k r) (natW r) := by
  rw [natB_end]
  exact digits_loop r hs r.size 0 (by omega) (by omega)
end Go.Proofs.YtibaoacjjcgjlaaGreatDoor.Print

namespace Go.Proofs.YtibaoacjjcgjlaaGreatDoor.Ref
open Go.RowKit Go.Proofs.YtibaoacjjcgjlaaGreatDoorW.PrintWords Go.Proofs.YtibaoacjjcgjlaaGreatDoorW.PrintLast Go.Proofs.YtibaoacjjcgjlaaGreatDoor.Print Go.Proofs.YtibaoacjjcgjlaaGreatDoor.Base
set_option linter.unusedVariables false
set_option linter.unusedSimpArgs false
theorem w64 {x : Int} (h0 : -9223372036854775808 ≤ x) (h1 : x ≤ 9223372036854775807) : wrap64 x = x := by
  unfold wrap64; omega
theorem w64n {n : Nat} (h : n ≤ 9223372036854775807) : wrap64 (n : Int) = (n : Int) := w64 (by omega) (by omega)
theorem tdiv_nat (a b : Nat) : Int.tdiv (a : Int) (b : Int) = ((a / b : Nat) : Int) := rfl
theorem tmod_nat (a b : Nat) : Int.tmod (a : Int) (b : Int) = ((a % b : Nat) : Int) := rfl
theorem rd_limb {B : Nat} {l : List Int} (h : DigB B l) (i : Nat) : rd l (i : Int) = ((limbN l i : Nat) : Int) := by
  unfold rd limbN
  rw [Int.toNat_natCast, Int.toNat_of_nonneg]
  rcases Nat.lt_or_ge i l.length with c | c
  · have := h l[i] (List.getElem_mem c)
    simp [c]; omega
  · simp [List.getElem?_eq_none c]
theorem digit_f {B : Nat} {l : List Int} (h : DigB B l) (i : Nat) : r1d.f l (i : Int) = some ((limbN l i : Nat) : Int) := by
  unfold r1d.f
  by_cases c : i < l.length
  · rw [if_pos (by omega), if_pos (by omega), rd_limb h]
  · rw [if_neg (by omega), limbN_out (by omega)]; rfl
theorem top_pos {B : Nat} {l : List Int} (g : GoodB B l) {m : Nat} (h : m + 1 = l.length) : 0 < limbN l m := by
  have hl : l ≠ [] := fun e => by rw [e] at h; simp at h
  have hg : l.getLast hl ≠ 0 := fun c => g.can (by rw [List.getLast?_eq_some_getLast hl, c])
  have hd := g.dig _ (List.getLast_mem hl)
  have e : l.getD m 0 = l.getLast hl := by
    rw [List.getLast_eq_getElem]
    simp [show m = l.length - 1 by omega, show l.length - 1 < l.length by omega]
  unfold limbN; rw [e]; omega
theorem sumB_mul {B d : Nat} {g : Nat → Nat} : ∀ n, sumB B (fun i => g i * d) n = sumB B g n * d
  | 0 => by simp [sumB]
  | n + 1 => by rw [sumB, sumB, sumB_mul n, Nat.add_mul, Nat.mul_assoc]
theorem digB_step {B v : Nat} (hB : 2 ≤ B) (hv : 0 < v) : digB B v = ((v % B : Nat) : Int) :: digB B (v / B) := by
  have hm := Nat.mod_lt v (show 0 < B by omega)
  refine GoodB.inj (digB_good B hB v) ⟨DigB.cons (by omega) (by omega) (digB_good B hB _).dig, fun c => ?_⟩ ?_
  · cases hr : digB B (v / B) with
    | nil =>
      rw [hr] at c
      have h1 : ((v % B : Nat) : Int) = 0 := by simpa using c
      have h2 : v / B = 0 := by have := digB_val B hB (v / B); rw [hr] at this; exact this.symm
      have := Nat.mod_add_div v B
      rw [h2] at this; omega
    | cons e s =>
      rw [hr, List.getLast?_cons_cons, ← hr] at c
      exact (digB_good B hB _).can c
  · rw [digB_val B hB, valB_cons, digB_val B hB, Int.toNat_natCast, Nat.mod_add_div]
theorem digB_nil (v : Nat) : digB 10000 v = [] ↔ v = 0 :=
  ⟨fun h => by have := digB_val 10000 (by decide) v; rw [h] at this; exact this.symm, fun h => by rw [h]; exact digB_zero _ (by decide)⟩
theorem T_good (v : Nat) : GoodB 10000 (digB 10000 v) := digB_good _ (by decide) v
theorem T_val (v : Nat) : valB 10000 (digB 10000 v) = v := digB_val _ (by decide) v
theorem limb_lt {l : List Int} (h : DigB 10000 l) (i : Nat) : limbN l i < 10000 := limbN_lt (by decide) h i
theorem T_len {x n : Nat} (h : x < 4294967296 ^ n) : (digB 10000 x).length ≤ 3 * n := by
  refine digB_len (by decide) (Nat.lt_of_lt_of_le h ?_)
  rw [Nat.pow_mul]
  exact Nat.pow_le_pow_left (by decide) n
theorem T_len_le {x y : Nat} (h : x ≤ y) : (digB 10000 x).length ≤ (digB 10000 y).length := by
  refine digB_len (by decide) (Nat.lt_of_le_of_lt h ?_)
  have := valB_lt 10000 _ (T_good y).dig
  rwa [T_val] at this
def addF (a b : List Int) (i : Nat) : Nat := limbN a i + limbN b i
theorem addF_small {a b : List Int} (da : DigB 10000 a) (db : DigB 10000 b) (i : Nat) : addF a b i ≤ 2 * (10000 - 1) := by
  have := limb_lt da i; have := limb_lt db i; unfold addF; omega
theorem add_stop {a b : List Int} (ga : GoodB 10000 a) (gb : GoodB 10000 b) (i : Nat) (h1 : a.length ≤ i) (h2 : b.length ≤ i) (h3 : (putB 10000 (addF a b) i).2 = 0)
    (inv : i = 0 ∨ i - 1 < a.length ∨ i - 1 < b.length ∨ 0 < (putB 10000 (addF a b) (i - 1)).2) : (putB 10000 (addF a b) i).1 = digB 10000 (valB 10000 a + valB 10000 b) := by
  obtain ⟨e, d⟩ := putB_spec (B := 10000) (by decide) (f := addF a b) i
  rw [h3, Nat.mul_zero, Nat.add_zero] at e
  have es : sumB 10000 (addF a b) i = valB 10000 a + valB 10000 b := by
    show sumB 10000 (fun j => limbN a j + limbN b j) i = _
    rw [sumB_add, sumB_limb a i h1, sumB_limb b i h2]
  rw [← es, ← e]
  refine GoodB.eq (by decide) ⟨d, ?_⟩
  cases i with
  | zero => simp [putB]
  | succ m =>
    rw [Nat.add_sub_cancel] at inv
    have c2 : (putB 10000 (addF a b) (m + 1)).2 = (addF a b m + (putB 10000 (addF a b) m).2) / 10000 := rfl
    have c1 : (putB 10000 (addF a b) (m + 1)).1 = (putB 10000 (addF a b) m).1 ++ [(((addF a b m + (putB 10000 (addF a b) m).2) % 10000 : Nat) : Int)] := rfl
    rw [c2] at h3
    have hp : 0 < addF a b m + (putB 10000 (addF a b) m).2 := by
      rcases inv with h | h | h | h
      · omega
      · have := top_pos ga (m := m) (by omega); unfold addF; omega
      · have := top_pos gb (m := m) (by omega); unfold addF; omega
      · omega
    rw [c1]
    intro c
    have : (((addF a b m + (putB 10000 (addF a b) m).2) % 10000 : Nat) : Int) = 0 := by simpa using c
    omega
theorem add_loop {a b : List Int} (ga : GoodB 10000 a) (gb : GoodB 10000 b) (la : a.length ≤ 1000000) (lb : b.length ≤ 1000000) : ∀ (m i : Nat), i + m = max a.length b.length + 1 →
    (i = 0 ∨ i - 1 < a.length ∨ i - 1 < b.length ∨ 0 < (putB 10000 (addF a b) (i - 1)).2) →
    Ev (fun k => r1Add.l0 k a b (putB 10000 (addF a b) i).1 (((putB 10000 (addF a b) i).2 : Nat) : Int) (i : Int)) (digB 10000 (valB 10000 a + valB 10000 b)) := by
  have stop : ∀ i : Nat, i ≤ 1000001 → ¬ (i < a.length ∨ i < b.length ∨ 0 < (putB 10000 (addF a b) i).2) → (i = 0 ∨ i - 1 < a.length ∨ i - 1 < b.length ∨ 0 < (putB 10000 (addF a b) (i - 1)).2) →
      Ev (fun k => r1Add.l0 k a b (putB 10000 (addF a b) i).1 (((putB 10000 (addF a b) i).2 : Nat) : Int) (i : Int)) (digB 10000 (valB 10000 a + valB 10000 b)) := by
    intro i hi hc inv
    have h3 : (putB 10000 (addF a b) i).2 = 0 := by omega
    have e := add_stop ga gb i (by omega) (by omega) h3 inv
    refine Ev.step (fun k => ?_) (Ev.step (g := fun k => r1Add.j1 k a b (putB 10000 (addF a b) i).1 (((putB 10000 (addF a b) i).2 : Nat) : Int) (i : Int) false) (f := fun _ => some (putB 10000 (addF a b) i).1) (fun k => ?_) (e ▸ Ev.now _))
    · simp only [r1Add.l0]
      rw [if_neg (by omega), if_neg (by omega), decide_eq_false (by omega)]
    · simp only [r1Add.j1]
      rw [if_neg (by decide)]
  intro m
  induction m with
  | zero =>
    intro i hi inv
    have hb := putB_carry (B := 10000) (by decide) (K := 2) (addF_small ga.dig gb.dig) (i - 1)
    have hi1 : i = (i - 1) + 1 := by omega
    have h0 : (putB 10000 (addF a b) i).2 = 0 := by
      rw [hi1]
      show (addF a b (i - 1) + (putB 10000 (addF a b) (i - 1)).2) / 10000 = 0
      have : addF a b (i - 1) = 0 := by unfold addF; rw [limbN_out (by omega), limbN_out (by omega)]
      omega
    exact stop i (by omega) (by omega) inv
  | succ m ih =>
    intro i hi inv
    by_cases hc : i < a.length ∨ i < b.length ∨ 0 < (putB 10000 (addF a b) i).2
    · have hn := ih (i + 1) (by omega) (by rw [Nat.add_sub_cancel]; omega)
      have hcar := putB_carry (B := 10000) (by decide) (K := 2) (addF_small ga.dig gb.dig) i
      have h1 := limb_lt ga.dig i
      have h2 := limb_lt gb.dig i
      refine Ev.step (fun k => ?_) (Ev.step (g := fun k => r1Add.j1 k a b (putB 10000 (addF a b) i).1 (((putB 10000 (addF a b) i).2 : Nat) : Int) (i : Int) true) (fun k => ?_) hn)
      · simp only [r1Add.l0]
        by_cases c1 : i < a.length
        · rw [if_pos (by omega)]
        · rw [if_neg (by omega)]
          by_cases c2 : i < b.length
          · rw [if_pos (by omega)]
          · rw [if_neg (by omega), decide_eq_true (by omega)]
      · simp only [r1Add.j1]
        rw [if_pos trivial, digit_f ga.dig, digit_f gb.dig, Option.bind_some, Option.bind_some, if_pos (by rw [putB_len]; omega)]
        have ea : addF a b i = limbN a i + limbN b i := rfl
        have e1 : wrap64 (wrap64 (((limbN a i : Nat) : Int) + ((limbN b i : Nat) : Int)) + (((putB 10000 (addF a b) i).2 : Nat) : Int)) = ((addF a b i + (putB 10000 (addF a b) i).2 : Nat) : Int) := by
          rw [← Int.natCast_add, w64n (by omega), ← Int.natCast_add, w64n (by omega)]; rfl
        rw [e1, show (10000 : Int) = ((10000 : Nat) : Int) from rfl, tdiv_nat, tmod_nat, w64n (by omega), w64 (by omega) (by omega)]
        rfl
    · exact stop i (by omega) hc inv
theorem add_ev {x y : Nat} (hx : (digB 10000 x).length ≤ 1000000) (hy : (digB 10000 y).length ≤ 1000000) : Ev (fun k => r1Add.f k (digB 10000 x) (digB 10000 y)) (digB 10000 (x + y)) := by
  have h := add_loop (T_good x) (T_good y) hx hy (max (digB 10000 x).length (digB 10000 y).length + 1) 0 (by omega) (Or.inl rfl)
  rw [T_val, T_val] at h
  exact h
theorem take_snoc {l : List Int} {i : Nat} (h : i < l.length) : l.take (i + 1) = l.take i ++ [rd l (i : Int)] := by
  rw [List.take_succ_eq_append_getElem h]; simp [rd, h]
theorem trim_loop (l : List Int) (hl : l.length ≤ 4611686018427387904) : ∀ i : Nat, i ≤ l.length → Ev (fun k => r1t.l0 k l (i : Int)) (trimL (l.take i))
  | 0, _ => by
    refine Ev.step (f := fun _ => some []) (fun k => ?_) (Ev.now _)
    simp only [r1t.l0]
    rw [if_neg (by omega), if_pos (by omega), if_pos (by omega)]; rfl
  | i + 1, hi => by
    have hw : wrap64 (((i + 1 : Nat) : Int) - 1) = (i : Int) := by rw [w64 (by omega) (by omega)]; omega
    rw [take_snoc (by omega)]
    by_cases h0 : rd l (i : Int) = 0
    · rw [h0, trimL_snoc_zero]
      refine Ev.step (fun k => ?_) (trim_loop l hl i (by omega))
      simp only [r1t.l0]
      rw [hw, if_pos (by omega), if_pos (by omega), if_pos (by omega), if_pos h0]
    · rw [trimL_snoc _ _ h0]
      refine Ev.step (f := fun _ => some (l.take (i + 1))) (fun k => ?_) (by rw [take_snoc (by omega)]; exact Ev.now _)
      simp only [r1t.l0]
      rw [hw, if_pos (by omega), if_pos (by omega), if_pos (by omega), if_neg h0, if_pos (by omega), if_pos (by omega)]; rfl
theorem trim_ev {l : List Int} (hd : DigB 10000 l) (hl : l.length ≤ 4611686018427387904) : Ev (fun k => r1t.f k l) (digB 10000 (valB 10000 l)) := by
  have h := trim_loop l hl l.length (by omega)
  rw [List.take_length, trimL_eq (by decide) hd] at h
  exact h
def timesF (a : List Int) (d : Nat) (i : Nat) : Nat := limbN a i * d
theorem times_carry {a : List Int} (da : DigB 10000 a) (d i : Nat) : (putB 10000 (timesF a d) i).2 ≤ d := by
  refine putB_carry (by decide) (fun j => ?_) i
  have := limb_lt da j
  unfold timesF
  rw [Nat.mul_comm]
  exact Nat.mul_le_mul_left _ (by omega)
theorem times_out {a : List Int} (da : DigB 10000 a) (d : Nat) : ∀ t, (putB 10000 (timesF a d) (a.length + t)).2 ≤ d / 10000 ^ t
  | 0 => by simpa using times_carry da d a.length
  | t + 1 => by
    have ih := times_out da d t
    show (timesF a d (a.length + t) + (putB 10000 (timesF a d) (a.length + t)).2) / 10000 ≤ _
    rw [show timesF a d (a.length + t) = 0 by unfold timesF; rw [limbN_out (by omega), Nat.zero_mul], Nat.zero_add, Nat.pow_succ, ← Nat.div_div_eq_div_mul]
    exact Nat.div_le_div_right ih
theorem times_loop {a : List Int} (da : DigB 10000 a) (la : a.length ≤ 1000000) {d : Nat} (hd : d ≤ 4294967296) : ∀ (m i : Nat), i + m = a.length + 3 →
    Ev (fun k => r1Times.l0 k a (d : Int) (putB 10000 (timesF a d) i).1 (((putB 10000 (timesF a d) i).2 : Nat) : Int) (i : Int)) (digB 10000 (valB 10000 a * d)) := by
  have stop : ∀ i : Nat, i ≤ 1000003 → a.length ≤ i → (putB 10000 (timesF a d) i).2 = 0 →
      Ev (fun k => r1Times.l0 k a (d : Int) (putB 10000 (timesF a d) i).1 (((putB 10000 (timesF a d) i).2 : Nat) : Int) (i : Int)) (digB 10000 (valB 10000 a * d)) := by
    intro i hi hl h3
    obtain ⟨e, g⟩ := putB_spec (B := 10000) (by decide) (f := timesF a d) i
    rw [h3, Nat.mul_zero, Nat.add_zero] at e
    have es : sumB 10000 (timesF a d) i = valB 10000 a * d := by
      show sumB 10000 (fun j => limbN a j * d) i = _
      rw [sumB_mul, sumB_limb a i hl]
    have ht := trim_ev g (by rw [putB_len]; omega)
    rw [e, es] at ht
    refine Ev.step (fun k => ?_) (Ev.bind ht (f := fun _ t => some t) (Ev.now _))
    simp only [r1Times.l0]
    rw [if_neg (by omega), if_neg (by omega)]
  intro m
  induction m with
  | zero =>
    intro i hi
    have := times_out da d 3
    rw [show a.length + 3 = i by omega] at this
    exact stop i (by omega) (by omega) (by omega)
  | succ m ih =>
    intro i hi
    have hn := ih (i + 1) (by omega)
    have hcar := times_carry da d i
    have h1 := limb_lt da i
    have hp : timesF a d i ≤ 9999 * 4294967296 := by unfold timesF; exact Nat.mul_le_mul (by omega) hd
    have e1 : wrap64 (wrap64 (((limbN a i : Nat) : Int) * (d : Int)) + (((putB 10000 (timesF a d) i).2 : Nat) : Int)) = ((timesF a d i + (putB 10000 (timesF a d) i).2 : Nat) : Int) := by
      rw [← Int.natCast_mul]
      show wrap64 (wrap64 ((timesF a d i : Nat) : Int) + _) = _
      rw [w64n (by omega), ← Int.natCast_add, w64n (by omega)]
    have e2 : ∀ k, (if (putB 10000 (timesF a d) i).1.length < 17592186044416 then r1Times.l0 k a (d : Int) ((putB 10000 (timesF a d) i).1 ++ [Int.tmod (wrap64 (wrap64 (((limbN a i : Nat) : Int) * (d : Int)) + (((putB 10000 (timesF a d) i).2 : Nat) : Int))) 10000]) (wrap64 (Int.tdiv (wrap64 (wrap64 (((limbN a i : Nat) : Int) * (d : Int)) + (((putB 10000 (timesF a d) i).2 : Nat) : Int))) 10000)) (wrap64 ((i : Int) + 1)) else none) =
        r1Times.l0 k a (d : Int) (putB 10000 (timesF a d) (i + 1)).1 (((putB 10000 (timesF a d) (i + 1)).2 : Nat) : Int) ((i + 1 : Nat) : Int) := by
      intro k
      rw [if_pos (by rw [putB_len]; omega), e1, show (10000 : Int) = ((10000 : Nat) : Int) from rfl, tdiv_nat, tmod_nat, w64n (by omega), w64 (by omega) (by omega)]
      rfl
    by_cases c1 : i < a.length
    · refine Ev.step (fun k => ?_) hn
      simp only [r1Times.l0]
      rw [if_pos (by omega), digit_f da, Option.bind_some, e2]
    · by_cases c2 : 0 < (putB 10000 (timesF a d) i).2
      · refine Ev.step (fun k => ?_) hn
        simp only [r1Times.l0]
        rw [if_neg (by omega), if_pos (by omega), digit_f da, Option.bind_some, e2]
      · exact stop i (by omega) (by omega) (by omega)
theorem times_ev {x d : Nat} (hx : (digB 10000 x).length ≤ 1000000) (hd : d ≤ 4294967296) : Ev (fun k => r1Times.f k (digB 10000 x) (d : Int)) (digB 10000 (x * d)) := by
  have h := times_loop (T_good x).dig hx hd ((digB 10000 x).length + 3) 0 (by omega)
  rw [T_val] at h
  exact h
theorem times_lit {x : Nat} (hx : (digB 10000 x).length ≤ 1000000) : Ev (fun k => r1Times.f k (digB 10000 x) 65536) (digB 10000 (x * 65536)) := by
  have h := times_ev (d := 65536) hx (by decide)
  rw [show ((65536 : Nat) : Int) = 65536 from rfl] at h
  exact h
theorem times_ten {x : Nat} (hx : (digB 10000 x).length ≤ 1000000) : Ev (fun k => r1Times.f k (digB 10000 x) 10) (digB 10000 (x * 10)) := by
  have h := times_ev (d := 10) hx (by decide)
  rw [show ((10 : Nat) : Int) = 10 from rfl] at h
  exact h
theorem small_loop : ∀ (m v : Nat) (acc : List Int), v < 10000 ^ m → v ≤ 9223372036854775807 → acc.length + m ≤ 1000000 → Ev (fun k => r1Sm.l0 k (v : Int) acc) (acc ++ digB 10000 v)
  | 0, v, acc, h, _, _ => by
    obtain rfl : v = 0 := by simpa using h
    rw [digB_zero _ (by decide), List.append_nil]
    refine Ev.step (f := fun _ => some acc) (fun k => ?_) (Ev.now _)
    simp only [r1Sm.l0]; rw [if_neg (by omega)]
  | m + 1, v, acc, h, h63, hl => by
    by_cases h0 : v = 0
    · subst h0
      rw [digB_zero _ (by decide), List.append_nil]
      refine Ev.step (f := fun _ => some acc) (fun k => ?_) (Ev.now _)
      simp only [r1Sm.l0]; rw [if_neg (by omega)]
    · have ih := small_loop m (v / 10000) (acc ++ [((v % 10000 : Nat) : Int)]) (Nat.div_lt_of_lt_mul (by rw [Nat.pow_succ, Nat.mul_comm] at h; exact h)) (by omega) (by simp; omega)
      rw [List.append_assoc, List.singleton_append, ← digB_step (by decide) (by omega)] at ih
      refine Ev.step (fun k => ?_) ih
      simp only [r1Sm.l0]
      rw [if_pos (by omega), if_pos (by omega), show (10000 : Int) = ((10000 : Nat) : Int) from rfl, tdiv_nat, tmod_nat, w64n (by omega)]
theorem small_ev {v : Nat} (h : v < 1000000000000) : Ev (fun k => r1Sm.f k (v : Int)) (digB 10000 v) := by
  have := small_loop 3 v [] (by omega) (by omega) (by simp)
  exact this
theorem valB_drop {B : Nat} {l : List Int} {j : Nat} (h : j < l.length) : valB B (l.drop j) = limbN l j + B * valB B (l.drop (j + 1)) := by
  rw [List.drop_eq_getElem_cons h, valB_cons]
  simp [limbN, h]
theorem of_loop {l : List Int} (hd : DigB 4294967296 l) (hl : l.length ≤ 100000) : ∀ i : Nat, i ≤ l.length → Ev (fun k => r1Of.l0 k l (digB 10000 (valB 4294967296 (l.drop i))) ((i : Int) - 1)) (digB 10000 (valB 4294967296 l))
  | 0, _ => by
    refine Ev.step (f := fun _ => some (digB 10000 (valB 4294967296 l))) (fun k => ?_) (Ev.now _)
    simp only [r1Of.l0]; rw [if_neg (by omega)]; rfl
  | j + 1, hj => by
    have ih := of_loop hd hl j (by omega)
    rw [valB_drop (B := 4294967296) (j := j) (by omega)] at ih
    have hX := valB_lt 4294967296 _ (hd.drop (j + 1))
    rw [List.length_drop] at hX
    generalize valB 4294967296 (l.drop (j + 1)) = X at hX ih ⊢
    have l1 := T_len hX
    have hX1 : X * 65536 < 4294967296 ^ (l.length - (j + 1) + 1) := by
      rw [Nat.pow_succ]
      exact Nat.lt_of_lt_of_le (Nat.mul_lt_mul_of_pos_right hX (by decide)) (Nat.mul_le_mul_left _ (by decide))
    have l2 := T_len hX1
    have hX2 : X * 65536 * 65536 < 4294967296 ^ (l.length - (j + 1) + 1) := by
      rw [Nat.pow_succ, Nat.mul_assoc]
      exact Nat.mul_lt_mul_of_pos_right hX (by decide)
    have l3 := T_len hX2
    have hw := limbN_lt (by decide) hd j
    have l4 := T_len (x := limbN l j) (n := 1) (by rw [Nat.pow_one]; exact hw)
    have e3 : X * 65536 * 65536 + limbN l j = limbN l j + 4294967296 * X := by omega
    obtain ⟨X1, x1⟩ : ∃ X1, X * 65536 = X1 := ⟨_, rfl⟩
    rw [x1] at e3 l2 l3
    obtain ⟨X2, x2⟩ : ∃ X2, X1 * 65536 = X2 := ⟨_, rfl⟩
    rw [x2] at e3 l3
    have t1 := times_lit (x := X) (by omega)
    rw [x1] at t1
    have t2 := times_lit (x := X1) (by omega)
    rw [x2] at t2
    rw [← e3] at ih
    have s3 := Ev.bind (f := fun k t => r1Of.l0 k l t ((j : Int) - 1)) (add_ev (x := X2) (y := limbN l j) (by omega) (by omega)) ih
    have s2 := Ev.bind (f := fun k t => (r1Add.f k (digB 10000 X2) t).bind fun u => r1Of.l0 k l u ((j : Int) - 1)) (small_ev (v := limbN l j) (by omega)) s3
    have s1 := Ev.bind (f := fun k t => (r1Sm.f k ((limbN l j : Nat) : Int)).bind fun v => (r1Add.f k t v).bind fun u => r1Of.l0 k l u ((j : Int) - 1)) t2 s2
    have s0 := Ev.bind (f := fun k s => (r1Times.f k s 65536).bind fun t => (r1Sm.f k ((limbN l j : Nat) : Int)).bind fun v => (r1Add.f k t v).bind fun u => r1Of.l0 k l u ((j : Int) - 1)) t1 s1
    have p0 : (0 : Int) ≤ (j : Int) := by omega
    have p1 : (j : Int) < (l.length : Int) := by omega
    have p2 : wrap64 ((j : Int) - 1) = (j : Int) - 1 := w64 (by omega) (by omega)
    have p3 : wrap64 ((limbN l j : Nat) : Int) = ((limbN l j : Nat) : Int) := w64n (by omega)
    have p4 : ((j + 1 : Nat) : Int) - 1 = (j : Int) := by omega
    refine Ev.step (fun k => ?_) s0
    simp only [r1Of.l0, p4, ge_iff_le, if_pos p0, if_pos p1, rd_limb hd, p2, p3]
theorem of_ev {l : List Int} (hd : DigB 4294967296 l) (hl : l.length ≤ 100000) : Ev (fun k => r1Of.f k l) (digB 10000 (valB 4294967296 l)) := by
  have h := of_loop hd hl l.length (by omega)
  rw [List.drop_length, show valB 4294967296 [] = 0 from rfl, digB_zero _ (by decide)] at h
  refine Ev.congr (fun k => ?_) h
  unfold r1Of.f
  rw [w64 (by omega) (by omega)]
theorem cmp_loop {a b : List Int} (da : DigB 10000 a) (db : DigB 10000 b) (hl : a.length = b.length) (h9 : a.length ≤ 4611686018427387904) : ∀ i : Nat, i ≤ a.length → (∀ j, i ≤ j → j < a.length → limbN a j = limbN b j) →
    Ev (fun k => r1Cmp.l0 k a b ((i : Int) - 1)) (cmpN (valB 10000 a) (valB 10000 b))
  | 0, _, he => by
    have e : valB 10000 a = valB 10000 b := by
      rw [← sumB_limb a a.length (by omega), ← sumB_limb b a.length (by omega)]
      exact sumB_congr (fun j hj => he j (by omega) hj)
    refine Ev.step (f := fun _ => some (cmpN (valB 10000 a) (valB 10000 b))) (fun k => ?_) (Ev.now _)
    simp only [r1Cmp.l0]
    rw [if_neg (by omega), e]; unfold cmpN; simp
  | j + 1, hj, he => by
    have hlt : ∀ {x y : List Int}, DigB 10000 x → DigB 10000 y → x.length = a.length → y.length = a.length → (∀ t, j + 1 ≤ t → t < a.length → limbN x t = limbN y t) → limbN x j < limbN y j → valB 10000 x < valB 10000 y := by
      intro x y dx dy lx ly hxy hc
      rw [← sumB_limb x a.length (by omega), ← sumB_limb y a.length (by omega)]
      exact sum_lt (by decide) (limb_lt dx) a.length j (by omega) (fun t ht h2 => hxy t (by omega) h2) hc
    have pre : ∀ k, r1Cmp.l0 (k + 1) a b (((j + 1 : Nat) : Int) - 1) = if ((limbN a j : Nat) : Int) < ((limbN b j : Nat) : Int) then some (-1) else if ((limbN a j : Nat) : Int) > ((limbN b j : Nat) : Int) then some 1 else r1Cmp.l0 k a b ((j : Int) - 1) := by
      intro k
      simp only [r1Cmp.l0]
      rw [show ((j + 1 : Nat) : Int) - 1 = (j : Int) by omega, if_pos (by omega), if_pos (by omega), if_pos (by omega), if_pos (by omega), rd_limb da, rd_limb db, w64 (by omega) (by omega)]
    rcases Nat.lt_trichotomy (limbN a j) (limbN b j) with c | c | c
    · have := hlt da db rfl hl.symm he c
      refine Ev.step (f := fun _ => some (-1)) (fun k => by rw [pre, if_pos (by omega)]) ?_
      unfold cmpN; rw [if_pos this]; exact Ev.now _
    · refine Ev.step (fun k => by rw [pre, if_neg (by omega), if_neg (by omega)]) (cmp_loop da db hl h9 j (by omega) (fun t h1 h2 => ?_))
      rcases Nat.eq_or_lt_of_le h1 with h | h
      · rw [← h]; exact c
      · exact he t h h2
    · have := hlt db da hl.symm rfl (fun t h1 h2 => (he t h1 h2).symm) c
      refine Ev.step (f := fun _ => some 1) (fun k => by rw [pre, if_neg (by omega), if_pos (by omega)]) ?_
      unfold cmpN; rw [if_neg (by omega), if_pos this]; exact Ev.now _
theorem good_lt {a b : List Int} (ga : GoodB 10000 a) (gb : GoodB 10000 b) (h : a.length < b.length) : valB 10000 a < valB 10000 b := by
  have h1 := valB_lt 10000 a ga.dig
  have h2 := gb.len_lt (fun e => by rw [e] at h; simp at h)
  exact Nat.lt_of_lt_of_le h1 (Nat.le_trans (Nat.pow_le_pow_right (by decide) (by omega)) h2)
theorem cmp_good {a b : List Int} (ga : GoodB 10000 a) (gb : GoodB 10000 b) (h9 : a.length ≤ 4611686018427387904) : Ev (fun k => r1Cmp.f k a b) (cmpN (valB 10000 a) (valB 10000 b)) := by
  rcases Nat.lt_trichotomy a.length b.length with c | c | c
  · have := good_lt ga gb c
    refine Ev.congr (f := fun _ => some (-1)) (fun k => ?_) (by unfold cmpN; rw [if_pos this]; exact Ev.now _)
    unfold r1Cmp.f; rw [if_neg (by omega), if_pos (by omega)]
  · refine Ev.congr (fun k => ?_) (cmp_loop ga.dig gb.dig c h9 a.length (by omega) (fun j h1 h2 => by omega))
    unfold r1Cmp.f; rw [if_pos (by omega), w64 (by omega) (by omega)]
  · have := good_lt gb ga c
    refine Ev.congr (f := fun _ => some 1) (fun k => ?_) (by unfold cmpN; rw [if_neg (by omega), if_pos this]; exact Ev.now _)
    unfold r1Cmp.f; rw [if_neg (by omega), if_neg (by omega)]
theorem cmp_ev (x y : Nat) (h9 : (digB 10000 x).length ≤ 4611686018427387904) : Ev (fun k => r1Cmp.f k (digB 10000 x) (digB 10000 y)) (cmpN x y) := by
  have := cmp_good (T_good x) (T_good y) h9
  rwa [T_val, T_val] at this
theorem canon_f {l : List Int} (h : GoodB 4294967296 l) (h9 : l.length ≤ 4611686018427387904) : fluxionref01_Canonical.f l = some true := by
  unfold fluxionref01_Canonical.f
  by_cases c : l.length = 0
  · rw [if_pos (by omega)]
  · rw [if_neg (by omega), w64 (by omega) (by omega), if_pos (by omega), if_pos (by omega)]
    have e : ((l.length : Int) - 1) = ((l.length - 1 : Nat) : Int) := by omega
    have hp := top_pos h (m := l.length - 1) (by omega)
    rw [e, rd_limb h.dig]
    congr 1
    rw [bne_iff_ne]; omega
theorem is_ev {x y n : Nat} (hy : y < 4294967296 ^ n) (hn : n ≤ 50000) : Ev (fun k => r1Is.f k (digB 10000 x) (digB 4294967296 y)) (decide (x = y)) := by
  have g := digB_good 4294967296 (by decide) y
  have hl : (digB 4294967296 y).length ≤ n := digB_len (by decide) hy
  have ho := of_ev g.dig (by omega)
  rw [digB_val _ (by decide)] at ho
  have l1 := T_len hy
  refine Ev.congr (fun k => ?_) (Ev.bind ho (f := fun k t => (r1Cmp.f k t (digB 10000 x)).bind fun u => some (u == 0)) (Ev.bind (cmp_ev y x (by omega)) ?_))
  · unfold r1Is.f
    rw [canon_f g (by omega), Option.bind_some, if_pos rfl]
  · have : (cmpN y x == 0) = decide (x = y) := by
      unfold cmpN
      rcases Nat.lt_trichotomy x y with c | c | c
      · rw [if_neg (by omega), if_pos c, decide_eq_false (by omega)]; rfl
      · subst c; simp
      · rw [if_pos c, decide_eq_false (by omega)]; rfl
    rw [this]; exact Ev.now _
end Go.Proofs.YtibaoacjjcgjlaaGreatDoor.Ref

namespace Go.Proofs
open Go.RowKit Go.Shelf
shelf_lay Lays.n283 Nm 283 at Tryz as Tryz.laySmall
shelf_lay LaysM.n284 Nm 284 at Tryz as Tryz.layNumDigits
shelf_lay Lays.n285 Nm 285 at Tryz as Tryz.layBase10
end Go.Proofs
namespace Go.Proofs.YtibaoacjjcgjlaaGreatDoor.Print
open Go.RowKit Go.Shelf Go.Sort Go.Lib Go.Proofs.YtibaoacjjcgjlaaGreatDoorW.PrintWords Go.Proofs.YtibaoacjjcgjlaaGreatDoorW.PrintLast Go.Proofs.YtibaoacjjcgjlaaGreatDoorW.PrintMore
set_option linter.unusedVariables false
set_option linter.unusedSimpArgs false
def PowTab (w : World) : Prop := Lib.TabIs Tryz.prog w "internal/strconv.uint64pow10" .u64 Lib.pow10Tab
theorem PowTab.below {w0 w : World} (h : PowTab w0) (hb : Below w0.heap.size w0 w) : PowTab w := by
  unfold PowTab Lib.TabIs World.var? at h ⊢
  obtain ⟨g, hg, h⟩ := Option.bind_eq_some_iff.1 h
  rw [hg, Option.bind_some]
  cases hw : w0.heap[g]? with
  | none => rw [hw] at h; cases h
  | some o =>
    have hlt := (Array.getElem?_eq_some_iff.1 hw).1
    rw [hb.block g hlt, hw]
    rw [hw] at h; exact h
def decB (u : Nat) : ByteArray := ⟨(Lib.decDigits u).toArray⟩
end Go.Proofs.YtibaoacjjcgjlaaGreatDoor.Print

namespace Go.Proofs.YtibaoacjjcgjlaaGreatDoor.Ref
open Go.RowKit Go.Proofs.YtibaoacjjcgjlaaGreatDoorW.PrintWords Go.Proofs.YtibaoacjjcgjlaaGreatDoorW.PrintLast Go.Proofs.YtibaoacjjcgjlaaGreatDoor.Print Go.Proofs.YtibaoacjjcgjlaaGreatDoor.Base
set_option linter.unusedVariables false
set_option linter.unusedSimpArgs false
structure Quot (B V : Nat) (l out : List Int) (i : Nat) : Prop where
  len : out.length = l.length
  dig : DigB B out
  low : ∀ t, t < i → limbN out t = 0
  val : valB B out = B ^ i * (valB B (l.drop i) / V)
theorem Quot.start {B V : Nat} (hB : 0 < B) (l : List Int) : Quot B V l (List.replicate l.length 0) l.length := by
  refine ⟨by simp, DigB.zeros B hB _, fun t _ => ?_, by rw [valB_zeros, List.drop_length, valB_nil, Nat.zero_div, Nat.mul_zero]⟩
  unfold limbN
  rcases Nat.lt_or_ge t l.length with c | c
  · simp [c]
  · simp [Nat.not_lt.2 c]
theorem quot_step {B V d X : Nat} (hV : 0 < V) (hd : d < B) : (d + B * X) / V = B * (X / V) + (X % V * B + d) / V ∧ (d + B * X) % V = (X % V * B + d) % V ∧ (X % V * B + d) / V < B := by
  have e : d + B * X = (X % V * B + d) + V * (B * (X / V)) := by
    have h := Nat.mod_add_div X V
    have h2 : B * X = B * (X % V) + B * (V * (X / V)) := by rw [← Nat.mul_add, h]
    rw [h2, Nat.mul_left_comm B V, Nat.mul_comm B (X % V)]; omega
  refine ⟨by rw [e, Nat.add_mul_div_left _ _ hV]; omega, by rw [e, Nat.add_mul_mod_self_left], ?_⟩
  refine Nat.div_lt_of_lt_mul ?_
  have h1 : X % V + 1 ≤ V := Nat.mod_lt X hV
  have h2 := Nat.mul_le_mul_right B h1
  rw [Nat.add_mul, Nat.one_mul] at h2
  omega
theorem Quot.next {B V : Nat} {l out : List Int} {i : Nat} (h : Quot B V l out (i + 1)) (hB : 0 < B) (hV : 0 < V) (hl : DigB B l) (hi : i < l.length) {q : Int}
    (hq : q = (((valB B (l.drop (i + 1)) % V * B + limbN l i) / V : Nat) : Int)) : Quot B V l (out.set i q) i := by
  obtain ⟨h1, h2, h3⟩ := quot_step (X := valB B (l.drop (i + 1))) hV (limbN_lt hB hl i)
  have hio : i < out.length := by rw [h.len]; exact hi
  refine ⟨by rw [List.length_set]; exact h.len, fun x hx => ?_, fun t ht => ?_, ?_⟩
  · rcases List.mem_or_eq_of_mem_set hx with hx | hx
    · exact h.dig x hx
    · rw [hx, hq]; exact ⟨Int.natCast_nonneg _, Int.ofNat_lt.2 h3⟩
  · have := h.low t (by omega)
    unfold limbN at this ⊢
    simpa [show i ≠ t by omega] using this
  · have hs := valB_set (B := B) out i hio q
    have h0 := h.low i (by omega)
    unfold limbN at h0
    rw [h0, Nat.mul_zero, Nat.add_zero, h.val, hq, Int.toNat_natCast] at hs
    rw [hq, hs, valB_drop hi, h1, Nat.pow_succ, Nat.mul_add, Nat.mul_assoc]
theorem Quot.done {V : Nat} {l out : List Int} (h : Quot 10000 V l out 0) : valB 10000 out = valB 10000 l / V := by
  have := h.val
  rwa [Nat.pow_zero, Nat.one_mul, List.drop_zero] at this
theorem Quot.rest {B V : Nat} {l : List Int} {i : Nat} (hB : 0 < B) (hV : 0 < V) (hl : DigB B l) (hi : i < l.length) : valB B (l.drop i) % V = (valB B (l.drop (i + 1)) % V * B + limbN l i) % V := by
  rw [valB_drop hi]; exact (quot_step hV (limbN_lt hB hl i)).2.1
theorem short_loop {l : List Int} (hl : DigB 10000 l) (h9 : l.length ≤ 1000000) {d : Nat} (d0 : 0 < d) (d1 : d ≤ 4294967296) : ∀ (i : Nat) (out : List Int), i ≤ l.length → Quot 10000 d l out i →
    Ev (fun k => r1S.l0 k l (d : Int) out ((valB 10000 (l.drop i) % d : Nat) : Int) ((i : Int) - 1)) (digB 10000 (valB 10000 l / d), ((valB 10000 l % d : Nat) : Int))
  | 0, out, _, hq => by
    have ht := trim_ev hq.dig (by rw [hq.len]; omega)
    rw [hq.done] at ht
    refine Ev.step (fun k => ?_) (Ev.bind (f := fun _ t => some (t, ((valB 10000 l % d : Nat) : Int))) ht (Ev.now _))
    simp only [r1S.l0]
    rw [if_neg (by omega), List.drop_zero]
  | j + 1, out, hj, hq => by
    have hlim := limb_lt hl j
    have hr := Nat.mod_lt (valB 10000 (l.drop (j + 1))) d0
    have ih := short_loop hl h9 d0 d1 j _ (by omega) (hq.next (by decide) d0 hl (by omega) rfl)
    rw [Quot.rest (by decide) d0 hl (show j < l.length by omega)] at ih
    refine Ev.step (fun k => ?_) ih
    simp only [r1S.l0]
    have e1 : wrap64 ((wrap64 (((valB 10000 (l.drop (j + 1)) % d : Nat) : Int) * 10000)) + ((limbN l j : Nat) : Int)) = ((valB 10000 (l.drop (j + 1)) % d * 10000 + limbN l j : Nat) : Int) := by
      rw [show (10000 : Int) = ((10000 : Nat) : Int) from rfl, ← Int.natCast_mul, w64n (by omega), ← Int.natCast_add, w64n (by omega)]
    have hlt : (valB 10000 (l.drop (j + 1)) % d * 10000 + limbN l j) / d ≤ 9223372036854775807 := Nat.le_trans (Nat.div_le_self _ _) (by omega)
    rw [show ((j + 1 : Nat) : Int) - 1 = (j : Int) by omega, if_pos (by omega), if_pos (by omega), if_pos (by omega), if_neg (by omega), if_pos (by rw [hq.len]; omega), rd_limb hl, e1, tdiv_nat, tmod_nat, w64n hlt, w64 (by omega) (by omega), Int.toNat_natCast]
theorem short_ev {x d : Nat} (hx : (digB 10000 x).length ≤ 1000000) (d0 : 0 < d) (d1 : d ≤ 4294967296) : Ev (fun k => r1S.f k (digB 10000 x) (d : Int)) (digB 10000 (x / d), ((x % d : Nat) : Int)) := by
  have h := short_loop (T_good x).dig hx d0 d1 (digB 10000 x).length _ (by omega) (Quot.start (by decide) _)
  rw [T_val, List.drop_length, show valB 10000 [] % d = 0 by rw [valB_nil]; exact Nat.zero_mod d] at h
  refine Ev.congr (fun k => ?_) h
  unfold r1S.f
  rw [if_pos (by omega), if_pos (by omega), Int.toNat_natCast, w64 (by omega) (by omega)]; rfl
def nb (x : Nat) : Nat := if x = 0 then 0 else x.log2 + 1
theorem nb_half {x : Nat} (h : 0 < x) : nb x = nb (x / 2) + 1 := by
  unfold nb
  rw [if_neg (by omega)]
  by_cases h1 : x = 1
  · subst h1; rfl
  · rw [if_neg (by omega), show x.log2 = (x / 2).log2 + 1 by rw [Nat.log2_def x, if_pos (by omega)]]
theorem nb_le {x n : Nat} : nb x ≤ n ↔ x < 2 ^ n := by
  unfold nb
  by_cases h : x = 0
  · rw [if_pos h, h]; exact ⟨fun _ => Nat.pow_pos (by decide), fun _ => Nat.zero_le _⟩
  · rw [if_neg h, ← Nat.log2_lt h]; omega
theorem bits_loop : ∀ (n x c : Nat), x < 2 ^ n → (digB 10000 x).length ≤ 1000000 → c + n ≤ 1000000000 → Ev (fun k => r1B.l0 k (digB 10000 x) (c : Int)) ((c + nb x : Nat) : Int)
  | 0, x, c, h, _, _ => by
    obtain rfl : x = 0 := by simpa using h
    rw [digB_zero _ (by decide)]
    refine Ev.step (f := fun _ => some ((c : Nat) : Int)) (fun k => ?_) (Ev.now _)
    simp only [r1B.l0]; rw [if_neg (by simp)]
  | n + 1, x, c, h, hl, hc => by
    by_cases h0 : x = 0
    · subst h0
      rw [digB_zero _ (by decide)]
      refine Ev.step (f := fun _ => some ((c : Nat) : Int)) (fun k => ?_) (Ev.now _)
      simp only [r1B.l0]; rw [if_neg (by simp)]
    · have ih := bits_loop n (x / 2) (c + 1) (Nat.div_lt_of_lt_mul (by rw [Nat.pow_succ, Nat.mul_comm] at h; exact h)) (Nat.le_trans (T_len_le (Nat.div_le_self x 2)) hl) (by omega)
      have hs := short_ev hl (d := 2) (by decide) (by decide)
      rw [show ((2 : Nat) : Int) = 2 from rfl] at hs
      have hne : 0 < (digB 10000 x).length := Nat.pos_of_ne_zero (fun e => h0 ((digB_nil x).1 (List.eq_nil_of_length_eq_zero e)))
      rw [show c + nb x = c + 1 + nb (x / 2) by rw [nb_half (by omega)]; omega]
      refine Ev.step (fun k => ?_) (Ev.bind (f := fun k bt => r1B.l0 k bt.1 ((c + 1 : Nat) : Int)) hs ih)
      simp only [r1B.l0]
      rw [if_pos (by omega), w64 (by omega) (by omega)]; rfl
theorem bits_ev {x n : Nat} (h : x < 2 ^ n) (hl : (digB 10000 x).length ≤ 1000000) (hn : n ≤ 1000000000) : Ev (fun k => r1B.f k (digB 10000 x)) ((nb x : Nat) : Int) := by
  have := bits_loop n x 0 h hl (by omega)
  rw [Nat.zero_add] at this
  exact this
def bA (l : List UInt8) : ByteArray := ⟨l.toArray⟩
theorem piece (d : Nat) (h : d < 10) : (⟨#[48, 49, 50, 51, 52, 53, 54, 55, 56, 57]⟩ : ByteArray).extract d (d + 1) = bA [UInt8.ofNat (48 + d)] := by
  rcases (by omega : d = 0 ∨ d = 1 ∨ d = 2 ∨ d = 3 ∨ d = 4 ∨ d = 5 ∨ d = 6 ∨ d = 7 ∨ d = 8 ∨ d = 9) with rfl | rfl | rfl | rfl | rfl | rfl | rfl | rfl | rfl | rfl <;> rfl
theorem bt_lst (s : ByteArray) (i : Nat) (h : i < s.data.toList.length) : bt s (i : Int) = ((s.data.toList[i].toNat : Nat) : Int) := by
  rw [← bt_at s i (by simpa using h)]; rfl
theorem bt_bA (L : List UInt8) (i : Nat) (h : i < L.length) : bt (bA L) (i : Int) = ((L[i].toNat : Nat) : Int) := by
  have := bt_lst (bA L) i (by simpa [bA] using h)
  simpa [bA] using this
theorem bA_size (l : List UInt8) : (bA l).size = l.length := rfl
theorem bA_append (a b : List UInt8) : bA a ++ bA b = bA (a ++ b) := by
  refine Go.WideShapes.bytes_inj ?_
  rw [ByteArray.data_append, Array.toList_append]; simp [bA]
theorem four_f {d : Nat} (h : d < 10000) : fluxionref04_four.f (d : Int) = some (bA (padD 4 d)) := by
  have e1 : wrap64 (Int.tdiv (d : Int) 1000) = ((d / 1000 : Nat) : Int) := by rw [show (1000 : Int) = ((1000 : Nat) : Int) from rfl, tdiv_nat, w64n (by omega)]
  have e2 : Int.tmod (wrap64 (Int.tdiv (d : Int) 100)) 10 = ((d / 100 % 10 : Nat) : Int) := by rw [show (100 : Int) = ((100 : Nat) : Int) from rfl, tdiv_nat, w64n (by omega)]; rfl
  have e3 : Int.tmod (wrap64 (Int.tdiv (d : Int) 10)) 10 = ((d / 10 % 10 : Nat) : Int) := by rw [show (10 : Int) = ((10 : Nat) : Int) from rfl, tdiv_nat, w64n (by omega)]; rfl
  have e4 : Int.tmod (d : Int) 10 = ((d % 10 : Nat) : Int) := rfl
  unfold fluxionref04_four.f
  rw [e1, e2, e3, e4]
  have a0 : d / 1000 < 10 := by omega
  have a1 : d / 100 % 10 < 10 := by omega
  have a2 : d / 10 % 10 < 10 := by omega
  have a3 : d % 10 < 10 := by omega
  have ep : padD 4 d = [UInt8.ofNat (48 + d / 1000), UInt8.ofNat (48 + d / 100 % 10), UInt8.ofNat (48 + d / 10 % 10), UInt8.ofNat (48 + d % 10)] := by
    simp only [padD, List.nil_append, List.cons_append]
    rw [show d / 10 / 10 / 10 % 10 = d / 1000 by omega, show d / 10 / 10 % 10 = d / 100 % 10 by omega]
  rw [ep]
  generalize d / 1000 = n0 at a0 ⊢
  generalize d / 100 % 10 = n1 at a1 ⊢
  generalize d / 10 % 10 = n2 at a2 ⊢
  generalize d % 10 = n3 at a3 ⊢
  have q : ∀ n : Nat, n < 10 → wrap64 ((n : Int) + 1) = ((n + 1 : Nat) : Int) := fun n hn => by rw [w64 (by omega) (by omega)]; rfl
  simp only [q _ a0, q _ a1, q _ a2, q _ a3, Int.toNat_natCast, piece _ a0, piece _ a1, piece _ a2, piece _ a3, bA_append, bA_size, List.cons_append, List.nil_append, List.length_cons, List.length_nil]
  repeat rw [if_pos (by omega)]
theorem padD_join : ∀ (m k q r : Nat), r < 10 ^ m → padD (k + m) (q * 10 ^ m + r) = padD k q ++ padD m r
  | 0, k, q, r, h => by
    obtain rfl : r = 0 := by simpa using h
    simp [padD]
  | m + 1, k, q, r, h => by
    have hp : 10 ^ (m + 1) = 10 ^ m * 10 := Nat.pow_succ 10 m
    have h1 : r / 10 < 10 ^ m := Nat.div_lt_of_lt_mul (by rw [hp, Nat.mul_comm] at h; exact h)
    have ih := padD_join m k q (r / 10) h1
    have e : q * 10 ^ (m + 1) + r = 10 * (q * 10 ^ m + r / 10) + r % 10 := by
      rw [hp, ← Nat.mul_assoc]; omega
    show padD (k + m) ((q * 10 ^ (m + 1) + r) / 10) ++ [UInt8.ofNat (48 + (q * 10 ^ (m + 1) + r) % 10)] = padD k q ++ (padD m (r / 10) ++ [UInt8.ofNat (48 + r % 10)])
    rw [e, show (10 * (q * 10 ^ m + r / 10) + r % 10) / 10 = q * 10 ^ m + r / 10 by omega, show (10 * (q * 10 ^ m + r / 10) + r % 10) % 10 = r % 10 by omega, ih, List.append_assoc]
theorem nat_strip : ∀ (n : Nat) (pre s : List UInt8) (c : UInt8), pre.length = n → (∀ x ∈ pre, x = 48) → c ≠ 48 → ∀ i : Nat, i ≤ n → pre.length + s.length ≤ 9000000 →
    Ev (fun k => r4N.l1 k (bA (pre ++ c :: s)) (i : Int)) (bA (c :: s)) := by
  intro n pre s c hn hp hc
  have hsz : (bA (pre ++ c :: s)).size = n + 1 + s.length := by rw [bA_size, List.length_append, List.length_cons, hn]; omega
  have main : ∀ m i : Nat, i + m = n → pre.length + s.length ≤ 9000000 → Ev (fun k => r4N.l1 k (bA (pre ++ c :: s)) (i : Int)) (bA (c :: s)) := by
    intro m
    induction m with
    | zero =>
      intro i hi hb
      have hbt : bt (bA (pre ++ c :: s)) (i : Int) ≠ 48 := by
        rw [bt_bA _ _ (by simp; omega), List.getElem_append_right (by omega)]
        intro e
        apply hc
        have e2 : (c :: s)[i - pre.length]'(by simp; omega) = c := by simp [show i - pre.length = 0 by omega]
        rw [e2] at e
        exact UInt8.toNat_inj.1 (by have h48 : (48 : UInt8).toNat = 48 := rfl; omega)
      refine Ev.step (f := fun _ => some (bA (c :: s))) (fun k => ?_) (Ev.now _)
      simp only [r4N.l1]
      rw [if_pos (by omega), if_pos (by rw [hsz]; omega), if_neg hbt, if_pos (by rw [hsz]; omega)]
      congr 1
      refine Go.WideShapes.bytes_inj ?_
      rw [extract_list, Int.toNat_natCast, show i = pre.length by omega]
      show ((pre ++ c :: s).drop pre.length).take _ = c :: s
      rw [List.drop_left, List.take_of_length_le]
      rw [hsz, List.length_cons]; omega
    | succ m ih =>
      intro i hi hb
      have hbt : bt (bA (pre ++ c :: s)) (i : Int) = 48 := by
        rw [bt_bA _ _ (by simp; omega), List.getElem_append_left (by omega), hp _ (List.getElem_mem _)]; rfl
      refine Ev.step (fun k => ?_) (ih (i + 1) (by omega) hb)
      simp only [r4N.l1]
      rw [if_pos (by omega), if_pos (by rw [hsz]; omega), if_pos hbt, w64 (by omega) (by omega)]
      rfl
  intro i hi hb
  exact main (n - i) i (by omega) hb
theorem nat_loop {l : List Int} (hl : DigB 10000 l) (h9 : l.length ≤ 1000000) {R : ByteArray} (hR : Ev (fun k => r4N.l1 k (bA (padD (4 * l.length) (valB 10000 l))) 0) R) : ∀ i : Nat, i ≤ l.length →
    Ev (fun k => r4N.l0 k l (bA (padD (4 * (l.length - i)) (valB 10000 (l.drop i)))) ((i : Int) - 1)) R
  | 0, _ => by
    refine Ev.step (fun k => ?_) hR
    simp only [r4N.l0]; rw [if_neg (by omega), List.drop_zero]; rfl
  | j + 1, hj => by
    have ih := nat_loop hl h9 hR j (by omega)
    have hlim := limb_lt hl j
    have e : padD (4 * (l.length - j)) (valB 10000 (l.drop j)) = padD (4 * (l.length - (j + 1))) (valB 10000 (l.drop (j + 1))) ++ padD 4 (limbN l j) := by
      rw [valB_drop (B := 10000) (show j < l.length by omega), ← padD_join 4 _ _ _ hlim, show 4 * (l.length - (j + 1)) + 4 = 4 * (l.length - j) by omega, show (10 : Nat) ^ 4 = 10000 from rfl]
      congr 1; omega
    rw [e, ← bA_append] at ih
    refine Ev.step (fun k => ?_) ih
    simp only [r4N.l0]
    rw [show ((j + 1 : Nat) : Int) - 1 = (j : Int) by omega, if_pos (by omega), if_pos (by omega), if_pos (by omega), rd_limb hl, four_f hlim, Option.bind_some, if_pos (by rw [bA_size, bA_size, padD_length, padD_length]; omega), w64 (by omega) (by omega)]
theorem nat_ev {x : Nat} (h9 : (digB 10000 x).length ≤ 1000000) : Ev (fun k => r4N.f k (digB 10000 x)) (decB x) := by
  by_cases h0 : x = 0
  · subst h0
    refine Ev.congr (f := fun _ => some (decB 0)) (fun k => ?_) (Ev.now _)
    unfold r4N.f
    rw [digB_zero _ (by decide), if_pos (by simp)]
    unfold decB; rw [dec_small (by decide)]; rfl
  · have hne : 0 < (digB 10000 x).length := Nat.pos_of_ne_zero (fun e => h0 ((digB_nil x).1 (List.eq_nil_of_length_eq_zero e)))
    have hlt := valB_lt 10000 _ (T_good x).dig
    rw [T_val] at hlt
    obtain ⟨m, hm⟩ : ∃ m, 4 * (digB 10000 x).length = m + 1 := ⟨4 * (digB 10000 x).length - 1, by omega⟩
    have hlt2 : x < 10 ^ (m + 1) := by
      rw [← hm, Nat.pow_mul]; exact hlt
    obtain ⟨p1, p2⟩ := padD_dec m x hlt2
    have hh := (dec_num_all x).2.2 (by omega)
    have hs : Ev (fun k => r4N.l1 k (bA (padD (4 * (digB 10000 x).length) (valB 10000 (digB 10000 x)))) 0) (decB x) := by
      rw [T_val, hm, p2]
      unfold decB
      cases hd : Lib.decDigits x with
      | nil => exact absurd hd (dec_ne x)
      | cons c s =>
        rw [hd] at hh p1
        exact nat_strip _ _ s c rfl (fun y hy => List.eq_of_mem_replicate hy) (by simpa using hh) 0 (by omega) (by simp at p1 ⊢; omega)
    have h := nat_loop (T_good x).dig h9 hs (digB 10000 x).length (by omega)
    rw [List.drop_length, Nat.sub_self] at h
    refine Ev.congr (fun k => ?_) h
    unfold r4N.f
    rw [if_neg (by omega), w64 (by omega) (by omega)]; rfl
theorem natural_loop (s : ByteArray) (h9 : s.size ≤ 4611686018427387904) : ∀ (m i : Nat), i + m = s.size → Ev (fun k => r4nat.l0 k s (i : Int)) ((s.data.toList.drop i).all isDig && !(s.data.toList == [] || (decide (1 < s.data.toList.length) && s.data.toList.head? == some 48))) := by
  have hsz : s.data.toList.length = s.size := size_toList2 s
  intro m
  induction m with
  | zero =>
    intro i hi
    rw [List.drop_eq_nil_of_le (by omega), List.all_nil, Bool.true_and]
    refine Ev.step (f := fun _ => some (!(s.data.toList == [] || (decide (1 < s.data.toList.length) && s.data.toList.head? == some 48)))) (fun k => ?_) (Ev.now _)
    simp only [r4nat.l0]
    rw [if_neg (by omega)]
    by_cases h0 : s.size = 0
    · have hnil : s.data.toList = [] := List.eq_nil_of_length_eq_zero (by omega)
      rw [if_neg (by omega), hnil]; rfl
    · rw [if_pos (by omega), if_pos (by omega)]
      have hb : ∀ c r, s.data.toList = c :: r → bt s 0 = ((c.toNat : Nat) : Int) := fun c r e => by
        have hb := bt_lst s 0 (by omega)
        rw [List.getElem_of_eq e] at hb
        exact hb
      generalize s.data.toList = L at hb hsz ⊢
      cases L with
      | nil => simp at hsz; omega
      | cons c r =>
        rw [hb c r rfl]
        have h48 : (48 : UInt8).toNat = 48 := rfl
        by_cases c48 : c = 48
        · subst c48
          rw [if_pos (by omega)]
          congr 1
          by_cases h1 : s.size = 1
          · have hr : r = [] := List.eq_nil_of_length_eq_zero (by simp at hsz; omega)
            subst hr
            rw [h1]; rfl
          · have h2 : ((s.size : Int) == 1) = false := by rw [beq_eq_false_iff_ne]; omega
            rw [h2, decide_eq_true (show 1 < ((48 : UInt8) :: r).length by rw [hsz]; omega)]; rfl
        · have hne : ((c.toNat : Nat) : Int) ≠ 48 := fun e => c48 (UInt8.toNat_inj.1 (by omega))
          rw [if_neg hne]
          simp [c48]
  | succ m ih =>
    intro i hi
    have hi2 : i < s.data.toList.length := by omega
    rw [List.drop_eq_getElem_cons hi2, List.all_cons]
    have hb := bt_lst s i hi2
    generalize s.data.toList[i] = x at hb ⊢
    by_cases hd : isDig x = true
    · rw [hd, Bool.true_and]
      refine Ev.step (fun k => ?_) (ih (i + 1) (by omega))
      simp [isDig] at hd
      simp only [r4nat.l0]
      rw [if_pos (by omega), if_pos (by omega), hb, if_neg (by simp at hd ⊢; omega), if_neg (by simp at hd ⊢; omega), w64 (by omega) (by omega)]; rfl
    · have hd2 : isDig x = false := by simpa using hd
      rw [hd2, Bool.false_and, Bool.false_and]
      refine Ev.step (f := fun _ => some false) (fun k => ?_) (Ev.now _)
      simp only [r4nat.l0]
      rw [if_pos (by omega), if_pos (by omega), hb]
      have h3 : x.toNat < 48 ∨ 57 < x.toNat := by
        unfold isDig at hd2
        rcases Bool.and_eq_false_iff.1 hd2 with h | h <;> simp at h <;> omega
      rcases h3 with h | h
      · rw [if_pos (by omega)]
      · rw [if_neg (by omega), if_pos (by omega)]
theorem natural_ev (s : ByteArray) (h9 : s.size ≤ 4611686018427387904) : Ev (fun k => r4nat.f k s) (natB s.data.toList) := by
  have h := natural_loop s h9 s.size 0 (by omega)
  rw [List.drop_zero, Bool.and_comm] at h
  exact h
theorem number_loop (s : ByteArray) (hd : DigL s.data.toList) (h9 : s.size ≤ 1000) : ∀ (m i : Nat), i + m = s.size → Ev (fun k => r4nr.l0 k s (digB 10000 (numD (s.data.toList.take i))) (i : Int)) (digB 10000 (numD s.data.toList)) := by
  have hsz : s.data.toList.length = s.size := size_toList2 s
  intro m
  induction m with
  | zero =>
    intro i hi
    rw [List.take_of_length_le (by omega)]
    refine Ev.step (f := fun _ => some (digB 10000 (numD s.data.toList))) (fun k => ?_) (Ev.now _)
    simp only [r4nr.l0]; rw [if_neg (by omega)]
  | succ m ih =>
    intro i hi
    have hi2 : i < s.data.toList.length := by omega
    have hb := bt_lst s i hi2
    have hdi := hd _ (List.getElem_mem hi2)
    have ih := ih (i + 1) (by omega)
    rw [List.take_succ_eq_append_getElem hi2, numD_snoc] at ih
    have hlt := numD_lt _ (fun x hx => hd x (List.mem_of_mem_take hx) : DigL (s.data.toList.take i))
    rw [List.length_take, Nat.min_eq_left (by omega)] at hlt
    generalize numD (s.data.toList.take i) = v at ih hlt ⊢
    generalize hc : s.data.toList[i].toNat - 48 = c at ih
    have hv : v < 10000 ^ i := Nat.lt_of_lt_of_le hlt (Nat.pow_le_pow_left (by decide) i)
    have hv2 : v * 10 < 10000 ^ (i + 1) := by
      rw [Nat.pow_succ]; exact Nat.lt_of_lt_of_le (Nat.mul_lt_mul_of_pos_right hv (by decide)) (Nat.mul_le_mul_left _ (by decide))
    have l1 := digB_len (by decide) hv
    have l2 := digB_len (by decide) hv2
    have l3 := digB_len (B := 10000) (v := c) (n := 1) (by decide) (by rw [Nat.pow_one]; omega)
    rw [show 10 * v + c = v * 10 + c by omega] at ih
    have s2 := Ev.bind (f := fun k t => r4nr.l0 k s t ((i + 1 : Nat) : Int)) (add_ev (x := v * 10) (y := c) (by omega) (by omega)) ih
    have s1 := Ev.bind (f := fun k t => (r1Add.f k (digB 10000 (v * 10)) t).bind fun u => r4nr.l0 k s u ((i + 1 : Nat) : Int)) (small_ev (v := c) (by omega)) s2
    have s0 := Ev.bind (f := fun k t => (r1Sm.f k (c : Int)).bind fun w => (r1Add.f k t w).bind fun u => r4nr.l0 k s u ((i + 1 : Nat) : Int)) (times_ten (x := v) (by omega)) s1
    refine Ev.step (fun k => ?_) s0
    have p0 : (0 : Int) ≤ (i : Int) := by omega
    have p1 : (i : Int) < (s.size : Int) := by omega
    have p2 : wrap64 ((i : Int) + 1) = ((i + 1 : Nat) : Int) := by rw [w64 (by omega) (by omega)]; rfl
    have p3 : wrap64 (wrap64 (bt s (i : Int)) - 48) = (c : Int) := by rw [hb, w64n (by omega), w64 (by omega) (by omega)]; omega
    simp only [r4nr.l0, if_pos p0, if_pos p1, p2, p3]
theorem number_ev (s : ByteArray) (hd : DigL s.data.toList) (h9 : s.size ≤ 1000) : Ev (fun k => r4nr.f k s) (digB 10000 (numD s.data.toList)) := by
  have h := number_loop s hd h9 s.size 0 (by omega)
  rw [List.take_zero, show numD [] = 0 from rfl, digB_zero _ (by decide)] at h
  exact h
theorem limbs_most (n a : Nat) (h : n = a * 32) (ha : a = 32) : (4294967296 : Nat) ^ 32 = 2 ^ n := by
  rw [h, Nat.pow_mul, ha]
def refNat (l : List UInt8) : List Int × Int := if natB l = true then (if 400 < l.length then ([], 14) else if numD l < 4294967296 ^ 32 then (digB 10000 (numD l), 0) else ([], 14)) else ([], 19)
theorem parse_ev (s : ByteArray) (h9 : s.size ≤ 4611686018427387904) : Ev (fun k => r4PN.f k s) (refNat s.data.toList) := by
  have hsz : s.data.toList.length = s.size := size_toList2 s
  unfold refNat
  refine Ev.congr (fun k => rfl) (Ev.bind (f := fun k t => if t = true then (if (s.size : Int) > 400 then (some (([] : List Int), 14)) else ((r4nr.f k s).bind fun t269 => ((r1B.f k t269).bind fun t272 => (if t272 > 1024 then (some (([] : List Int), 14)) else (some (t269, 0)))))) else (some (([] : List Int), 19))) (natural_ev s h9) ?_)
  by_cases hn : natB s.data.toList = true
  · by_cases h4 : 400 < s.size
    · refine Ev.congr (f := fun _ => some (([] : List Int), 14)) (fun k => ?_) (by rw [if_pos hn, if_pos (by omega)]; exact Ev.now _)
      rw [hn, if_pos rfl, if_pos (by omega)]
    · have hd := (natB_iff.1 hn).2.1
      have hlt := numD_lt _ hd
      rw [hsz] at hlt
      have hlt2 : numD s.data.toList < 10000 ^ s.size := Nat.lt_of_lt_of_le hlt (Nat.pow_le_pow_left (by decide) _)
      have l1 := digB_len (by decide) hlt2
      have hlt3 : numD s.data.toList < 2 ^ (4 * s.size) := by rw [Nat.pow_mul]; exact Nat.lt_of_lt_of_le hlt (Nat.pow_le_pow_left (by decide) _)
      have hb := bits_ev hlt3 (by omega) (by omega)
      rw [if_pos hn, if_neg (by omega)]
      refine Ev.congr (f := fun k => (r4nr.f k s).bind fun t269 => ((r1B.f k t269).bind fun t272 => (if t272 > 1024 then (some (([] : List Int), 14)) else (some (t269, 0))))) (fun k => ?_) (Ev.bind (number_ev s hd (by omega)) (Ev.bind hb ?_))
      · rw [hn, if_pos rfl, if_neg (by omega)]
      · obtain ⟨n, hn2⟩ : ∃ n : Nat, n = 1024 := ⟨_, rfl⟩
        rw [limbs_most n 32 (by omega) rfl]
        by_cases hc : nb (numD s.data.toList) ≤ n
        · rw [if_pos (nb_le.1 hc), if_neg (by omega)]; exact Ev.now _
        · rw [if_neg (fun c => hc (nb_le.2 c)), if_pos (by omega)]; exact Ev.now _
  · refine Ev.congr (f := fun _ => some (([] : List Int), 19)) (fun k => ?_) (by rw [if_neg hn]; exact Ev.now _)
    rw [if_neg hn]
end Go.Proofs.YtibaoacjjcgjlaaGreatDoor.Ref

namespace Go.Proofs.YtibaoacjjcgjlaaGreatDoor.Print
open Go.RowKit Go.Shelf Go.Proofs.YtibaoacjjcgjlaaGreatDoorW.PrintWords Go.Proofs.YtibaoacjjcgjlaaGreatDoorW.PrintLast Go.Proofs.YtibaoacjjcgjlaaGreatDoorW.PrintMore Go.Proofs.YtibaoacjjcgjlaaGreatDoor.Base
attribute [local go_sem] Oper.semAt_some
set_option linter.unusedVariables false
def RearKeeps (n₀ Bs : Nat) (W W' : World) : Prop := Below n₀ W W' ∧ ∀ v, Boxed W Bs 28 v → Boxed W' Bs 28 v
theorem RearKeeps.refl (n₀ Bs : Nat) (W : World) : RearKeeps n₀ Bs W W := ⟨Below.refl _ _, fun _ h => h⟩
theorem RearKeeps.trans {n₀ Bs : Nat} {A B C : World} (h : RearKeeps n₀ Bs A B) (k : RearKeeps n₀ Bs B C) : RearKeeps n₀ Bs A C := ⟨h.1.trans k.1, fun v hv => k.2 v (h.2 v hv)⟩
theorem digB_step {B : Nat} (hB : 2 ≤ B) {v : Nat} (h : 0 < v) : digB B v = ((v % B : Nat) : Int) :: digB B (v / B) := by
  have hg := digB_good B hB (v / B)
  have hv := digB_val B hB (v / B)
  have hm : v % B < B := Nat.mod_lt _ (by omega)
  refine GoodB.inj (digB_good B hB v) ⟨DigB.cons (by omega) (by omega) hg.1, ?_⟩ ?_
  · cases hd : digB B (v / B) with
    | nil =>
      rw [hd, valB_nil] at hv
      have : v < B := by
        rcases Nat.lt_or_ge v B with c | c
        · exact c
        · have := Nat.div_pos c (by omega); omega
      rw [Nat.mod_eq_of_lt this]
      simp; omega
    | cons d r => rw [List.getLast?_cons_cons]; rw [← hd]; exact hg.2
  · rw [digB_val B hB, valB_cons, hv, Int.toNat_natCast]
    have := Nat.mod_add_div v B
    omega
end Go.Proofs.YtibaoacjjcgjlaaGreatDoor.Print

namespace Go.Proofs
open Go.RowKit Go.Shelf
shelf_lay Lays.n105 Nm 105 at Tryz as Tryz.layRep
end Go.Proofs
namespace Go.Proofs.YtibaoacjjcgjlaaGreatDoor.Print
open Go.RowKit Go.Shelf Go.Proofs.YtibaoacjjcgjlaaGreatDoorW.PrintWords Go.Proofs.YtibaoacjjcgjlaaGreatDoorW.PrintLast Go.Proofs.YtibaoacjjcgjlaaGreatDoorW.PrintMore Go.Proofs.YtibaoacjjcgjlaaGreatDoor.Base
attribute [local go_sem] Oper.semAt_some
set_option linter.unusedVariables false
set_option linter.unusedSimpArgs false
def Turn (n₀ Bs : Nat) (W W' : World) : Prop := RearKeeps n₀ Bs W W' ∧ KeepsOthers W W'
theorem Turn.trans {n₀ Bs : Nat} {A B C : World} (h : Turn n₀ Bs A B) (k : Turn n₀ Bs B C) : Turn n₀ Bs A C := ⟨h.1.trans k.1, h.2.trans k.2⟩
theorem Turn.of_below {n₀ Bs : Nat} {W W' : World} (hn : n₀ ≤ W.heap.size) (hb : Below W.heap.size W W') : Turn n₀ Bs W W' :=
  ⟨⟨hb.mono hn, fun v hv => (hb.block _ (Boxed.lt hv)).trans hv⟩, ⟨hb.size, fun k o hk _ => (hb.block k (Array.getElem?_eq_some_iff.1 hk).1).trans hk⟩⟩
end Go.Proofs.YtibaoacjjcgjlaaGreatDoor.Print

namespace Go.Proofs.YtibaoacjjcgjlaaGreatDoor.Ref
open Go.RowKit Go.Proofs.YtibaoacjjcgjlaaGreatDoorW.PrintWords Go.Proofs.YtibaoacjjcgjlaaGreatDoorW.PrintLast Go.Proofs.YtibaoacjjcgjlaaGreatDoor.Print Go.Proofs.YtibaoacjjcgjlaaGreatDoor.Base
set_option linter.unusedVariables false
set_option linter.unusedSimpArgs false
theorem cmp_f {a b : List Int} (h : okN a = true) (k : okN b = true) : nat_Cmp.f a b = some (cmpN (valB 4294967296 a) (valB 4294967296 b)) := by unfold nat_Cmp.f; rw [if_pos ⟨h, k⟩]
theorem decB_list (u : Nat) : (decB u).toList = Lib.decDigits u := by rw [ByteArray.toList_eq]; rfl
theorem le_pow10 {k a b : Nat} (h : a * b ≤ k) : (10 ^ a) ^ b ≤ 10 ^ k := by
  rw [← Nat.pow_mul]; exact Nat.pow_le_pow_right (by decide) h
def progNat (l : List UInt8) : List Int × Int := if natB l = true then (if 309 < l.length then ([], 14) else if numD l < 4294967296 ^ 32 then (digB 4294967296 (numD l), 0) else ([], 14)) else ([], 19)
theorem num_big {l : List UInt8} (h : NatL l) (hl : 309 < l.length) : 4294967296 ^ 32 ≤ numD l := by
  obtain ⟨h1, h2, h3⟩ := h
  cases l with
  | nil => simp at hl
  | cons c r =>
    have hc : c ≠ 48 := fun e => by
      have := h3 (by rw [e]; rfl)
      omega
    have hd := h2 c (List.mem_cons_self ..)
    have hne : c.toNat ≠ 48 := fun e => hc (UInt8.toNat_inj.1 (by have h48 : (48 : UInt8).toNat = 48 := rfl; omega))
    have e1 : numD (c :: r) = numF (10 * 0 + (c.toNat - 48)) r := rfl
    rw [e1, numF_eq]
    have hr : 309 ≤ r.length := by simp at hl; omega
    have a1 : 4294967296 ^ 32 ≤ (10 ^ 103) ^ 3 := Nat.le_of_ble_eq_true rfl
    have a2 : (10 ^ 103) ^ 3 ≤ 10 ^ r.length := le_pow10 hr
    have a3 : 1 * 10 ^ r.length ≤ (10 * 0 + (c.toNat - 48)) * 10 ^ r.length := Nat.mul_le_mul_right _ (by omega)
    exact Nat.le_trans a1 (Nat.le_trans a2 (Nat.le_trans (by rw [Nat.one_mul] at a3; exact a3) (Nat.le_add_right _ _)))
theorem read_same (l : List UInt8) : (progNat l = ([], 19) ∧ refNat l = ([], 19)) ∨ (progNat l = ([], 14) ∧ refNat l = ([], 14)) ∨ (natB l = true ∧ l.length ≤ 309 ∧ numD l < 4294967296 ^ 32 ∧ progNat l = (digB 4294967296 (numD l), 0) ∧ refNat l = (digB 10000 (numD l), 0)) := by
  unfold progNat refNat
  by_cases h : natB l = true
  · rw [if_pos h, if_pos h]
    by_cases h4 : 400 < l.length
    · rw [if_pos h4, if_pos (by omega)]; exact Or.inr (Or.inl ⟨rfl, rfl⟩)
    · rw [if_neg h4]
      by_cases h3 : 309 < l.length
      · have := num_big (natB_iff.1 h) h3
        rw [if_pos h3, if_neg (Nat.not_lt.2 this)]; exact Or.inr (Or.inl ⟨rfl, rfl⟩)
      · rw [if_neg h3]
        by_cases h2 : numD l < 4294967296 ^ 32
        · rw [if_pos h2, if_pos h2]; exact Or.inr (Or.inr ⟨h, by omega, h2, rfl, rfl⟩)
        · rw [if_neg h2, if_neg h2]; exact Or.inr (Or.inl ⟨rfl, rfl⟩)
  · rw [if_neg h, if_neg h]; exact Or.inl ⟨rfl, rfl⟩
theorem bA_self (s : ByteArray) : bA s.data.toList = s := by cases s; simp [bA]
theorem bA_list (l : List UInt8) : (bA l).data.toList = l := by simp [bA]
theorem bA_toList (l : List UInt8) : (bA l).toList = l := by rw [ByteArray.toList_eq]; exact bA_list l
theorem bA_dec (v : Nat) : decB v = bA (Lib.decDigits v) := rfl
theorem dec_len {x n : Nat} (h : x < 4294967296 ^ n) : (Lib.decDigits x).length ≤ 10 * n + 1 := by
  refine (padD_dec (10 * n) x (Nat.lt_of_lt_of_le h ?_)).1
  rw [Nat.pow_succ, Nat.pow_mul]
  exact Nat.le_trans (Nat.pow_le_pow_left (by decide) n) (Nat.le_mul_of_pos_right _ (by decide))
theorem okD {v m : Nat} (h : v < 4294967296 ^ m) (hm : m ≤ 1000000) : okN (digB 4294967296 v) = true := okN_digB h (by omega)
theorem valD (v : Nat) : valB 4294967296 (digB 4294967296 v) = v := digB_val _ (by decide) v
end Go.Proofs.YtibaoacjjcgjlaaGreatDoor.Ref

namespace Go.Proofs.YtibaoacjjcgjlaaGreatDoor.Ref
open Go.RowKit Go.Proofs.YtibaoacjjcgjlaaGreatDoorW.PrintWords Go.Proofs.YtibaoacjjcgjlaaGreatDoorW.PrintLast Go.Proofs.YtibaoacjjcgjlaaGreatDoor.Print Go.Proofs.YtibaoacjjcgjlaaGreatDoor.Base
set_option linter.unusedVariables false
set_option linter.unusedSimpArgs false
theorem natW_bA (l : List UInt8) : natW (bA l) = natB l := by
  have hall : (∀ j, j < (bA l).size → digAt (bA l) j = true) ↔ l.all isDig = true := by
    rw [List.all_eq_true]
    constructor
    · intro h c hc
      obtain ⟨j, hj, rfl⟩ := List.getElem_of_mem hc
      have := h j hj
      unfold digAt at this
      rw [bt_bA l j hj, inB_iff] at this
      unfold isDig
      rw [decide_eq_true (show 48 ≤ l[j].toNat by omega), decide_eq_true (show l[j].toNat ≤ 57 by omega)]; rfl
    · intro h j hj
      have hj2 : j < l.length := hj
      have := h l[j] (List.getElem_mem hj2)
      unfold isDig at this
      rw [Bool.and_eq_true, decide_eq_true_iff, decide_eq_true_iff] at this
      unfold digAt
      rw [bt_bA l j hj2, inB_iff]
      omega
  unfold natW natB
  by_cases h : l.all isDig = true
  · rw [if_pos (hall.2 h), h, Bool.and_true, bA_toList]
    cases l with
    | nil => rfl
    | cons c r =>
      have hb : bt (bA (c :: r)) 0 = ((c.toNat : Nat) : Int) := bt_bA (c :: r) 0 (by simp)
      have h48 : (48 : UInt8).toNat = 48 := rfl
      rw [hb]
      by_cases c48 : c = 48
      · subst c48
        cases r with
        | nil => rfl
        | cons d q => simp
      · have hne : (((c.toNat : Nat) : Int) != 48) = true := by
          rw [bne_iff_ne]; exact fun e => c48 (UInt8.toNat_inj.1 (by omega))
        have e1 : ((c :: r) == ([48] : List UInt8)) = false := by
          rw [beq_eq_false_iff_ne]; intro e
          injection e with e
          exact c48 e
        have e2 : ((c :: r).head? == some (48 : UInt8)) = false := by
          rw [beq_eq_false_iff_ne]; intro e
          exact c48 (Option.some.inj e)
        rw [hne, e1, e2, Bool.and_false]; rfl
  · rw [if_neg (fun x => h (hall.1 x)), show l.all isDig = false by simpa using h, Bool.and_false]
theorem numF_ge : ∀ (l : List UInt8) (a : Nat), a ≤ numF a l
  | [], a => Nat.le_refl _
  | c :: r, a => by
    have := numF_ge r (10 * a + (c.toNat - 48))
    have e : numF a (c :: r) = numF (10 * a + (c.toNat - 48)) r := rfl
    rw [e]; omega
theorem parse64 : ∀ (l : List UInt8) (a : Nat), DigL l → a ≤ 18446744073709551615 → Lib.parseUintM 18446744073709551615 a l = if numF a l ≤ 18446744073709551615 then .ok (numF a l) else .range
  | [], a, _, ha => by
    simp only [Lib.parseUintM]
    rw [if_pos (show numF a [] ≤ 18446744073709551615 from ha)]; rfl
  | c :: r, a, h, ha => by
    have hc := h c (List.mem_cons_self ..)
    have e : numF a (c :: r) = numF (10 * a + (c.toNat - 48)) r := rfl
    have hg := numF_ge r (10 * a + (c.toNat - 48))
    rw [e]
    simp only [Lib.parseUintM]
    rw [if_pos hc]
    by_cases h1 : 1844674407370955162 ≤ a
    · rw [if_pos h1, if_neg (by omega)]
    · rw [if_neg h1]
      by_cases h2 : 18446744073709551615 < a * 10 + (c.toNat - 48)
      · rw [if_pos h2, if_neg (by omega)]
      · rw [if_neg h2, show a * 10 + (c.toNat - 48) = 10 * a + (c.toNat - 48) by omega]
        exact parse64 r _ (fun x hx => h x (List.mem_cons_of_mem _ hx)) (by omega)
def readW (l : List UInt8) : Int × Int := if natB l = true then (if 2147483647 < numD l then (0, 14) else ((numD l : Int), 0)) else (0, 19)
theorem lexread_f (l : List UInt8) (hl : l.length ≤ 140737488351232) : lex_read.f (bA l) = some (readW l) := by
  unfold lex_read.f readW
  rw [if_pos (by rw [bA_size]; exact hl), natW_bA]
  by_cases h : natB l = true
  · rw [if_pos h, if_pos h, bA_list]
    obtain ⟨h0, hd, _⟩ := natB_iff.1 h
    have hp : Lib.parseUintB 64 l = if numD l ≤ 18446744073709551615 then .ok (numD l) else .range := by
      unfold Lib.parseUintB; rw [if_neg h0]
      exact parse64 l 0 hd (by omega)
    rw [hp]
    by_cases hn : numD l ≤ 18446744073709551615
    · rw [if_pos hn]; rfl
    · rw [if_neg hn, if_pos (by omega)]
  · rw [if_neg h, if_neg h]
def headC (c : UInt8) (l : List UInt8) : Bool := l.head? == some c
def tailC (c : UInt8) (l : List UInt8) : List UInt8 := if headC c l = true then l.drop 1 else l
theorem prefixC (c : UInt8) (l : List UInt8) : strings_CutPrefix.f (bA l) ⟨#[c]⟩ = some (bA (tailC c l), headC c l) := by
  unfold strings_CutPrefix.f Lib.trimPrefix tailC headC
  rw [bA_list, show (⟨#[c]⟩ : ByteArray).data.toList = [c] from rfl]
  cases l with
  | nil => rfl
  | cons d r =>
    by_cases h : d = c
    · subst h
      have e1 : Lib.hasPrefix (d :: r) [d] = true := by unfold Lib.hasPrefix; simp [List.isPrefixOf]
      have e2 : ((d :: r).head? == some d) = true := by simp
      rw [e1, e2]; rfl
    · have e1 : Lib.hasPrefix (d :: r) [c] = false := by unfold Lib.hasPrefix; simp [List.isPrefixOf, Ne.symm h]
      have e2 : ((d :: r).head? == some c) = false := by simp [h]
      rw [e1, e2]; rfl
theorem tailC_len (c : UInt8) (l : List UInt8) : (tailC c l).length ≤ l.length := by
  unfold tailC; split
  · simp
  · exact Nat.le_refl _
def intW (l : List UInt8) : Int × Int := if headC 45 l = true then (if tailC 45 l = [48] then (0, 19) else (-(readW (tailC 45 l)).1, (readW (tailC 45 l)).2)) else readW l
def refW (l : List UInt8) : Int × Int := if headC 37 l = true then readW (tailC 37 l) else (0, 19)
theorem readW_range (l : List UInt8) : 0 ≤ (readW l).1 ∧ (readW l).1 ≤ 2147483647 := by
  unfold readW
  split
  · split
    · exact ⟨by decide, by decide⟩
    · constructor <;> simp only [] <;> omega
  · exact ⟨by decide, by decide⟩
theorem lexint_ev (l : List UInt8) (hl : l.length ≤ 140737488351232) : Ev (fun k => lex_Int.f k (bA l)) (intW l) := by
  have ht := tailC_len 45 l
  have hr := readW_range (tailC 45 l)
  have j : ∀ (b x : Bool), (b = false → x = false) → Ev (fun k => lex_Int.j0 k (bA (tailC 45 l)) b x) (if x = true then (0, 19) else if b = true then (-(readW (tailC 45 l)).1, (readW (tailC 45 l)).2) else readW (tailC 45 l)) := by
    intro b x hx
    refine Ev.step (f := fun _ => some (if x = true then (0, 19) else if b = true then (-(readW (tailC 45 l)).1, (readW (tailC 45 l)).2) else readW (tailC 45 l))) (fun k => ?_) (Ev.now _)
    simp only [lex_Int.j0]
    rw [lexread_f _ (by omega)]
    cases x with
    | true => rfl
    | false =>
      cases b with
      | true =>
        show some (wrap64 (-(readW (tailC 45 l)).1), (readW (tailC 45 l)).2) = some (-(readW (tailC 45 l)).1, (readW (tailC 45 l)).2)
        rw [w64 (by omega) (by omega)]
      | false => rfl
  unfold intW
  by_cases h : headC 45 l = true
  · refine Ev.congr (fun k => ?_) (by
      have := j (headC 45 l) ((bA (tailC 45 l)).toList == ([48] : List UInt8)) (fun e => by rw [h] at e; cases e)
      rw [bA_toList, h, if_pos rfl] at this
      rw [if_pos h]
      by_cases c : tailC 45 l = [48]
      · rw [if_pos c]; rw [if_pos (by simpa using c)] at this; exact this
      · rw [if_neg c]; rw [if_neg (by simpa using c)] at this; exact this)
    unfold lex_Int.f
    rw [prefixC, Option.bind_some]
    simp only [h, if_true, bA_toList]
  · have h2 : headC 45 l = false := by simpa using h
    have e : tailC 45 l = l := by unfold tailC; rw [if_neg h]
    refine Ev.congr (fun k => ?_) (by
      have := j (headC 45 l) false (fun _ => rfl)
      rw [h2, e] at this
      rw [if_neg h]
      exact this)
    unfold lex_Int.f
    rw [prefixC, Option.bind_some]
    simp only [h2, e]; rfl
theorem lexref_f (l : List UInt8) (hl : l.length ≤ 140737488351232) : lex_Ref.f (bA l) = some (refW l) := by
  have ht := tailC_len 37 l
  unfold lex_Ref.f refW
  rw [prefixC, Option.bind_some]
  by_cases h : headC 37 l = true
  · simp only [h, if_true]
    rw [lexread_f _ (by omega)]; rfl
  · have h2 : headC 37 l = false := by simpa using h
    simp only [h2]; rfl
theorem nat_zero {l : List UInt8} (h : natB l = true) : numD l = 0 ↔ l = [48] := by
  constructor
  · intro e
    rw [← dec_numL (natB_iff.1 h), e, dec_small (by decide)]; rfl
  · intro e; rw [e]; rfl
end Go.Proofs.YtibaoacjjcgjlaaGreatDoor.Ref

namespace Go.Proofs.YtibaoacjjcgjlaaGreatDoor.Ref
open Go.RowKit Go.Proofs.YtibaoacjjcgjlaaGreatDoorW.PrintWords Go.Proofs.YtibaoacjjcgjlaaGreatDoorW.PrintLast Go.Proofs.YtibaoacjjcgjlaaGreatDoor.Print Go.Proofs.YtibaoacjjcgjlaaGreatDoor.Base
set_option linter.unusedVariables false
set_option linter.unusedSimpArgs false
theorem valB_snoc (B : Nat) (l : List Int) (d : Int) : valB B (l ++ [d]) = valB B l + B ^ l.length * d.toNat := by
  rw [valB_append, valB_cons, valB_nil, Nat.mul_zero, Nat.add_zero]
theorem sub_loop {a b : List Int} (da : DigB 10000 a) (db : DigB 10000 b) (hl : b.length ≤ a.length) (h9 : a.length ≤ 1000000) (hle : valB 10000 b ≤ valB 10000 a) : ∀ (m i : Nat) (acc : List Int) (less : Nat), i + m = a.length → acc.length = i → DigB 10000 acc → less ≤ 1 →
    valB 10000 acc + sumB 10000 (limbN b) i = sumB 10000 (limbN a) i + 10000 ^ i * less →
    Ev (fun k => r1Sub.l0 k a b acc (less : Int) (i : Int)) (digB 10000 (valB 10000 a - valB 10000 b), true) := by
  intro m
  induction m with
  | zero =>
    intro i acc less hi hac dac hless inv
    rw [sumB_limb b i (by omega), sumB_limb a i (by omega)] at inv
    have hlt := valB_lt 10000 acc dac
    rw [hac] at hlt
    have h0 : less = 0 := by
      rcases Nat.eq_zero_or_pos less with h | h
      · exact h
      · exfalso
        have : less = 1 := by omega
        rw [this, Nat.mul_one] at inv
        omega
    rw [h0, Nat.mul_zero, Nat.add_zero] at inv
    have ht := trim_ev dac (by omega)
    rw [show valB 10000 acc = valB 10000 a - valB 10000 b by omega] at ht
    refine Ev.step (fun k => ?_) (Ev.bind (f := fun _ t => some (t, true)) ht (Ev.now _))
    simp only [r1Sub.l0]
    rw [if_neg (by omega)]
  | succ m ih =>
    intro i acc less hi hac dac hless inv
    have h1 := limb_lt da i
    have h2 := limb_lt db i
    have e1 : wrap64 (wrap64 (((limbN a i : Nat) : Int) - ((limbN b i : Nat) : Int)) - (less : Int)) = ((limbN a i : Nat) : Int) - ((limbN b i : Nat) : Int) - (less : Int) := by
      rw [w64 (x := ((limbN a i : Nat) : Int) - ((limbN b i : Nat) : Int)) (by omega) (by omega), w64 (by omega) (by omega)]
    have eb : sumB 10000 (limbN b) (i + 1) = sumB 10000 (limbN b) i + 10000 ^ i * limbN b i := rfl
    have ea : sumB 10000 (limbN a) (i + 1) = sumB 10000 (limbN a) i + 10000 ^ i * limbN a i := rfl
    have step : ∀ (d l2 : Nat), d < 10000 → l2 ≤ 1 → d + limbN b i + less = limbN a i + 10000 * l2 → Ev (fun k => r1Sub.l0 k a b (acc ++ [(d : Int)]) (l2 : Int) ((i + 1 : Nat) : Int)) (digB 10000 (valB 10000 a - valB 10000 b), true) := by
      intro d l2 hd hl2 he
      refine ih (i + 1) _ l2 (by omega) (by simp [hac]) (dac.append (DigB.cons (by omega) (by omega) (DigB.nil _))) hl2 ?_
      rw [valB_snoc, hac, Int.toNat_natCast, eb, ea, Nat.pow_succ, Nat.mul_assoc]
      have h3 := congrArg (10000 ^ i * ·) he
      simp only [Nat.mul_add] at h3
      omega
    by_cases c : limbN a i < limbN b i + less
    · have hs := step (limbN a i + 10000 - limbN b i - less) 1 (by omega) (by omega) (by omega)
      refine Ev.step (fun k => ?_) hs
      simp only [r1Sub.l0]
      rw [if_pos (by omega), if_pos (by omega), digit_f db, Option.bind_some, rd_limb da, e1, if_pos (by omega), if_pos (by omega), w64 (by omega) (by omega), w64 (by omega) (by omega),
        show ((limbN a i : Nat) : Int) - ((limbN b i : Nat) : Int) - (less : Int) + 10000 = ((limbN a i + 10000 - limbN b i - less : Nat) : Int) by omega]
      rfl
    · have hs := step (limbN a i - limbN b i - less) 0 (by omega) (by omega) (by omega)
      refine Ev.step (fun k => ?_) hs
      simp only [r1Sub.l0]
      rw [if_pos (by omega), if_pos (by omega), digit_f db, Option.bind_some, rd_limb da, e1, if_neg (by omega), if_pos (by omega), w64 (by omega) (by omega),
        show ((limbN a i : Nat) : Int) - ((limbN b i : Nat) : Int) - (less : Int) = ((limbN a i - limbN b i - less : Nat) : Int) by omega]
      rfl
theorem sub_ev {x y : Nat} (hx : (digB 10000 x).length ≤ 1000000) (h : y ≤ x) : Ev (fun k => r1Sub.f k (digB 10000 x) (digB 10000 y)) (digB 10000 (x - y), true) := by
  have hs := sub_loop (T_good x).dig (T_good y).dig (T_len_le h) hx (by rw [T_val, T_val]; exact h) (digB 10000 x).length 0 [] 0 (by omega) rfl (DigB.nil _) (by omega) rfl
  rw [T_val, T_val] at hs
  refine Ev.congr (fun k => rfl) (Ev.bind (f := fun k t => if t < 0 then some (([] : List Int), false) else r1Sub.l0 k (digB 10000 x) (digB 10000 y) [] 0 0) (cmp_ev x y (by omega)) ?_)
  refine Ev.congr (fun k => ?_) hs
  rw [if_neg (by unfold cmpN; rw [if_neg (by omega)]; split <;> omega)]; rfl
theorem digit2_loop {r y : Nat} (hy : (digB 10000 y).length ≤ 900000) : ∀ (m low high : Nat), high - low ≤ m → low < high → high ≤ 10000 → low * y ≤ r → r < high * y → Ev (fun k => r2d.l0 k (digB 10000 r) (digB 10000 y) (low : Int) (high : Int)) ((r / y : Nat) : Int) := by
  intro m
  induction m with
  | zero => intro low high h1 h2; omega
  | succ m ih =>
    intro low high h1 h2 h3 h4 h5
    by_cases c : high - low ≤ 1
    · have e : high = low + 1 := by omega
      subst e
      have hy0 : 0 < y := Nat.pos_of_ne_zero (fun h => by rw [h, Nat.mul_zero] at h5; omega)
      have hq : r / y = low := by
        rw [Nat.div_eq_iff hy0]
        rw [Nat.add_mul, Nat.one_mul] at h5
        omega
      rw [hq]
      refine Ev.step (f := fun _ => some ((low : Nat) : Int)) (fun k => ?_) (Ev.now _)
      simp only [r2d.l0]
      rw [w64 (by omega) (by omega), if_neg (by omega)]
    · have ht := times_ev (x := y) (d := (low + high) / 2) (by omega) (by omega)
      have hyb := valB_lt 10000 _ (T_good y).dig
      rw [T_val] at hyb
      have hl : (digB 10000 (y * ((low + high) / 2))).length ≤ (digB 10000 y).length + 1 := by
        refine digB_len (by decide) ?_
        rw [Nat.pow_succ]
        exact Nat.lt_of_lt_of_le (Nat.mul_lt_mul_of_pos_right hyb (by omega)) (Nat.mul_le_mul_left _ (by omega))
      have hc := cmp_ev (y * ((low + high) / 2)) r (by omega)
      have e1 : wrap64 (Int.tdiv (wrap64 ((low : Int) + (high : Int))) 2) = (((low + high) / 2 : Nat) : Int) := by
        rw [← Int.natCast_add, w64n (by omega), show (2 : Int) = ((2 : Nat) : Int) from rfl, tdiv_nat, w64n (by omega)]
      have fin : Ev (fun k => if cmpN (y * ((low + high) / 2)) r ≤ 0 then r2d.l0 k (digB 10000 r) (digB 10000 y) (((low + high) / 2 : Nat) : Int) (high : Int) else r2d.l0 k (digB 10000 r) (digB 10000 y) (low : Int) (((low + high) / 2 : Nat) : Int)) ((r / y : Nat) : Int) := by
        by_cases g : y * ((low + high) / 2) ≤ r
        · refine Ev.congr (fun k => ?_) (ih ((low + high) / 2) high (by omega) (by omega) h3 (by rw [Nat.mul_comm]; exact g) h5)
          rw [if_pos (by unfold cmpN; split; · omega
                         · rw [if_neg (by omega)]; omega)]
        · refine Ev.congr (fun k => ?_) (ih low ((low + high) / 2) (by omega) (by omega) (by omega) h4 (by rw [Nat.mul_comm]; omega))
          rw [if_neg (by unfold cmpN; rw [if_neg (by omega), if_pos (by omega)]; omega)]
      refine Ev.step (fun k => ?_) (Ev.bind (f := fun k t => (r1Cmp.f k t (digB 10000 r)).bind fun u => if u ≤ 0 then r2d.l0 k (digB 10000 r) (digB 10000 y) (((low + high) / 2 : Nat) : Int) (high : Int) else r2d.l0 k (digB 10000 r) (digB 10000 y) (low : Int) (((low + high) / 2 : Nat) : Int)) ht (Ev.bind (f := fun k u => if u ≤ 0 then r2d.l0 k (digB 10000 r) (digB 10000 y) (((low + high) / 2 : Nat) : Int) (high : Int) else r2d.l0 k (digB 10000 r) (digB 10000 y) (low : Int) (((low + high) / 2 : Nat) : Int)) hc fin))
      simp only [r2d.l0]
      rw [w64 (by omega) (by omega), if_pos (by omega), e1]
theorem digit2_ev {r y : Nat} (hy : (digB 10000 y).length ≤ 900000) (h : r < 10000 * y) : Ev (fun k => r2d.f k (digB 10000 r) (digB 10000 y)) ((r / y : Nat) : Int) :=
  digit2_loop hy 10000 0 10000 (by omega) (by omega) (by omega) (by omega) h
theorem trim2_loop (l : List Int) (hl : l.length ≤ 4611686018427387904) : ∀ i : Nat, i ≤ l.length → Ev (fun k => r2t.l0 k l (i : Int)) (trimL (l.take i))
  | 0, _ => by
    refine Ev.step (f := fun _ => some []) (fun k => ?_) (Ev.now _)
    simp only [r2t.l0]
    rw [if_neg (by omega), if_pos (by omega), if_pos (by omega)]; rfl
  | i + 1, hi => by
    have hw : wrap64 (((i + 1 : Nat) : Int) - 1) = (i : Int) := by rw [w64 (by omega) (by omega)]; omega
    rw [take_snoc (by omega)]
    by_cases h0 : rd l (i : Int) = 0
    · rw [h0, trimL_snoc_zero]
      refine Ev.step (fun k => ?_) (trim2_loop l hl i (by omega))
      simp only [r2t.l0]
      rw [hw, if_pos (by omega), if_pos (by omega), if_pos (by omega), if_pos h0]
    · rw [trimL_snoc _ _ h0]
      refine Ev.step (f := fun _ => some (l.take (i + 1))) (fun k => ?_) (by rw [take_snoc (by omega)]; exact Ev.now _)
      simp only [r2t.l0]
      rw [hw, if_pos (by omega), if_pos (by omega), if_pos (by omega), if_neg h0, if_pos (by omega), if_pos (by omega)]; rfl
theorem trim2_ev {l : List Int} (hd : DigB 10000 l) (hl : l.length ≤ 4611686018427387904) : Ev (fun k => r2t.f k l) (digB 10000 (valB 10000 l)) := by
  have h := trim2_loop l hl l.length (by omega)
  rw [List.take_length, trimL_eq (by decide) hd] at h
  exact h
theorem div_loop {x : List Int} (dx : DigB 10000 x) (h9 : x.length ≤ 800000) {y : Nat} (hy : (digB 10000 y).length ≤ 800000) (y0 : 0 < y) : ∀ (i : Nat) (out : List Int), i ≤ x.length → Quot 10000 y x out i →
    Ev (fun k => r2DM.l0 k x (digB 10000 y) out (digB 10000 (valB 10000 (x.drop i) % y)) ((i : Int) - 1)) (digB 10000 (valB 10000 x / y), digB 10000 (valB 10000 x % y))
  | 0, out, _, hq => by
    have ht := trim2_ev hq.dig (by rw [hq.len]; omega)
    rw [hq.done] at ht
    refine Ev.step (fun k => ?_) (Ev.bind (f := fun _ t => some (t, digB 10000 (valB 10000 x % y))) ht (Ev.now _))
    simp only [r2DM.l0]
    rw [if_neg (by omega), List.drop_zero]
  | j + 1, out, hj, hq => by
    have hlim := limb_lt dx j
    have hr := Nat.mod_lt (valB 10000 (x.drop (j + 1))) y0
    obtain ⟨q1, q2, q3⟩ := quot_step (B := 10000) (X := valB 10000 (x.drop (j + 1))) y0 hlim
    have hnext := hq.next (by decide) y0 dx (show j < x.length by omega) rfl
    have ih := div_loop dx h9 hy y0 j _ (by omega) hnext
    rw [Quot.rest (by decide) y0 dx (show j < x.length by omega)] at ih
    generalize valB 10000 (x.drop (j + 1)) % y = r at hr q1 q2 q3 ih ⊢
    have hyb := valB_lt 10000 _ (T_good y).dig
    rw [T_val] at hyb
    have hR : r * 10000 + limbN x j < 10000 * y := by omega
    have hRl : (digB 10000 (r * 10000 + limbN x j)).length ≤ (digB 10000 y).length + 1 := by
      refine digB_len (by decide) ?_
      rw [Nat.pow_succ]
      exact Nat.lt_of_lt_of_le hR (by rw [Nat.mul_comm]; exact Nat.mul_le_mul_right _ (by omega))
    have hrl := T_len_le (Nat.le_of_lt hr)
    have dcat : DigB 10000 ([((limbN x j : Nat) : Int)] ++ digB 10000 r) := DigB.cons (by omega) (by omega) (T_good r).dig
    have ecat : valB 10000 ([((limbN x j : Nat) : Int)] ++ digB 10000 r) = r * 10000 + limbN x j := by
      rw [List.singleton_append, valB_cons, T_val, Int.toNat_natCast]; omega
    have t1 := trim2_ev dcat (by simp; omega)
    rw [ecat] at t1
    have t2 := digit2_ev (by omega) hR
    generalize hRr : r * 10000 + limbN x j = R at t1 t2 ih hR hRl q1 q2 q3
    have hRy : R / y < 10000 := q3
    have t3 := times_ev (x := y) (d := R / y) (by omega) (by omega)
    have hmul : y * (R / y) ≤ R := Nat.mul_div_le R y
    have t4 := sub_ev (x := R) (y := y * (R / y)) (by omega) hmul
    rw [show R - y * (R / y) = R % y by have := Nat.mod_add_div R y; omega] at t4
    have p1 : ∀ k, r2DM.l0 (k + 1) x (digB 10000 y) out (digB 10000 r) (((j + 1 : Nat) : Int) - 1) = (r2t.f k ([((limbN x j : Nat) : Int)] ++ digB 10000 r)).bind fun t199 => (r2d.f k t199 (digB 10000 y)).bind fun t202 => (r1Times.f k (digB 10000 y) t202).bind fun t204 => (r1Sub.f k t199 t204).bind fun bt207 => r2DM.l0 k x (digB 10000 y) (out.set j t202) bt207.1 ((j : Int) - 1) := by
      intro k
      have c0 : (0 : Int) ≤ (j : Int) := by omega
      have c1 : (j : Int) < (x.length : Int) := by omega
      have c2 : (j : Int) < (out.length : Int) := by rw [hq.len]; omega
      have c3 : wrap64 ((j : Int) - 1) = (j : Int) - 1 := w64 (by omega) (by omega)
      have c4 : ((j + 1 : Nat) : Int) - 1 = (j : Int) := by omega
      have c5 : ([((limbN x j : Nat) : Int)] : List Int).length + (digB 10000 r).length < 17592186044416 := by simp; omega
      simp only [r2DM.l0, c4, ge_iff_le, if_pos c0, if_pos c1, rd_limb dx, Option.bind_some, if_pos c5, if_pos c2, c3, Int.toNat_natCast]
    refine Ev.step p1 (Ev.bind t1 (Ev.bind t2 (Ev.bind t3 (Ev.bind t4 ?_))))
    exact ih
theorem divmod_ev {x y : Nat} (hx : (digB 10000 x).length ≤ 800000) (hy : (digB 10000 y).length ≤ 800000) (y0 : 0 < y) : Ev (fun k => r2DM.f k (digB 10000 x) (digB 10000 y)) (digB 10000 (x / y), digB 10000 (x % y)) := by
  have h := div_loop (T_good x).dig hx hy y0 (digB 10000 x).length _ (by omega) (Quot.start (by decide) _)
  rw [T_val, List.drop_length, show valB 10000 [] % y = 0 by rw [valB_nil]; exact Nat.zero_mod y, digB_zero _ (by decide)] at h
  refine Ev.congr (fun k => ?_) h
  unfold r2DM.f
  rw [if_pos (by omega), if_pos (by omega), Int.toNat_natCast, w64 (by omega) (by omega)]
theorem gcd_loop : ∀ (m x y : Nat), y < m → (digB 10000 x).length ≤ 800000 → (digB 10000 y).length ≤ 800000 → Ev (fun k => fluxionref02_Gcd.l0 k (digB 10000 x) (digB 10000 y)) (digB 10000 (Nat.gcd x y)) := by
  intro m
  induction m with
  | zero => intro x y h; omega
  | succ m ih =>
    intro x y h hx hy
    by_cases h0 : y = 0
    · subst h0
      rw [digB_zero _ (by decide), Nat.gcd_zero_right]
      refine Ev.step (f := fun _ => some (digB 10000 x)) (fun k => ?_) (Ev.now _)
      simp only [fluxionref02_Gcd.l0]; rw [if_neg (by simp)]
    · have hlt := Nat.mod_lt x (show 0 < y by omega)
      have hne : 0 < (digB 10000 y).length := Nat.pos_of_ne_zero (fun e => h0 ((digB_nil y).1 (List.eq_nil_of_length_eq_zero e)))
      have hi := ih y (x % y) (by omega) hy (Nat.le_trans (T_len_le (Nat.le_of_lt hlt)) hy)
      rw [← gcd_rests x y (by omega)] at hi
      refine Ev.step (fun k => ?_) (Ev.bind (f := fun k bt => fluxionref02_Gcd.l0 k (digB 10000 y) bt.2) (divmod_ev hx hy (by omega)) hi)
      simp only [fluxionref02_Gcd.l0]; rw [if_pos (by omega)]
theorem gcd_ev {x y : Nat} (hx : (digB 10000 x).length ≤ 800000) (hy : (digB 10000 y).length ≤ 800000) : Ev (fun k => fluxionref02_Gcd.f k (digB 10000 x) (digB 10000 y)) (digB 10000 (Nat.gcd x y)) :=
  gcd_loop (y + 1) x y (by omega) hx hy
def ratN (n : Bool) (x y : Nat) : Bool × Nat × Nat := if x = 0 ∨ y = 0 then (false, 0, 1) else (n, x / Nat.gcd x y, y / Nat.gcd x y)
def ratL (B : Nat) (r : Bool × Nat × Nat) : Bool × List Int × List Int := (r.1, digB B r.2.1, digB B r.2.2)
theorem make_ev {n : Bool} {x y : Nat} (hx : (digB 10000 x).length ≤ 800000) (hy : (digB 10000 y).length ≤ 800000) : Ev (fun k => r3M.f k n (digB 10000 x) (digB 10000 y)) (ratL 10000 (ratN n x y)) := by
  have zero : x = 0 ∨ y = 0 → Ev (fun k => r3M.j0 k n (digB 10000 x) (digB 10000 y) true) (ratL 10000 (ratN n x y)) := by
    intro h
    refine Ev.step (f := fun _ => some (false, ([] : List Int), ([1] : List Int))) (fun k => ?_) ?_
    · simp only [r3M.j0]; rfl
    · unfold ratN ratL
      rw [if_pos h]
      show Ev _ (false, digB 10000 0, digB 10000 1)
      rw [digB_zero _ (by decide), digB_small (by decide) (by decide) (by decide)]; exact Ev.now _
  have len0 : ∀ v : Nat, ((digB 10000 v).length : Int) = 0 ↔ v = 0 := fun v => by
    rw [← digB_nil v]
    constructor
    · intro h; exact List.eq_nil_of_length_eq_zero (by omega)
    · intro h; rw [h]; rfl
  by_cases hx0 : x = 0
  · refine Ev.congr (fun k => ?_) (zero (Or.inl hx0))
    unfold r3M.f; rw [if_pos ((len0 x).2 hx0)]
  · by_cases hy0 : y = 0
    · refine Ev.congr (fun k => ?_) (zero (Or.inr hy0))
      unfold r3M.f; rw [if_neg (fun h => hx0 ((len0 x).1 h)), show (((digB 10000 y).length : Int) == 0) = true from beq_iff_eq.2 ((len0 y).2 hy0)]
    · have hg : 0 < Nat.gcd x y := Nat.gcd_pos_of_pos_left _ (by omega)
      have hgl : (digB 10000 (Nat.gcd x y)).length ≤ 800000 := Nat.le_trans (T_len_le (Nat.gcd_le_left _ (by omega))) hx
      have e : ratN n x y = (n, x / Nat.gcd x y, y / Nat.gcd x y) := by unfold ratN; rw [if_neg (by omega)]
      rw [e]
      have d1 := divmod_ev hx hgl hg
      have d2 := divmod_ev hy hgl hg
      refine Ev.congr (f := fun k => r3M.j0 k n (digB 10000 x) (digB 10000 y) false) (fun k => ?_) (Ev.step (f := fun k => (fluxionref02_Gcd.f k (digB 10000 x) (digB 10000 y)).bind fun t221 => (r2DM.f k (digB 10000 x) t221).bind fun bt224 => (r2DM.f k (digB 10000 y) t221).bind fun bt230 => some (n, bt224.1, bt230.1)) (fun k => ?_) (Ev.bind (gcd_ev hx hy) (Ev.bind d1 (Ev.bind d2 (Ev.now _)))))
      · unfold r3M.f; rw [if_neg (fun h => hx0 ((len0 x).1 h)), show (((digB 10000 y).length : Int) == 0) = false by rw [beq_eq_false_iff_ne]; exact fun h => hy0 ((len0 y).1 h)]
      · simp only [r3M.j0]; rw [if_neg (by decide)]
end Go.Proofs.YtibaoacjjcgjlaaGreatDoor.Ref

namespace Go.Proofs.YtibaoacjjcgjlaaGreatDoor.Print
open Go.RowKit Go.Proofs.YtibaoacjjcgjlaaGreatDoorW.PrintWords Go.Proofs.YtibaoacjjcgjlaaGreatDoorW.PrintLast Go.Proofs.YtibaoacjjcgjlaaGreatDoorW.PrintMore
attribute [local go_sem] max2_int min2_int max_two min_two max_three min_three max_four min_four   -- for this text's walks alone
set_option linter.unusedVariables false
set_option linter.unusedSimpArgs false
end Go.Proofs.YtibaoacjjcgjlaaGreatDoor.Print

namespace Go.Proofs.YtibaoacjjcgjlaaGreatDoor.Ref
open Go.RowKit Go.Proofs.YtibaoacjjcgjlaaGreatDoorW.PrintWords Go.Proofs.YtibaoacjjcgjlaaGreatDoorW.PrintLast Go.Proofs.YtibaoacjjcgjlaaGreatDoor.Print Go.Proofs.YtibaoacjjcgjlaaGreatDoor.Base
set_option linter.unusedVariables false
set_option linter.unusedSimpArgs false
def sgn (n : Bool) : List UInt8 := if n = true then [45] else []
def tailR (q : Nat) : List UInt8 := if q = 1 then [] else 47 :: Lib.decDigits q
def txt (r : Bool × Nat × Nat) : List UInt8 := sgn r.1 ++ (Lib.decDigits r.2.1 ++ tailR r.2.2)
theorem dec_one (q : Nat) : Lib.decDigits q = [49] ↔ q = 1 :=
  ⟨fun h => dec_inj (h.trans (show [49] = Lib.decDigits 1 by rw [dec_small (by decide)]; rfl)), fun h => by rw [h, dec_small (by decide)]; rfl⟩
theorem ratN_lt {n : Bool} {x y m : Nat} (hx : x < 4294967296 ^ m) (hy : y < 4294967296 ^ m) (hm : 1 ≤ m) : (ratN n x y).2.1 < 4294967296 ^ m ∧ (ratN n x y).2.2 < 4294967296 ^ m := by
  have h1 : (1 : Nat) < 4294967296 ^ m := Nat.lt_of_lt_of_le (show 1 < 4294967296 ^ 1 by decide) (Nat.pow_le_pow_right (by decide) hm)
  unfold ratN
  split
  · exact ⟨Nat.lt_trans Nat.zero_lt_one h1, h1⟩
  · exact ⟨Nat.lt_of_le_of_lt (Nat.div_le_self _ _) hx, Nat.lt_of_le_of_lt (Nat.div_le_self _ _) hy⟩
theorem ratN_idem (n : Bool) (x y : Nat) : ratN (ratN n x y).1 (ratN n x y).2.1 (ratN n x y).2.2 = ratN n x y := by
  unfold ratN
  by_cases h : x = 0 ∨ y = 0
  · rw [if_pos h]; rfl
  · rw [if_neg h]
    have hg : 0 < Nat.gcd x y := Nat.gcd_pos_of_pos_left _ (by omega)
    have h1 : 0 < x / Nat.gcd x y := Nat.div_pos (Nat.gcd_le_left _ (by omega)) hg
    have h2 : 0 < y / Nat.gcd x y := Nat.div_pos (Nat.gcd_le_right _ (by omega)) hg
    have h3 : Nat.gcd (x / Nat.gcd x y) (y / Nat.gcd x y) = 1 := Nat.gcd_div_gcd_div_gcd_of_pos_left (by omega)
    simp only []
    rw [if_neg (by omega), h3, Nat.div_one, Nat.div_one]
theorem of1_f : nat_Of.f 1 = some (digB 4294967296 1) := by decide +kernel
theorem norm_f {n : Bool} {a b : List Int} (ha : okN a = true) (hb : okN b = true) (la : a.length ≤ 1048000) (lb : b.length ≤ 1048000) : rat_Norm.f n a b = some (ratL 4294967296 (ratN n (valB 4294967296 a) (valB 4294967296 b))) := by
  have h1 : digB 4294967296 1 = [1] := digB_small (by decide) (by decide) (by decide)
  have h0 : digB 4294967296 0 = [] := digB_zero _ (by decide)
  unfold rat_Norm.f rat_Make.f ratN ratL
  rw [if_pos ⟨ha, hb, la, lb⟩]
  by_cases y0 : valB 4294967296 b = 0
  · rw [if_pos y0, if_pos (Or.inr y0), Option.bind_some, if_neg (by decide)]
    unfold rat_one.f
    rw [of1_f, h0, h1]; rfl
  · rw [if_neg y0]
    by_cases x0 : valB 4294967296 a = 0
    · rw [if_pos x0, if_pos (Or.inl x0), h0, h1]; rfl
    · rw [if_neg x0, if_neg (by omega)]; rfl
theorem ratD_ev {s : Bool} {p q m : Nat} (hp : p < 4294967296 ^ m) (hq : q < 4294967296 ^ m) (hm : m ≤ 100000) : Ev (fun k => r4R.f k s (digB 10000 p) (digB 10000 q)) (bA (txt (s, p, q))) := by
  have l1 := dec_len hp
  have l2 := dec_len hq
  have n1 := nat_ev (x := p) (by have := T_len hp; omega)
  have n2 := nat_ev (x := q) (by have := T_len hq; omega)
  have tl : ∀ t : List UInt8, t.length ≤ 20000000 → Ev (fun k => r4R.j0 k (bA t) s (digB 10000 p) (digB 10000 q)) (bA (t ++ tailR q)) := by
    intro t ht
    refine Ev.step (fun k => rfl) (Ev.bind n2 ?_)
    refine Ev.congr (f := fun _ => some (bA (t ++ tailR q))) (fun k => ?_) (Ev.now _)
    rw [decB_list]
    unfold tailR
    by_cases h1 : q = 1
    · rw [if_pos ((dec_one q).2 h1), if_pos h1, List.append_nil]
    · rw [if_neg (fun h => h1 ((dec_one q).1 h)), if_neg h1, show (⟨#[47]⟩ : ByteArray) = bA [47] from rfl, bA_dec, bA_append, bA_append, bA_size, bA_size, bA_size]
      rw [if_pos (by omega), if_pos (by simp; omega)]
      rw [List.append_assoc]; rfl
  refine Ev.congr (fun k => rfl) (Ev.bind n1 (f := fun (k : Nat) (t274 : ByteArray) => (if s = true then (if 1 + t274.size ≤ 9223372036854775807 then (r4R.j0 k ((⟨#[45]⟩ : ByteArray) ++ t274) s (digB 10000 p) (digB 10000 q)) else (none)) else (r4R.j0 k t274 s (digB 10000 p) (digB 10000 q)))) ?_)
  cases s with
  | true =>
    have := tl (sgn true ++ Lib.decDigits p) (by simp [sgn]; omega)
    rw [List.append_assoc] at this
    refine Ev.congr (fun k => ?_) this
    rw [if_pos rfl, bA_dec, bA_size, if_pos (by omega), show (⟨#[45]⟩ : ByteArray) = bA [45] from rfl, bA_append]; rfl
  | false =>
    refine Ev.congr (fun k => ?_) (tl (Lib.decDigits p) (by omega))
    rw [if_neg (by decide)]; rfl
def splitS : List UInt8 → List UInt8 × List UInt8 × Bool
  | [] => ([], [], false)
  | c :: r => if c = 47 then ([], r, true) else (c :: (splitS r).1, (splitS r).2.1, (splitS r).2.2)
theorem splitS_join : ∀ l : List UInt8, l = (splitS l).1 ++ (if (splitS l).2.2 = true then 47 :: (splitS l).2.1 else [])
  | [] => rfl
  | c :: r => by
    have ih := splitS_join r
    unfold splitS
    by_cases h : c = 47
    · rw [if_pos h, h]; rfl
    · rw [if_neg h]
      show c :: r = c :: ((splitS r).1 ++ _)
      rw [← ih]
theorem splitS_none : ∀ l : List UInt8, (splitS l).2.2 = false → (splitS l).1 = l ∧ (splitS l).2.1 = []
  | [], _ => ⟨rfl, rfl⟩
  | c :: r, h => by
    unfold splitS at h ⊢
    by_cases hc : c = 47
    · rw [if_pos hc] at h; cases h
    · rw [if_neg hc] at h ⊢
      obtain ⟨h1, h2⟩ := splitS_none r h
      exact ⟨congrArg (c :: ·) h1, h2⟩
theorem splitS_two : ∀ (a b : List UInt8), (∀ c ∈ a, c ≠ 47) → splitS (a ++ 47 :: b) = (a, b, true)
  | [], b, _ => by unfold splitS; rw [List.nil_append]; simp
  | c :: r, b, h => by
    have ih := splitS_two r b (fun x hx => h x (List.mem_cons_of_mem _ hx))
    rw [List.cons_append]
    unfold splitS
    rw [if_neg (h c (List.mem_cons_self ..)), ih]
theorem splitS_one : ∀ (a : List UInt8), (∀ c ∈ a, c ≠ 47) → splitS a = (a, [], false)
  | [], _ => rfl
  | c :: r, h => by
    have ih := splitS_one r (fun x hx => h x (List.mem_cons_of_mem _ hx))
    unfold splitS
    rw [if_neg (h c (List.mem_cons_self ..)), ih]
def negS (l : List UInt8) : Bool := l.head? == some 45
def restS (l : List UInt8) : List UInt8 := if negS l = true then l.drop 1 else l
theorem strip_join (l : List UInt8) : l = sgn (negS l) ++ restS l := by
  unfold restS sgn
  by_cases h : negS l = true
  · rw [if_pos h, if_pos h]
    unfold negS at h
    cases l with
    | nil => simp at h
    | cons c r =>
      have : c = 45 := by simpa using h
      rw [this]; rfl
  · rw [if_neg h, if_neg h]; rfl
theorem strip_of (n : Bool) (t : List UInt8) (h : t.head? ≠ some 45) : negS (sgn n ++ t) = n ∧ restS (sgn n ++ t) = t := by
  unfold restS negS sgn
  cases n with
  | true => exact ⟨rfl, rfl⟩
  | false =>
    have e : (t.head? == some 45) = false := by rw [beq_eq_false_iff_ne]; exact h
    rw [if_neg (by decide), List.nil_append, e]
    exact ⟨rfl, rfl⟩
theorem dec_not {v : Nat} : (∀ c ∈ Lib.decDigits v, c ≠ 47) ∧ (∀ t, (Lib.decDigits v ++ t).head? ≠ some 45) := by
  have hd := dec_dig v
  have h47 : (47 : UInt8).toNat = 47 := rfl
  have h45 : (45 : UInt8).toNat = 45 := rfl
  refine ⟨fun c hc e => ?_, fun t => ?_⟩
  · have := hd c hc
    rw [e] at this; omega
  · cases hv : Lib.decDigits v with
    | nil => exact absurd hv (dec_ne v)
    | cons c r =>
      intro e
      have e2 : c = 45 := by simpa using e
      have := hd c (by rw [hv]; exact List.mem_cons_self ..)
      rw [e2] at this; omega
theorem txt_parts (n : Bool) (p q : Nat) : negS (txt (n, p, q)) = n ∧ splitS (restS (txt (n, p, q))) = (Lib.decDigits p, if q = 1 then [] else Lib.decDigits q, decide (q ≠ 1)) := by
  obtain ⟨h1, h2⟩ := strip_of n (Lib.decDigits p ++ tailR q) (dec_not.2 _)
  refine ⟨h1, ?_⟩
  show splitS (restS (sgn n ++ (Lib.decDigits p ++ tailR q))) = _
  rw [h2]
  unfold tailR
  by_cases h : q = 1
  · rw [if_pos h, if_pos h, List.append_nil, splitS_one _ dec_not.1, decide_eq_false (by simpa using h)]
  · rw [if_neg h, if_neg h, splitS_two _ _ dec_not.1, decide_eq_true h]
def resR (l : List UInt8) : Int × (Bool × Nat × Nat) :=
  let a := (splitS (restS l)).1
  let b := if (splitS (restS l)).2.2 = true then (splitS (restS l)).2.1 else [49]
  if natB a = true ∧ natB b = true then
    (if (progNat a).2 = 0 ∧ (progNat b).2 = 0 then (if txt (ratN (negS l) (numD a) (numD b)) = l then (0, ratN (negS l) (numD a) (numD b)) else (6, (false, 0, 1))) else (14, (false, 0, 1)))
  else (19, (false, 0, 1))
theorem may_txt {l a b : List UInt8} {two : Bool} (hs : splitS (restS l) = (a, b, two)) (ha : natB a = true) (hb : natB (if two = true then b else [49]) = true) :
    txt (ratN (negS l) (numD a) (numD (if two = true then b else [49]))) = l ↔ (ratN (negS l) (numD a) (numD (if two = true then b else [49])) = (negS l, numD a, numD (if two = true then b else [49])) ∧ ¬ (two = true ∧ b = [49])) := by
  have n1 : numD [49] = 1 := rfl
  constructor
  · intro h
    generalize hr : ratN (negS l) (numD a) (numD (if two = true then b else [49])) = r at h ⊢
    obtain ⟨n, p, q⟩ := r
    obtain ⟨t1, t2⟩ := txt_parts n p q
    rw [h] at t1 t2
    rw [hs] at t2
    simp only [Prod.mk.injEq] at t2
    obtain ⟨c1, c2, c3⟩ := t2
    rw [t1, c1, num_dec]
    by_cases hq : q = 1
    · rw [decide_eq_false (by simpa using hq)] at c3
      rw [c3, if_neg (by decide), n1, hq]
      exact ⟨rfl, fun e => by cases e.1⟩
    · rw [decide_eq_true hq] at c3
      rw [if_neg hq] at c2
      rw [c3, if_pos rfl, c2, num_dec]
      exact ⟨rfl, fun e => hq ((dec_one q).1 e.2)⟩
  · rintro ⟨h1, h2⟩
    rw [h1]
    have e1 := splitS_join (restS l)
    rw [hs] at e1
    have e2 := strip_join l
    conv => rhs; rw [e2, e1]
    show sgn (negS l) ++ (Lib.decDigits (numD a) ++ tailR _) = _
    rw [dec_numL (natB_iff.1 ha)]
    congr 2
    unfold tailR
    cases two with
    | true =>
      rw [if_pos rfl] at hb ⊢
      rw [if_pos rfl]
      have hne : numD b ≠ 1 := fun e => h2 ⟨rfl, by rw [← dec_numL (natB_iff.1 hb), e, dec_small (by decide)]; rfl⟩
      rw [if_neg hne, dec_numL (natB_iff.1 hb)]
    | false =>
      show (if numD [49] = 1 then [] else 47 :: Lib.decDigits (numD [49])) = []
      rw [if_pos n1]
theorem prog_ok {l : List UInt8} (h : natB l = true) : (progNat l).2 = 0 ∧ l.length ≤ 309 ∧ numD l < 4294967296 ^ 32 ∧ progNat l = (digB 4294967296 (numD l), 0) ∧ refNat l = (digB 10000 (numD l), 0) ∨ (progNat l).2 = 14 ∧ (refNat l).2 = 14 ∧ progNat l = ([], 14) := by
  rcases read_same l with ⟨e1, e2⟩ | ⟨e1, e2⟩ | ⟨hn, hl, hlt, e1, e2⟩
  · exfalso
    unfold progNat at e1
    rw [if_pos h] at e1
    split at e1
    · exact absurd (show (14 : Int) = 19 from congrArg Prod.snd e1) (by decide)
    · split at e1
      · exact absurd (show (0 : Int) = 19 from congrArg Prod.snd e1) (by decide)
      · exact absurd (show (14 : Int) = 19 from congrArg Prod.snd e1) (by decide)
  · exact Or.inr ⟨by rw [e1], by rw [e2], e1⟩
  · exact Or.inl ⟨by rw [e1], hl, hlt, e1, e2⟩
theorem prog_one : natB [49] = true ∧ progNat [49] = (digB 4294967296 1, 0) ∧ refNat [49] = (digB 10000 1, 0) := by
  have hn : natB [49] = true := rfl
  refine ⟨hn, ?_⟩
  have e : numD [49] = 1 := rfl
  unfold progNat refNat
  rw [if_pos hn, if_pos hn, e]
  have h1 : (1 : Nat) < 4294967296 ^ 32 := Nat.lt_of_lt_of_le (show 1 < 4294967296 ^ 1 by decide) (Nat.pow_le_pow_right (by decide) (by decide))
  rw [if_pos h1, if_pos h1]
  exact ⟨rfl, rfl⟩
end Go.Proofs.YtibaoacjjcgjlaaGreatDoor.Ref

namespace Go.Proofs.YtibaoacjjcgjlaaGreatDoor.Ref
open Go.RowKit Go.Proofs.YtibaoacjjcgjlaaGreatDoorW.PrintWords Go.Proofs.YtibaoacjjcgjlaaGreatDoorW.PrintLast Go.Proofs.YtibaoacjjcgjlaaGreatDoor.Print Go.Proofs.YtibaoacjjcgjlaaGreatDoor.Base
set_option linter.unusedVariables false
set_option linter.unusedSimpArgs false
def outR (B : Nat) (r : Int × Bool × Nat × Nat) : Bool × List Int × List Int × Int := if r.1 = 0 then (r.2.1, digB B r.2.2.1, digB B r.2.2.2, 0) else (false, [], [], r.1)
theorem split_index : ∀ r : List UInt8, splitS r = if 0 ≤ Lib.indexByte r 47 then (r.take (Lib.indexByte r 47).toNat, r.drop ((Lib.indexByte r 47).toNat + 1), true) else (r, [], false)
  | [] => rfl
  | c :: r => by
    have ih := split_index r
    have hge := Lib.indexByte_ge r 47
    have hi : Lib.indexByte (c :: r) 47 = if (c == 47) = true then 0 else if (Lib.indexByte r 47 == -1) = true then -1 else Lib.indexByte r 47 + 1 := rfl
    by_cases h : c = 47
    · have hv : Lib.indexByte (c :: r) 47 = 0 := by rw [hi, if_pos (by simpa using h)]
      rw [hv, if_pos (by decide)]
      unfold splitS
      rw [if_pos h]; rfl
    · have hs : splitS (c :: r) = (c :: (splitS r).1, (splitS r).2.1, (splitS r).2.2) := by
        conv => lhs; unfold splitS
        rw [if_neg h]
      by_cases h1 : Lib.indexByte r 47 = -1
      · have hv : Lib.indexByte (c :: r) 47 = -1 := by rw [hi, if_neg (by simpa using h), if_pos (by simpa using h1)]
        rw [hv, if_neg (by decide), hs, ih, if_neg (by omega)]
      · have hv : Lib.indexByte (c :: r) 47 = Lib.indexByte r 47 + 1 := by rw [hi, if_neg (by simpa using h), if_neg (by simpa using h1)]
        rw [hv, if_pos (by omega), hs, ih, if_pos (by omega)]
        obtain ⟨i, hi⟩ : ∃ i : Nat, Lib.indexByte r 47 = (i : Int) := ⟨(Lib.indexByte r 47).toNat, by omega⟩
        rw [hi, show ((i : Int) + 1).toNat = i + 1 by omega, Int.toNat_natCast]; rfl
theorem extract_bA (l : List UInt8) (i j : Nat) : (bA l).extract i j = bA ((l.drop i).take (j - i)) := by
  refine Go.WideShapes.bytes_inj ?_
  rw [extract_list, bA_list, bA_list]
theorem cutSL_bA (r : List UInt8) : cutSL (bA r) = (bA (splitS r).1, bA (splitS r).2.1, (splitS r).2.2) := by
  have hlt := indexByte_lt r 47
  have e : slAt (bA r) = Lib.indexByte r 47 := by unfold slAt; rw [bA_list]
  unfold cutSL
  rw [e, split_index r]
  by_cases h : 0 ≤ Lib.indexByte r 47
  · rw [if_pos h, if_pos h, extract_bA, extract_bA, bA_size]
    rw [List.drop_zero, Nat.sub_zero, List.take_of_length_le (l := r.drop _) (by rw [List.length_drop]; exact Nat.le_refl _)]
  · rw [if_neg h, if_neg h]; rfl
theorem prefix_bA (l : List UInt8) : strings_CutPrefix.f (bA l) ⟨#[45]⟩ = some (bA (restS l), negS l) := by
  unfold strings_CutPrefix.f Lib.trimPrefix restS negS
  rw [bA_list, show (⟨#[45]⟩ : ByteArray).data.toList = [45] from rfl]
  cases l with
  | nil => rfl
  | cons c r =>
    by_cases h : c = 45
    · subst h; rfl
    · have e1 : Lib.hasPrefix (c :: r) [45] = false := by unfold Lib.hasPrefix; simp [List.isPrefixOf, Ne.symm h]
      have e2 : ((c :: r).head? == some 45) = false := by simp [h]
      rw [e1, e2]; rfl
theorem restS_len (l : List UInt8) : (restS l).length ≤ l.length := by
  unfold restS; split
  · simp
  · exact Nat.le_refl _
theorem limbs_f {p x : Nat} (hp : p < 4294967296 ^ 32) (hx : x < 4294967296 ^ 32) : rat_limbs.f (digB 4294967296 p) (digB 4294967296 x) = some (decide (p = x)) := by
  have c := cmp_f (okD hp (by decide)) (okD hx (by decide))
  rw [valD, valD] at c
  unfold rat_limbs.f
  by_cases h : p = x
  · subst h
    rw [if_pos rfl, c, decide_eq_true rfl]; unfold cmpN; simp
  · rw [decide_eq_false h]
    split
    · rw [c, Option.bind_some]
      unfold cmpN
      by_cases h1 : p < x
      · rw [if_pos h1]; rfl
      · rw [if_neg h1, if_pos (by omega)]; rfl
    · rfl
theorem may_f {n : Bool} {x y : Nat} (hx : x < 4294967296 ^ 32) (hy : y < 4294967296 ^ 32) : rat_May.f n (digB 4294967296 x) (digB 4294967296 y) = some (if ratN n x y = (n, x, y) then 0 else 6) := by
  have ox := okD hx (by decide)
  have oy := okD hy (by decide)
  have hn := norm_f (n := n) ox oy (Nat.le_trans (digB_len (by decide) hx) (by decide)) (Nat.le_trans (digB_len (by decide) hy) (by decide))
  rw [valD, valD] at hn
  obtain ⟨hp, hq⟩ := ratN_lt (n := n) hx hy (by decide)
  generalize ratN n x y = r at hn hp hq ⊢
  obtain ⟨m, p, q⟩ := r
  have l1 := limbs_f (p := p) (x := x) hp hx
  have l2 := limbs_f (p := q) (x := y) hq hy
  unfold rat_May.f
  rw [hn, Option.bind_some]
  simp only [ratL, l1, l2, Option.bind_some, Prod.mk.injEq]
  cases m <;> cases n <;> by_cases hpx : p = x <;> by_cases hqy : q = y <;> simp [hpx, hqy]
theorem read_f {l : List UInt8} (h : natB l = true) : digits_read.f (bA l) = some (progNat l) := by
  unfold digits_read.f progNat
  rw [bA_list, bA_size, if_pos h, if_pos h]
  split
  · rfl
  · split <;> rfl
theorem natural_f (l : List UInt8) : digits_natural.f (bA l) = some (natB l) := by unfold digits_natural.f; rw [bA_list]
theorem progR_ev (l : List UInt8) (hl : l.length ≤ 140737488351232) : Ev (fun k => digits_ParseRat.f k (bA l)) (outR 4294967296 (resR l)) := by
  have hc : strings_Cut.f (bA (restS l)) ⟨#[47]⟩ = some (bA (splitS (restS l)).1, bA (splitS (restS l)).2.1, (splitS (restS l)).2.2) := by
    unfold strings_Cut.f
    rw [if_pos ⟨rfl, by rw [bA_size]; exact Nat.le_trans (restS_len l) hl⟩, cutSL_bA]
  unfold resR
  generalize hs : splitS (restS l) = t at hc ⊢
  obtain ⟨a, b, two⟩ := t
  simp only [] at hc ⊢
  have e0 : ∀ k, digits_ParseRat.f k (bA l) = if natB a = true then (if two = true then digits_ParseRat.j0 k (negS l) (bA a) (bA b) two (!natB b) else digits_ParseRat.j0 k (negS l) (bA a) (bA b) two false) else digits_ParseRat.j0 k (negS l) (bA a) (bA b) two true := by
    intro k
    unfold digits_ParseRat.f
    simp only [prefix_bA, hc, natural_f, Option.bind_some]
  have bad : Ev (fun k => digits_ParseRat.j0 k (negS l) (bA a) (bA b) two true) (outR 4294967296 (19, (false, 0, 1))) := by
    refine Ev.step (f := fun _ => some (outR 4294967296 (19, (false, 0, 1)))) (fun k => ?_) (Ev.now _)
    simp only [digits_ParseRat.j0]; rfl
  refine Ev.congr e0 ?_
  by_cases ha : natB a = true
  · have main : ∀ hb : natB (if two = true then b else [49]) = true, Ev (fun k => digits_ParseRat.j0 k (negS l) (bA a) (bA b) two false) (outR 4294967296 (if (progNat a).2 = 0 ∧ (progNat (if two = true then b else [49])).2 = 0 then (if txt (ratN (negS l) (numD a) (numD (if two = true then b else [49]))) = l then (0, ratN (negS l) (numD a) (numD (if two = true then b else [49]))) else (6, (false, 0, 1))) else (14, (false, 0, 1)))) := by
      intro hb
      have hm := may_txt hs ha hb
      refine Ev.step (f := fun _ => some (outR 4294967296 (if (progNat a).2 = 0 ∧ (progNat (if two = true then b else [49])).2 = 0 then (if txt (ratN (negS l) (numD a) (numD (if two = true then b else [49]))) = l then (0, ratN (negS l) (numD a) (numD (if two = true then b else [49]))) else (6, (false, 0, 1))) else (14, (false, 0, 1))))) (fun k => ?_) (Ev.now _)
      simp only [digits_ParseRat.j0]
      rw [if_neg (by decide), of1_f, Option.bind_some, read_f ha, Option.bind_some]
      rcases prog_ok ha with ⟨a0, a1, a2, a3, _⟩ | ⟨a0, _, a3⟩
      · rw [if_pos a0]
        cases two with
        | true =>
          rw [if_pos rfl] at hb hm ⊢
          simp only [if_true, true_and] at hm ⊢
          rw [read_f hb, Option.bind_some]
          rcases prog_ok hb with ⟨b0, b1, b2, b3, _⟩ | ⟨b0, _, b3⟩
          · rw [if_pos b0, if_pos (And.intro a0 b0), a3, b3]
            simp only []
            rw [may_f a2 b2, Option.bind_some]
            by_cases hr : ratN (negS l) (numD a) (numD b) = (negS l, numD a, numD b)
            · rw [if_pos hr, if_pos rfl, bA_toList]
              by_cases h1 : b = [49]
              · rw [if_pos h1, if_neg (fun c => (hm.1 c).2 h1)]; rfl
              · rw [if_neg h1, if_pos (hm.2 ⟨hr, h1⟩), hr]; rfl
            · rw [if_neg hr, if_neg (by decide), if_neg (fun c => hr (hm.1 c).1)]; rfl
          · rw [if_neg (by rw [b0]; decide), if_neg (by rw [b0]; exact fun c => absurd c.2 (by decide)), b0]; rfl
        | false =>
          obtain ⟨o1, o2, o3⟩ := prog_one
          simp only [Bool.false_eq_true, if_false, false_and, not_false_eq_true, and_true] at hm ⊢
          rw [if_pos (And.intro a0 (show (progNat [49]).2 = 0 by rw [o2])), a3]
          have n1 : numD [49] = 1 := rfl
          rw [n1] at hm ⊢
          have h1 : (1 : Nat) < 4294967296 ^ 32 := Nat.lt_of_lt_of_le (show 1 < 4294967296 ^ 1 by decide) (Nat.pow_le_pow_right (by decide) (by decide))
          simp only []
          rw [may_f a2 h1, Option.bind_some]
          by_cases hr : ratN (negS l) (numD a) 1 = (negS l, numD a, 1)
          · rw [if_pos hr, if_pos rfl, if_pos (hm.2 hr), hr]; rfl
          · rw [if_neg hr, if_neg (by decide), if_neg (fun c => hr (hm.1 c))]; rfl
      · rw [if_neg (by rw [a0]; decide), if_neg (by rw [a0]; exact fun c => absurd c.1 (by decide)), a0]; rfl
    cases two with
    | true =>
      simp only [if_true] at main ⊢
      by_cases hb : natB b = true
      · have := main hb
        rw [if_pos (And.intro ha hb)]
        refine Ev.congr (fun k => ?_) this
        rw [if_pos ha, hb]; rfl
      · rw [if_neg (fun c => hb c.2)]
        refine Ev.congr (fun k => ?_) bad
        rw [if_pos ha, show natB b = false by simpa using hb]; rfl
    | false =>
      simp only [Bool.false_eq_true, if_false] at main ⊢
      have := main prog_one.1
      rw [if_pos (And.intro ha prog_one.1)]
      refine Ev.congr (fun k => ?_) this
      rw [if_pos ha]
  · rw [if_neg (fun c => ha c.1)]
    refine Ev.congr (fun k => ?_) bad
    rw [if_neg ha]
theorem cut_loop (s : List UInt8) (h9 : s.length ≤ 4611686018427387904) : ∀ (m i : Nat), i + m = s.length → Ev (fun k => fluxionref04_cut.l0 k (bA s) (i : Int)) (if (splitS (s.drop i)).2.2 = true then bA (s.take i ++ (splitS (s.drop i)).1) else bA s, bA (splitS (s.drop i)).2.1, (splitS (s.drop i)).2.2) := by
  intro m
  induction m with
  | zero =>
    intro i hi
    rw [List.drop_eq_nil_of_le (by omega)]
    refine Ev.step (f := fun _ => some (bA s, bA [], false)) (fun k => ?_) (Ev.now _)
    simp only [fluxionref04_cut.l0]
    rw [if_neg (by rw [bA_size]; omega)]; rfl
  | succ m ih =>
    intro i hi
    have hi2 : i < s.length := by omega
    have hb := bt_bA s i hi2
    rw [List.drop_eq_getElem_cons hi2]
    generalize hc : s[i] = c at hb ⊢
    have h47 : (47 : UInt8).toNat = 47 := rfl
    by_cases h : c = 47
    · subst h
      have e : splitS (47 :: s.drop (i + 1)) = ([], s.drop (i + 1), true) := by unfold splitS; rw [if_pos rfl]
      rw [e]
      refine Ev.step (f := fun _ => some (bA (s.take i), bA (s.drop (i + 1)), true)) (fun k => ?_) (by rw [if_pos rfl, List.append_nil]; exact Ev.now _)
      simp only [fluxionref04_cut.l0]
      rw [if_pos (by rw [bA_size]; omega), if_pos (by omega), if_pos (by rw [hb]; omega), if_pos (by rw [bA_size]; omega), w64 (by omega) (by omega), if_pos (by omega), if_pos (by rw [bA_size]; omega),
        extract_bA, extract_bA, Int.toNat_natCast, bA_size, show ((i : Int) + 1).toNat = i + 1 by omega, List.drop_zero, Nat.sub_zero, List.take_of_length_le (l := s.drop _) (by rw [List.length_drop]; exact Nat.le_refl _)]
    · have e : splitS (c :: s.drop (i + 1)) = (c :: (splitS (s.drop (i + 1))).1, (splitS (s.drop (i + 1))).2.1, (splitS (s.drop (i + 1))).2.2) := by
        conv => lhs; unfold splitS
        rw [if_neg h]
      have hn := ih (i + 1) (by omega)
      rw [List.take_succ_eq_append_getElem hi2, hc, List.append_assoc, List.singleton_append] at hn
      rw [e]
      refine Ev.step (fun k => ?_) hn
      simp only [fluxionref04_cut.l0]
      rw [if_pos (by rw [bA_size]; omega), if_pos (by omega), if_neg (by rw [hb]; exact fun x => h (UInt8.toNat_inj.1 (by omega))), w64 (by omega) (by omega)]; rfl
theorem cut_ev (s : List UInt8) (h9 : s.length ≤ 4611686018427387904) : Ev (fun k => fluxionref04_cut.f k (bA s)) (bA (splitS s).1, bA (splitS s).2.1, (splitS s).2.2) := by
  have h := cut_loop s h9 s.length 0 (by omega)
  rw [List.drop_zero, List.take_zero, List.nil_append] at h
  by_cases h2 : (splitS s).2.2 = true
  · rw [if_pos h2] at h; exact h
  · rw [if_neg h2] at h
    have := (splitS_none s (by simpa using h2)).1
    rw [this]; exact h
theorem refR_ev (l : List UInt8) (hl : l.length ≤ 140737488351232) : Ev (fun k => r4PR.f k (bA l)) (outR 10000 (resR l)) := by
  have hrl := restS_len l
  unfold resR
  generalize hs : splitS (restS l) = t
  have hcut := cut_ev (restS l) (by omega)
  rw [hs] at hcut
  have hjoin := splitS_join (restS l)
  rw [hs] at hjoin
  obtain ⟨a, b, two⟩ := t
  simp only [] at hcut hjoin ⊢
  have hlen : a.length ≤ 140737488351232 ∧ b.length ≤ 140737488351232 := by
    have e := congrArg List.length hjoin
    rw [List.length_append] at e
    cases two with
    | true => rw [if_pos rfl, List.length_cons] at e; omega
    | false =>
      have := (splitS_none (restS l) (by rw [hs])).2
      rw [hs] at this
      simp only [] at this
      rw [this]; simp at e ⊢; omega
  have j4 : ∀ (x y : Nat), x < 4294967296 ^ 32 → y < 4294967296 ^ 32 → Ev (fun k => r4PR.j4 k (bA l) (negS l) (digB 10000 x) (digB 10000 y) false) (outR 10000 (if txt (ratN (negS l) x y) = l then (0, ratN (negS l) x y) else (6, (false, 0, 1)))) := by
    intro x y hx hy
    have l1 := T_len hx
    have l2 := T_len hy
    have hm := make_ev (n := negS l) (x := x) (y := y) (by omega) (by omega)
    obtain ⟨hp, hq⟩ := ratN_lt (n := negS l) hx hy (by decide)
    generalize ratN (negS l) x y = r at hm hp hq ⊢
    obtain ⟨n, p, q⟩ := r
    have ht := ratD_ev (s := n) (p := p) (q := q) hp hq (by decide)
    refine Ev.step (f := fun k => (r3M.f k (negS l) (digB 10000 x) (digB 10000 y)).bind fun bt290 => (r4R.f k bt290.1 bt290.2.1 bt290.2.2).bind fun t298 => if t298.toList = (bA l).toList then some (bt290.1, bt290.2.1, bt290.2.2, 0) else some (false, ([] : List Int), ([] : List Int), 6)) (fun k => ?_) (Ev.bind hm (Ev.bind ht ?_))
    · simp only [r4PR.j4]; rw [if_neg (by decide)]
    · rw [bA_toList, bA_toList]
      by_cases h : txt (n, p, q) = l
      · rw [if_pos h, if_pos h]; exact Ev.now _
      · rw [if_neg h, if_neg h]; exact Ev.now _
  have j4b : ∀ x y : List Int, Ev (fun k => r4PR.j4 k (bA l) (negS l) x y true) (outR 10000 (14, (false, 0, 1))) := by
    intro x y
    refine Ev.step (f := fun _ => some (outR 10000 (14, (false, 0, 1)))) (fun k => ?_) (Ev.now _)
    simp only [r4PR.j4]; rfl
  have j3b : ∀ x y : ByteArray, Ev (fun k => r4PR.j3 k (bA l) (negS l) x y true) (outR 10000 (19, (false, 0, 1))) := by
    intro x y
    refine Ev.step (f := fun _ => some (outR 10000 (19, (false, 0, 1)))) (fun k => ?_) (Ev.now _)
    simp only [r4PR.j3]; rfl
  have j2 : ∀ c : List UInt8, c.length ≤ 140737488351232 → Ev (fun k => r4PR.j2 k (bA l) (negS l) (bA a) (bA c)) (outR 10000 (if natB a = true ∧ natB c = true then
      (if (progNat a).2 = 0 ∧ (progNat c).2 = 0 then (if txt (ratN (negS l) (numD a) (numD c)) = l then (0, ratN (negS l) (numD a) (numD c)) else (6, (false, 0, 1))) else (14, (false, 0, 1))) else (19, (false, 0, 1)))) := by
    intro c hc
    have na := natural_ev (bA a) (by rw [bA_size]; omega)
    have nc := natural_ev (bA c) (by rw [bA_size]; omega)
    rw [bA_list] at na nc
    refine Ev.step (f := fun k => (r4nat.f k (bA a)).bind fun t280 => if t280 = true then ((r4nat.f k (bA c)).bind fun t281 => r4PR.j3 k (bA l) (negS l) (bA a) (bA c) (!t281)) else r4PR.j3 k (bA l) (negS l) (bA a) (bA c) true) (fun k => rfl) (Ev.bind na ?_)
    by_cases ha : natB a = true
    · refine Ev.congr (f := fun k => (r4nat.f k (bA c)).bind fun t281 => r4PR.j3 k (bA l) (negS l) (bA a) (bA c) (!t281)) (fun k => by rw [if_pos ha]) (Ev.bind nc ?_)
      by_cases hcn : natB c = true
      · rw [if_pos (And.intro ha hcn), hcn]
        have pa := parse_ev (bA a) (by rw [bA_size]; omega)
        have pc := parse_ev (bA c) (by rw [bA_size]; omega)
        rw [bA_list] at pa pc
        refine Ev.step (f := fun k => (r4PN.f k (bA a)).bind fun bt282 => (r4PN.f k (bA c)).bind fun bt286 => if bt282.2 = 0 then r4PR.j4 k (bA l) (negS l) bt282.1 bt286.1 (bt286.2 != 0) else r4PR.j4 k (bA l) (negS l) bt282.1 bt286.1 true) (fun k => ?_) (Ev.bind pa (Ev.bind pc ?_))
        · simp only [r4PR.j3]; rfl
        · rcases prog_ok ha with ⟨a0, a1, a2, a3, a4⟩ | ⟨a0, a4, a3⟩
          · rcases prog_ok hcn with ⟨b0, b1, b2, b3, b4⟩ | ⟨b0, b4, b3⟩
            · rw [if_pos (And.intro a0 b0), a4, b4]
              exact Ev.congr (fun k => by rw [if_pos rfl]; rfl) (j4 _ _ a2 b2)
            · rw [if_neg (by rw [b0]; exact fun x => absurd x.2 (by decide)), a4]
              refine Ev.congr (fun k => ?_) (j4b (digB 10000 (numD a)) (refNat c).1)
              rw [if_pos rfl, b4]; rfl
          · rw [if_neg (by rw [a0]; exact fun x => absurd x.1 (by decide))]
            refine Ev.congr (fun k => ?_) (j4b (refNat a).1 (refNat c).1)
            rw [if_neg (by rw [a4]; decide)]
      · rw [if_neg (fun x => hcn x.2), show natB c = false by simpa using hcn]
        exact j3b _ _
    · rw [if_neg (fun x => ha x.1)]
      exact Ev.congr (fun k => by rw [if_neg ha]) (j3b _ _)
  have j1 : Ev (fun k => r4PR.j1 k (bA l) (negS l) (bA (restS l))) (outR 10000 (if natB a = true ∧ natB (if two = true then b else [49]) = true then
      (if (progNat a).2 = 0 ∧ (progNat (if two = true then b else [49])).2 = 0 then (if txt (ratN (negS l) (numD a) (numD (if two = true then b else [49]))) = l then (0, ratN (negS l) (numD a) (numD (if two = true then b else [49]))) else (6, (false, 0, 1))) else (14, (false, 0, 1))) else (19, (false, 0, 1)))) := by
    refine Ev.step (f := fun k => (fluxionref04_cut.f k (bA (restS l))).bind fun bt277 => if bt277.2.2 = true then r4PR.j2 k (bA l) (negS l) bt277.1 bt277.2.1 else r4PR.j2 k (bA l) (negS l) bt277.1 ⟨#[49]⟩) (fun k => rfl) (Ev.bind hcut ?_)
    cases two with
    | true => exact Ev.congr (fun k => by rw [if_pos rfl]) (j2 b hlen.2)
    | false => exact Ev.congr (fun k => rfl) (j2 [49] (by decide))
  have j0 : Ev (fun k => r4PR.j0 k (bA l) (negS l)) (outR 10000 (if natB a = true ∧ natB (if two = true then b else [49]) = true then
      (if (progNat a).2 = 0 ∧ (progNat (if two = true then b else [49])).2 = 0 then (if txt (ratN (negS l) (numD a) (numD (if two = true then b else [49]))) = l then (0, ratN (negS l) (numD a) (numD (if two = true then b else [49]))) else (6, (false, 0, 1))) else (14, (false, 0, 1))) else (19, (false, 0, 1)))) := by
    refine Ev.step (fun k => ?_) j1
    simp only [r4PR.j0]
    unfold restS
    by_cases hn : negS l = true
    · have hne : 1 ≤ l.length := by
        unfold negS at hn
        cases l with
        | nil => simp at hn
        | cons c r => simp
      rw [if_pos hn, if_pos (by rw [bA_size]; omega), extract_bA, bA_size, if_pos hn, List.take_of_length_le (by rw [List.length_drop]; exact Nat.le_refl _)]
    · rw [if_neg hn, if_neg hn]
  refine Ev.congr (fun k => ?_) j0
  unfold r4PR.f
  rw [bA_size]
  unfold negS
  cases l with
  | nil => rw [if_neg (by simp)]; rfl
  | cons c r =>
    have hb := bt_bA (c :: r) 0 (by simp)
    have h45 : (45 : UInt8).toNat = 45 := rfl
    rw [if_pos (by simp), if_pos (by simp)]
    congr 1
    have hb0 : bt (bA (c :: r)) 0 = ((c.toNat : Nat) : Int) := hb
    rw [hb0, Bool.eq_iff_iff, beq_iff_eq, beq_iff_eq]
    constructor
    · intro h; rw [show c = 45 from UInt8.toNat_inj.1 (by omega)]; rfl
    · intro h
      have : c = 45 := by simpa using h
      rw [this]; rfl
end Go.Proofs.YtibaoacjjcgjlaaGreatDoor.Ref

namespace Go.Proofs.YtibaoacjjcgjlaaGreatDoor.Ref
open Go.RowKit Go.Proofs.YtibaoacjjcgjlaaGreatDoorW.PrintWords Go.Proofs.YtibaoacjjcgjlaaGreatDoorW.PrintLast Go.Proofs.YtibaoacjjcgjlaaGreatDoor.Print Go.Proofs.YtibaoacjjcgjlaaGreatDoor.Base
set_option linter.unusedVariables false
set_option linter.unusedSimpArgs false
theorem is3_ev {n : Bool} {p q m : Nat} (hp : p < 4294967296 ^ m) (hq : q < 4294967296 ^ m) (hm : m ≤ 50000) : Ev (fun k => r3Is.f k n (digB 10000 p) (digB 10000 q) n (digB 4294967296 p) (digB 4294967296 q)) true := by
  have i1 := is_ev (x := p) hp hm
  have i2 := is_ev (x := q) hq hm
  rw [decide_eq_true rfl] at i1 i2
  refine Ev.congr (f := fun k => (r1Is.f k (digB 10000 p) (digB 4294967296 p)).bind fun t => if t = true then ((r1Is.f k (digB 10000 q) (digB 4294967296 q)).bind fun u => some u) else some false) (fun k => ?_) (Ev.bind i1 ?_)
  · unfold r3Is.f
    cases n <;> rfl
  · exact Ev.congr (fun k => by rw [if_pos rfl]) (Ev.bind i2 (f := fun _ u => some u) (Ev.now _))
theorem resR_ok {l : List UInt8} (h : (resR l).1 = 0) : (resR l).2.2.1 < 4294967296 ^ 32 ∧ (resR l).2.2.2 < 4294967296 ^ 32 ∧ txt (resR l).2 = l ∧ ratN (resR l).2.1 (resR l).2.2.1 (resR l).2.2.2 = (resR l).2 := by
  unfold resR at h ⊢
  generalize splitS (restS l) = t at h ⊢
  obtain ⟨a, b, two⟩ := t
  simp only [] at h ⊢
  generalize (if two = true then b else [49]) = c at h ⊢
  by_cases h1 : natB a = true ∧ natB c = true
  · rw [if_pos h1] at h ⊢
    by_cases h2 : (progNat a).2 = 0 ∧ (progNat c).2 = 0
    · rw [if_pos h2] at h ⊢
      by_cases h3 : txt (ratN (negS l) (numD a) (numD c)) = l
      · rw [if_pos h3]
        rcases prog_ok h1.1 with ⟨_, _, a2, _⟩ | ⟨a0, _⟩
        · rcases prog_ok h1.2 with ⟨_, _, b2, _⟩ | ⟨b0, _⟩
          · obtain ⟨q1, q2⟩ := ratN_lt (n := negS l) a2 b2 (by decide)
            exact ⟨q1, q2, h3, ratN_idem _ _ _⟩
          · exact absurd (h2.2.symm.trans b0) (by decide)
        · exact absurd (h2.1.symm.trans a0) (by decide)
      · rw [if_neg h3] at h; exact absurd (show (6 : Int) = 0 from h) (by decide)
    · rw [if_neg h2] at h; exact absurd (show (14 : Int) = 0 from h) (by decide)
  · rw [if_neg h1] at h; exact absurd (show (19 : Int) = 0 from h) (by decide)
end Go.Proofs.YtibaoacjjcgjlaaGreatDoor.Ref
