/- Proved here: DigitsGrows, the card of the law: the digits of ten times a natural and a digit are its digits and the digit. Without a condition. Written by wip/tools/claimtexts.py: these texts, one behind another, without what this claim does not use: Qg1, PuOrder, A1, A2, A3, PuRefA, A4, A5, A6, A7, A8, PuRefB, PuNats, PureDigitsGrows, LawDigitsGrows. -/
import Derived.Test.YthppjdmkinbccaaGreatDoorMgGrows2
import Derived.Test.YthppjdmkinbccaaGreatDoorMgGrows5
import Derived.Test.YthppjdmkinbccaaGreatDoorMgGrows6
import Derived.Test.YthppjdmkinbccaaGreatDoorMgGrows3
import Derived.Test.YthppjdmkinbccaaGreatDoorMgGrows4
import Derived.Test.YthppjdmkinbccaaGreatDoorCards
import Derived.Test.YthppjdmkinbccaaGreatDoorTie
import Derived.WalkKit
import Derived.ProofKit
import Derived.OpenShut
import Derived.ShutString
import Derived.ChangeOld
import Derived.Below
import Derived.SizedLaws
import Derived.Lay
import Derived.Deep.DeepHandedRow
import Derived.Deep.DeepWitnessRowRef
import Derived.Lib.LaidTab
import Derived.Stop.LaidErr
import Derived.Test.YthppjdmkinbccaaGreatDoorMgGrows1
/- Written by a program of this session (wip/tools/myprint.py): Lean functions with the same answers as Go functions of the program, and proofs that the Go code comes to them; no condition beyond those written. -/
-- PATCHED: the table of powers
namespace Go.Proofs.YthppjdmkinbccaaGreatDoor.Print
open Go.RowKit Go.Proofs.YthppjdmkinbccaaGreatDoorW.PrintWords Go.Proofs.YthppjdmkinbccaaGreatDoorW.PrintLast Go.Proofs.YthppjdmkinbccaaGreatDoorW.PrintMore
attribute [local go_sem] max2_int min2_int max_two min_two max_three min_three max_four min_four   -- for this text's walks alone
set_option linter.unusedVariables false
set_option linter.unusedSimpArgs false

/-! ### fluxionlaw04_DigitsGrows: function 11 -/
def fluxionlaw04_DigitsGrows.j0 : Nat → List Int → Int → Bool → Option (Bool)
  | 0, _, _, _ => none
  | k + 1, x0, x1, x21 => if x21 = true then ((fluxionlaw04_known.f k).bind fun t102 => (some t102)) else ((nat_Of.f 10).bind fun t103 => ((nat_MulC.f x0 t103).bind fun t106 => ((nat_Of.f (IntKind.u64.wrap (x1))).bind fun t109 => ((nat_Add.f t106 t109).bind fun t112 => ((digits_Nat.f t112).bind fun t115 => ((digits_Nat.f x0).bind fun t116 => (if 0 ≤ x1 then (if x1 ≤ (wrap64 (x1 + 1)) then (if (wrap64 (x1 + 1)) ≤ 10 then (if t116.size + ((⟨#[48, 49, 50, 51, 52, 53, 54, 55, 56, 57]⟩ : ByteArray).extract (x1 : Int).toNat ((wrap64 (x1 + 1)) : Int).toNat).size ≤ 9223372036854775807 then (if t115.toList = (t116 ++ ((⟨#[48, 49, 50, 51, 52, 53, 54, 55, 56, 57]⟩ : ByteArray).extract (x1 : Int).toNat ((wrap64 (x1 + 1)) : Int).toNat)).toList then ((digits_Count.f t112).bind fun t117 => ((digits_Count.f x0).bind fun t118 => (if t117 = (wrap64 (t118 + 1)) then ((fluxionlaw04_known.f k).bind fun t119 => (some t119)) else (none)))) else (none)) else (none)) else (none)) else (none)) else (none))))))))
def fluxionlaw04_DigitsGrows.f (k : Nat) (l0 : List Int) (a1 : Int) : Option (Bool) := if (l0.length : Int) > 40 then (fluxionlaw04_DigitsGrows.j0 k l0 a1 true) else (if a1 < 0 then (fluxionlaw04_DigitsGrows.j0 k l0 a1 true) else (if a1 > 9 then (fluxionlaw04_DigitsGrows.j0 k l0 a1 true) else ((nat_Cmp.f l0 ([] : List Int)).bind fun t101 => (fluxionlaw04_DigitsGrows.j0 k l0 a1 (t101 == 0)))))
def fluxionlaw04_DigitsGrows.T4 : Bool × List (List Nat × List Nat) := (true, [([], []), ([0], [0]), ([], []), ([2, 1], [2]), ([], []), ([], []), ([5], [5]), ([4, 6], [4, 6]), ([3, 7], [3, 7]), ([1, 8], [1, 8]), ([9, 3], [9]), ([10], [10]), ([11, 10, 10], [10, 11]), ([10], [10]), ([13, 12, 10], [10, 13]), ([14, 10], [10, 14]), ([12, 15, 10], [10, 12, 15]), ([10, 16], [10, 16]), ([17, 14], [17]), ([18, 18], [18]), ([18, 19], [18, 19]), ([20, 19, 0, 1, 2, 3, 4, 5, 6, 7, 8, 9, 10, 11, 12, 13, 14, 15, 16, 17, 18, 19, 20], [20])])
def fluxionlaw04_DigitsGrows.B4 : List Nat := [0, 1, 0, 7, 0, 0, 32, 112, 255, 511, 1023, 2047, 4095, 2047, 16383, 32767, 65535, 131071, 262143, 524287, 1048575, 2097151]
theorem fluxionlaw04_DigitsGrows.tab4 : rtab .any (opsOf Tryz.f11 4) = fluxionlaw04_DigitsGrows.T4 := by kernel_rfl
theorem fluxionlaw04_DigitsGrows.bits4 : waitsOk fluxionlaw04_DigitsGrows.T4.2 fluxionlaw04_DigitsGrows.B4 = true := by kernel_rfl
set_option maxHeartbeats 8000000 in
set_option maxRecDepth 100000 in
theorem fluxionlaw04_DigitsGrows.calls (k : Nat) (A0 : Option Addr) (c0 : Nat) (l0 : List Int) (a1 : Int) (r : Bool) (w : World) (ht : PowTab w) (hr0 : Kd.C (Kd.int .u32) w A0 l0.length l0) (hc0 : l0.length ≤ c0) (h : fluxionlaw04_DigitsGrows.f k l0 a1 = some r) :
    Calls Tryz.prog 11 #[.slice A0 l0.length c0, .int .i64 a1] w fun e w' => e = .returned (.bool r) ∧ Below w.heap.size w w' := by
  have HT := Aside0.mk ht
  clear ht
  have HR0 := Aside0.mk hr0
  have HC0 := Aside0.mk hc0
  clear hr0 hc0
  have HB := Aside0.mk (Below.refl w.heap.size w)
  have H : (if (l0.length : Int) > 40 then (fluxionlaw04_DigitsGrows.j0 k l0 a1 true) else (if a1 < 0 then (fluxionlaw04_DigitsGrows.j0 k l0 a1 true) else (if a1 > 9 then (fluxionlaw04_DigitsGrows.j0 k l0 a1 true) else ((nat_Cmp.f l0 ([] : List Int)).bind fun t101 => (fluxionlaw04_DigitsGrows.j0 k l0 a1 (t101 == 0)))))) = some r := h
  clear h
  have HC3 := Aside0.mk H
  clear H
  go_enter Tryz.func11, Tryz.ntmps11
  go_upto_region 1 with (fail)
  go_cut [21] (fun v21 wc => ∃ (kq : Nat) (x21_2 : Bool), v21 = .bool x21_2 ∧ Aside0 (fluxionlaw04_DigitsGrows.j0 kq l0 a1 x21_2 = some r) ∧ Aside0 (kq ≤ k) ∧ Aside0 (Below w.heap.size w wc))
  case first =>
    have H := HC3.out
    clear HC3
    by_cases c4 : (l0.length : Int) > 40
    · rw [if_pos c4] at H
      have c4b0 : decide (40 < (l0.length : Int)) = true := decide_eq_true c4
      have c4b1 : decide (40 < l0.length) = true := decide_eq_true (by omega)
      clear c4
      (first | rw [c4b0] | (simp only [i64_w, i32_w]; rw [c4b0]) | skip)
      have H' := Aside0.mk H
      clear H
      go_wp2
      go_meet
      case rel => exact ⟨_, (true), (by first | rfl | (simp; done) | (simp [*]; done)), H', ⟨by first | omega | exact Nat.le_refl _⟩, ⟨by repeat (first | (with_reducible first | exact HB.out | apply below_alloc | apply pw_below_drewN | apply below_drew1) | exact HB.out)⟩⟩
    · rw [if_neg c4] at H
      have c4b0 : decide (40 < (l0.length : Int)) = false := decide_eq_false c4
      have c4b1 : decide (40 < l0.length) = false := decide_eq_false (by omega)
      clear c4
      (first | rw [c4b0] | (simp only [i64_w, i32_w]; rw [c4b0]) | skip)
      by_cases c5 : a1 < 0
      · rw [if_pos c5] at H
        have c5b0 : decide (a1 < 0) = true := decide_eq_true c5
        clear c5
        have H' := Aside0.mk H
        clear H
        go_wp2
        go_meet
        case rel => exact ⟨_, (true), (by first | rfl | (simp; done) | (simp [*]; done)), H', ⟨by first | omega | exact Nat.le_refl _⟩, ⟨by repeat (first | (with_reducible first | exact HB.out | apply below_alloc | apply pw_below_drewN | apply below_drew1) | exact HB.out)⟩⟩
      · rw [if_neg c5] at H
        have c5b0 : decide (a1 < 0) = false := decide_eq_false c5
        clear c5
        by_cases c6 : a1 > 9
        · rw [if_pos c6] at H
          have c6b0 : decide (9 < a1) = true := decide_eq_true c6
          clear c6
          have H' := Aside0.mk H
          clear H
          go_wp2
          go_meet
          case rel => exact ⟨_, (true), (by first | rfl | (simp; done) | (simp [*]; done)), H', ⟨by first | omega | exact Nat.le_refl _⟩, ⟨by repeat (first | (with_reducible first | exact HB.out | apply below_alloc | apply pw_below_drewN | apply below_drew1) | exact HB.out)⟩⟩
        · rw [if_neg c6] at H
          have c6b0 : decide (9 < a1) = false := decide_eq_false c6
          clear c6
          replace H := Option.bind_eq_some_iff.mp H
          obtain ⟨t101, A70, H⟩ := H
          replace H : (fluxionlaw04_DigitsGrows.j0 k l0 a1 (t101 == 0)) = some r := H
          have A7 := Aside0.mk A70
          clear A70
          have H' := Aside0.mk H
          clear H
          go_wp2_with (first | (go_at_call 28; (refine (nat_Cmp.calls _ _ l0 _ _ ([] : List Int) t101 _ ?side1 ?side2 ?side3 ?side4 A7.out).mono ?_); (case side1 => repeat (first | exact (Kd.C_below HR0.out HB.out) | (with_reducible refine Kd.C_alloc ?_ _) | (with_reducible refine Kd.C_drewN ?_ _) | (with_reducible refine Kd.C_drew ?_))); (case side2 => exact HC0.out); (case side3 => exact Kd.C_nil _ _); (case side4 => exact Nat.le_refl _); rintro e w8 ⟨rfl, hb⟩; have n0_ := Aside0.mk (below_step (by repeat (first | (with_reducible first | exact HB.out | apply below_alloc | apply pw_below_drewN | apply below_drew1) | exact HB.out)) hb); clear HB; have HB := n0_; clear n0_; (try clear hb); (try clear hb2); (try clear hk); (try clear hi)))
          go_meet
          case rel => exact ⟨_, ((t101 == 0)), (by first | rfl | (simp; done) | (simp [*]; done)), H', ⟨by first | omega | exact Nat.le_refl _⟩, ⟨by repeat (first | (with_reducible first | exact HB.out | apply below_alloc | apply pw_below_drewN | apply below_drew1) | exact HB.out)⟩⟩
  case rest =>
    clear HC3
    try clear c1
    try clear p2
    try clear c4
    try clear c4b0
    try clear c4b1
    try clear c5
    try clear c5b0
    try clear c6
    try clear c6b0
    obtain ⟨kq, x21_2, rfl, HA, HJ2, HB⟩ := hcut
    cases kq with
    | zero => exact absurd HA.out (by simp [fluxionlaw04_DigitsGrows.j0])
    | succ kj2 =>
      have H := HA.out
      clear HA
      simp only [fluxionlaw04_DigitsGrows.j0] at H
      by_cases c9 : x21_2 = true
      · subst c9
        have H1 : ((fluxionlaw04_known.f kj2).bind fun t102 => (some t102)) = some r := by rw [if_pos rfl] at H; exact H
        clear H
        have H := H1
        clear H1
        replace H := Option.bind_eq_some_iff.mp H
        obtain ⟨t102, A100, H⟩ := H
        replace H : (some t102) = some r := H
        have A10 := Aside0.mk A100
        clear A100
        obtain rfl := Option.some.inj H
        go_wp2_with (first | ((with_reducible refine gate_callee (f := 15) rfl ?_); refine goesL_ (some 22) rfl rfl Tryz.func15 (by kernel_rfl) rfl #[] rfl (by (try simp only [List.map_toArray, List.map_cons, List.map_nil]); first | done | rfl | (simp only [List.length_drop, List.length_take]; rfl)) ?_; (with_reducible refine (fluxionlaw04_known.calls kj2  t102 _ (PowTab.below HT.out (by repeat (first | (with_reducible first | exact HB.out | apply below_alloc | apply pw_below_drewN | apply below_drew1) | exact HB.out))) A10.out).mono ?_); rintro e w11 ⟨rfl, hb⟩; refine ⟨_, rfl, ?_⟩; have n0_ := Aside0.mk (below_step (by repeat (first | (with_reducible first | exact HB.out | apply below_alloc | apply pw_below_drewN | apply below_drew1) | exact HB.out)) hb); clear HB; have HB := n0_; clear n0_; (try clear hb); (try clear hb2); (try clear hk); (try clear hi)))
        go_ret
        exact ⟨by first | rfl | (simp [errW_none, errW_some] <;> rfl) | (simp [*, errW_none, errW_some] <;> rfl), by repeat (first | (with_reducible first | exact HB.out | apply below_alloc | apply pw_below_drewN | apply below_drew1) | exact HB.out)⟩
      · replace c9 := Bool.eq_false_iff.mpr c9
        subst c9
        have H1 : ((nat_Of.f 10).bind fun t103 => ((nat_MulC.f l0 t103).bind fun t106 => ((nat_Of.f (IntKind.u64.wrap (a1))).bind fun t109 => ((nat_Add.f t106 t109).bind fun t112 => ((digits_Nat.f t112).bind fun t115 => ((digits_Nat.f l0).bind fun t116 => (if 0 ≤ a1 then (if a1 ≤ (wrap64 (a1 + 1)) then (if (wrap64 (a1 + 1)) ≤ 10 then (if t116.size + ((⟨#[48, 49, 50, 51, 52, 53, 54, 55, 56, 57]⟩ : ByteArray).extract (a1 : Int).toNat ((wrap64 (a1 + 1)) : Int).toNat).size ≤ 9223372036854775807 then (if t115.toList = (t116 ++ ((⟨#[48, 49, 50, 51, 52, 53, 54, 55, 56, 57]⟩ : ByteArray).extract (a1 : Int).toNat ((wrap64 (a1 + 1)) : Int).toNat)).toList then ((digits_Count.f t112).bind fun t117 => ((digits_Count.f l0).bind fun t118 => (if t117 = (wrap64 (t118 + 1)) then ((fluxionlaw04_known.f kj2).bind fun t119 => (some t119)) else (none)))) else (none)) else (none)) else (none)) else (none)) else (none)))))))) = some r := by rw [if_neg (show ¬ (false = true) by decide)] at H; exact H
        clear H
        have H := H1
        clear H1
        replace H := Option.bind_eq_some_iff.mp H
        obtain ⟨t103, A120, H⟩ := H
        replace H : ((nat_MulC.f l0 t103).bind fun t106 => ((nat_Of.f (IntKind.u64.wrap (a1))).bind fun t109 => ((nat_Add.f t106 t109).bind fun t112 => ((digits_Nat.f t112).bind fun t115 => ((digits_Nat.f l0).bind fun t116 => (if 0 ≤ a1 then (if a1 ≤ (wrap64 (a1 + 1)) then (if (wrap64 (a1 + 1)) ≤ 10 then (if t116.size + ((⟨#[48, 49, 50, 51, 52, 53, 54, 55, 56, 57]⟩ : ByteArray).extract (a1 : Int).toNat ((wrap64 (a1 + 1)) : Int).toNat).size ≤ 9223372036854775807 then (if t115.toList = (t116 ++ ((⟨#[48, 49, 50, 51, 52, 53, 54, 55, 56, 57]⟩ : ByteArray).extract (a1 : Int).toNat ((wrap64 (a1 + 1)) : Int).toNat)).toList then ((digits_Count.f t112).bind fun t117 => ((digits_Count.f l0).bind fun t118 => (if t117 = (wrap64 (t118 + 1)) then ((fluxionlaw04_known.f kj2).bind fun t119 => (some t119)) else (none)))) else (none)) else (none)) else (none)) else (none)) else (none))))))) = some r := H
        have A12 := Aside0.mk A120
        clear A120
        replace H := Option.bind_eq_some_iff.mp H
        obtain ⟨t106, A130, H⟩ := H
        replace H : ((nat_Of.f (IntKind.u64.wrap (a1))).bind fun t109 => ((nat_Add.f t106 t109).bind fun t112 => ((digits_Nat.f t112).bind fun t115 => ((digits_Nat.f l0).bind fun t116 => (if 0 ≤ a1 then (if a1 ≤ (wrap64 (a1 + 1)) then (if (wrap64 (a1 + 1)) ≤ 10 then (if t116.size + ((⟨#[48, 49, 50, 51, 52, 53, 54, 55, 56, 57]⟩ : ByteArray).extract (a1 : Int).toNat ((wrap64 (a1 + 1)) : Int).toNat).size ≤ 9223372036854775807 then (if t115.toList = (t116 ++ ((⟨#[48, 49, 50, 51, 52, 53, 54, 55, 56, 57]⟩ : ByteArray).extract (a1 : Int).toNat ((wrap64 (a1 + 1)) : Int).toNat)).toList then ((digits_Count.f t112).bind fun t117 => ((digits_Count.f l0).bind fun t118 => (if t117 = (wrap64 (t118 + 1)) then ((fluxionlaw04_known.f kj2).bind fun t119 => (some t119)) else (none)))) else (none)) else (none)) else (none)) else (none)) else (none)))))) = some r := H
        have A13 := Aside0.mk A130
        clear A130
        replace H := Option.bind_eq_some_iff.mp H
        obtain ⟨t109, A140, H⟩ := H
        replace H : ((nat_Add.f t106 t109).bind fun t112 => ((digits_Nat.f t112).bind fun t115 => ((digits_Nat.f l0).bind fun t116 => (if 0 ≤ a1 then (if a1 ≤ (wrap64 (a1 + 1)) then (if (wrap64 (a1 + 1)) ≤ 10 then (if t116.size + ((⟨#[48, 49, 50, 51, 52, 53, 54, 55, 56, 57]⟩ : ByteArray).extract (a1 : Int).toNat ((wrap64 (a1 + 1)) : Int).toNat).size ≤ 9223372036854775807 then (if t115.toList = (t116 ++ ((⟨#[48, 49, 50, 51, 52, 53, 54, 55, 56, 57]⟩ : ByteArray).extract (a1 : Int).toNat ((wrap64 (a1 + 1)) : Int).toNat)).toList then ((digits_Count.f t112).bind fun t117 => ((digits_Count.f l0).bind fun t118 => (if t117 = (wrap64 (t118 + 1)) then ((fluxionlaw04_known.f kj2).bind fun t119 => (some t119)) else (none)))) else (none)) else (none)) else (none)) else (none)) else (none))))) = some r := H
        have A14 := Aside0.mk A140
        clear A140
        replace H := Option.bind_eq_some_iff.mp H
        obtain ⟨t112, A150, H⟩ := H
        replace H : ((digits_Nat.f t112).bind fun t115 => ((digits_Nat.f l0).bind fun t116 => (if 0 ≤ a1 then (if a1 ≤ (wrap64 (a1 + 1)) then (if (wrap64 (a1 + 1)) ≤ 10 then (if t116.size + ((⟨#[48, 49, 50, 51, 52, 53, 54, 55, 56, 57]⟩ : ByteArray).extract (a1 : Int).toNat ((wrap64 (a1 + 1)) : Int).toNat).size ≤ 9223372036854775807 then (if t115.toList = (t116 ++ ((⟨#[48, 49, 50, 51, 52, 53, 54, 55, 56, 57]⟩ : ByteArray).extract (a1 : Int).toNat ((wrap64 (a1 + 1)) : Int).toNat)).toList then ((digits_Count.f t112).bind fun t117 => ((digits_Count.f l0).bind fun t118 => (if t117 = (wrap64 (t118 + 1)) then ((fluxionlaw04_known.f kj2).bind fun t119 => (some t119)) else (none)))) else (none)) else (none)) else (none)) else (none)) else (none)))) = some r := H
        have A15 := Aside0.mk A150
        clear A150
        replace H := Option.bind_eq_some_iff.mp H
        obtain ⟨t115, A160, H⟩ := H
        replace H : ((digits_Nat.f l0).bind fun t116 => (if 0 ≤ a1 then (if a1 ≤ (wrap64 (a1 + 1)) then (if (wrap64 (a1 + 1)) ≤ 10 then (if t116.size + ((⟨#[48, 49, 50, 51, 52, 53, 54, 55, 56, 57]⟩ : ByteArray).extract (a1 : Int).toNat ((wrap64 (a1 + 1)) : Int).toNat).size ≤ 9223372036854775807 then (if t115.toList = (t116 ++ ((⟨#[48, 49, 50, 51, 52, 53, 54, 55, 56, 57]⟩ : ByteArray).extract (a1 : Int).toNat ((wrap64 (a1 + 1)) : Int).toNat)).toList then ((digits_Count.f t112).bind fun t117 => ((digits_Count.f l0).bind fun t118 => (if t117 = (wrap64 (t118 + 1)) then ((fluxionlaw04_known.f kj2).bind fun t119 => (some t119)) else (none)))) else (none)) else (none)) else (none)) else (none)) else (none))) = some r := H
        have A16 := Aside0.mk A160
        clear A160
        replace H := Option.bind_eq_some_iff.mp H
        obtain ⟨t116, A170, H⟩ := H
        replace H : (if 0 ≤ a1 then (if a1 ≤ (wrap64 (a1 + 1)) then (if (wrap64 (a1 + 1)) ≤ 10 then (if t116.size + ((⟨#[48, 49, 50, 51, 52, 53, 54, 55, 56, 57]⟩ : ByteArray).extract (a1 : Int).toNat ((wrap64 (a1 + 1)) : Int).toNat).size ≤ 9223372036854775807 then (if t115.toList = (t116 ++ ((⟨#[48, 49, 50, 51, 52, 53, 54, 55, 56, 57]⟩ : ByteArray).extract (a1 : Int).toNat ((wrap64 (a1 + 1)) : Int).toNat)).toList then ((digits_Count.f t112).bind fun t117 => ((digits_Count.f l0).bind fun t118 => (if t117 = (wrap64 (t118 + 1)) then ((fluxionlaw04_known.f kj2).bind fun t119 => (some t119)) else (none)))) else (none)) else (none)) else (none)) else (none)) else (none)) = some r := H
        have A17 := Aside0.mk A170
        clear A170
        by_cases c18 : 0 ≤ a1
        · rw [if_pos c18] at H
          have c18b0 := eq_true c18
          try (have h_c18 := c18; rw [ByteArray.size_append] at h_c18; have c18b3 := eq_true h_c18; have c18b4 := eq_false (Nat.not_lt.2 h_c18); clear h_c18)
          have c18b1 : decide (0 ≤ a1) = true := decide_eq_true c18
          clear c18
          by_cases c19 : a1 ≤ (wrap64 (a1 + 1))
          · rw [if_pos c19] at H
            have c19b0 := eq_true c19
            try (have h_c19 := c19; rw [ByteArray.size_append] at h_c19; have c19b3 := eq_true h_c19; have c19b4 := eq_false (Nat.not_lt.2 h_c19); clear h_c19)
            have c19b1 : decide (a1 ≤ (wrap64 (a1 + 1))) = true := decide_eq_true c19
            by_cases c20 : (wrap64 (a1 + 1)) ≤ 10
            · rw [if_pos c20] at H
              have c20b0 := eq_true c20
              try (have h_c20 := c20; rw [ByteArray.size_append] at h_c20; have c20b3 := eq_true h_c20; have c20b4 := eq_false (Nat.not_lt.2 h_c20); clear h_c20)
              have c20b1 : decide ((wrap64 (a1 + 1)) ≤ 10) = true := decide_eq_true c20
              by_cases c21 : t116.size + ((⟨#[48, 49, 50, 51, 52, 53, 54, 55, 56, 57]⟩ : ByteArray).extract (a1 : Int).toNat ((wrap64 (a1 + 1)) : Int).toNat).size ≤ 9223372036854775807
              · rw [if_pos c21] at H
                have c21b0 := eq_true c21
                try (have h_c21 := c21; rw [ByteArray.size_append] at h_c21; have c21b3 := eq_true h_c21; have c21b4 := eq_false (Nat.not_lt.2 h_c21); clear h_c21)
                have c21b1 : decide (t116.size + ((⟨#[48, 49, 50, 51, 52, 53, 54, 55, 56, 57]⟩ : ByteArray).extract (a1 : Int).toNat ((wrap64 (a1 + 1)) : Int).toNat).size ≤ 9223372036854775807) = true := decide_eq_true c21
                try have c21b2 : (9223372036854775807 < t116.size + ((⟨#[48, 49, 50, 51, 52, 53, 54, 55, 56, 57]⟩ : ByteArray).extract (a1 : Int).toNat ((wrap64 (a1 + 1)) : Int).toNat).size) = False := eq_false (Nat.not_lt.2 c21)
                have h_c21 : ¬ 9223372036854775807 < t116.size + ((wrap64 (a1 + 1)).toNat - a1.toNat) := by
                  have hz_ := c21
                  rw [ByteArray.size_extract] at hz_
                  have hw_ : (wrap64 (a1 + 1)).toNat ≤ 10 := by omega
                  rw [show (⟨#[48, 49, 50, 51, 52, 53, 54, 55, 56, 57]⟩ : ByteArray).size = 10 from rfl, Nat.min_eq_left hw_] at hz_
                  omega
                have c21b7 := eq_false h_c21
                clear h_c21
                by_cases c22 : t115.toList = (t116 ++ ((⟨#[48, 49, 50, 51, 52, 53, 54, 55, 56, 57]⟩ : ByteArray).extract (a1 : Int).toNat ((wrap64 (a1 + 1)) : Int).toNat)).toList
                · rw [if_pos c22] at H
                  have c22b0 : (t115.toList == (t116 ++ ((⟨#[48, 49, 50, 51, 52, 53, 54, 55, 56, 57]⟩ : ByteArray).extract (a1 : Int).toNat ((wrap64 (a1 + 1)) : Int).toNat)).toList) = true := beq_iff_eq.mpr c22
                  have c22b1 : (t115.toList != (t116 ++ ((⟨#[48, 49, 50, 51, 52, 53, 54, 55, 56, 57]⟩ : ByteArray).extract (a1 : Int).toNat ((wrap64 (a1 + 1)) : Int).toNat)).toList) = false := bne_eq_false_iff_eq.mpr c22
                  clear c22
                  replace H := Option.bind_eq_some_iff.mp H
                  obtain ⟨t117, A230, H⟩ := H
                  replace H : ((digits_Count.f l0).bind fun t118 => (if t117 = (wrap64 (t118 + 1)) then ((fluxionlaw04_known.f kj2).bind fun t119 => (some t119)) else (none))) = some r := H
                  have A23 := Aside0.mk A230
                  clear A230
                  replace H := Option.bind_eq_some_iff.mp H
                  obtain ⟨t118, A240, H⟩ := H
                  replace H : (if t117 = (wrap64 (t118 + 1)) then ((fluxionlaw04_known.f kj2).bind fun t119 => (some t119)) else (none)) = some r := H
                  have A24 := Aside0.mk A240
                  clear A240
                  by_cases c25 : t117 = (wrap64 (t118 + 1))
                  · rw [if_pos c25] at H
                    have c25b0 : (t117 == (wrap64 (t118 + 1))) = true := beq_iff_eq.mpr c25
                    have c25b1 : (t117 != (wrap64 (t118 + 1))) = false := bne_eq_false_iff_eq.mpr c25
                    clear c25
                    replace H := Option.bind_eq_some_iff.mp H
                    obtain ⟨t119, A260, H⟩ := H
                    replace H : (some t119) = some r := H
                    have A26 := Aside0.mk A260
                    clear A260
                    obtain rfl := Option.some.inj H
                    try go_wp2_with (first | ((with_reducible refine gate_callee (f := 30) rfl ?_); refine goesL_ (some 24) rfl rfl Tryz.func30 (by kernel_rfl) rfl #[.int .u64 10] rfl (by (try simp only [List.map_toArray, List.map_cons, List.map_nil]); first | done | rfl | (simp only [List.length_drop, List.length_take]; rfl)) ?_; (with_reducible refine (nat_Of.calls 10 t103 _ A12.out).mono ?_); rintro e w27 ⟨v104, rfl, ho0, hb⟩; refine ⟨_, rfl, ?_⟩; have n0_ := Aside0.mk (Kd.R_lower ho0 (below_size (by repeat (first | (with_reducible first | exact HB.out | apply below_alloc | apply pw_below_drewN | apply below_drew1) | exact HB.out)))); have n1_ := Aside0.mk (below_step (by repeat (first | (with_reducible first | exact HB.out | apply below_alloc | apply pw_below_drewN | apply below_drew1) | exact HB.out)) hb); clear HB; have HO105 := n0_; have HB := n1_; clear n0_ n1_; (try clear hb); (try clear hb2); (try clear hk); (try clear hi); (try clear ho0); obtain ⟨Ao28, co28, eo28⟩ := Kd.R_slice HO105.out; subst eo28) | ((with_reducible refine gate_callee (f := 33) rfl ?_); refine goesL_ (some 25) rfl rfl Tryz.func33 (by kernel_rfl) rfl #[.slice A0 l0.length c0, .slice Ao28 t103.length co28] rfl (by (try simp only [List.map_toArray, List.map_cons, List.map_nil]); first | done | rfl | (simp only [List.length_drop, List.length_take]; rfl)) ?_; (with_reducible refine (nat_MulC.calls _ _ l0 _ _ t103 t106 _ ?side1 ?side2 ?side3 ?side4 A13.out).mono ?_); (case side1 => repeat (first | exact (Kd.C_below HR0.out HB.out) | (with_reducible refine Kd.C_alloc ?_ _) | (with_reducible refine Kd.C_drewN ?_ _) | (with_reducible refine Kd.C_drew ?_))); (case side2 => exact HC0.out); (case side3 => repeat (first | exact (Kd.R_reads' HO105.out).2.2 | (with_reducible refine Kd.C_alloc ?_ _) | (with_reducible refine Kd.C_drewN ?_ _) | (with_reducible refine Kd.C_drew ?_))); (case side4 => exact (Kd.R_reads' HO105.out).2.1); rintro e w29 ⟨v107, rfl, ho0, hb⟩; refine ⟨_, rfl, ?_⟩; have n0_ := Aside0.mk (Kd.R_elder' (by (with_reducible repeat (first | apply Kd.R_alloc | apply Kd.R_drewN | apply Kd.R_drew)); exact HO105.out) (Kd.R_base ho0) hb); have n1_ := Aside0.mk (Kd.R_lower (Kd.R_new' ho0 (Kd.R_lt (by (with_reducible repeat (first | apply Kd.R_alloc | apply Kd.R_drewN | apply Kd.R_drew)); exact HO105.out))) (below_size (by repeat (first | (with_reducible first | exact HB.out | apply below_alloc | apply pw_below_drewN | apply below_drew1) | exact HB.out)))); have n2_ := Aside0.mk (below_step (by repeat (first | (with_reducible first | exact HB.out | apply below_alloc | apply pw_below_drewN | apply below_drew1) | exact HB.out)) hb); clear HO105; clear HB; have HO105 := n0_; have HO108 := n1_; have HB := n2_; clear n0_ n1_ n2_; (try clear hb); (try clear hb2); (try clear hk); (try clear hi); (try clear ho0)) | ((with_reducible refine gate_callee (f := 30) rfl ?_); refine goesL_ (some 28) rfl rfl Tryz.func30 (by kernel_rfl) rfl #[.int .u64 (IntKind.u64.wrap (a1))] rfl (by (try simp only [List.map_toArray, List.map_cons, List.map_nil]); first | done | rfl | (simp only [List.length_drop, List.length_take]; rfl)) ?_; (with_reducible refine (nat_Of.calls (IntKind.u64.wrap (a1)) t109 _ A14.out).mono ?_); rintro e w30 ⟨v110, rfl, ho0, hb⟩; refine ⟨_, rfl, ?_⟩; have n0_ := Aside0.mk (Kd.R_elder' (by (with_reducible repeat (first | apply Kd.R_alloc | apply Kd.R_drewN | apply Kd.R_drew)); exact HO105.out) (Kd.R_base ho0) hb); have n1_ := Aside0.mk (Kd.R_elder' (by (with_reducible repeat (first | apply Kd.R_alloc | apply Kd.R_drewN | apply Kd.R_drew)); exact HO108.out) (Kd.R_base ho0) hb); have n2_ := Aside0.mk (Kd.R_lower (Kd.R_new' (Kd.R_new' ho0 (Kd.R_lt (by (with_reducible repeat (first | apply Kd.R_alloc | apply Kd.R_drewN | apply Kd.R_drew)); exact HO105.out))) (Kd.R_lt (by (with_reducible repeat (first | apply Kd.R_alloc | apply Kd.R_drewN | apply Kd.R_drew)); exact HO108.out))) (below_size (by repeat (first | (with_reducible first | exact HB.out | apply below_alloc | apply pw_below_drewN | apply below_drew1) | exact HB.out)))); have n3_ := Aside0.mk (below_step (by repeat (first | (with_reducible first | exact HB.out | apply below_alloc | apply pw_below_drewN | apply below_drew1) | exact HB.out)) hb); clear HO105; clear HO108; clear HB; have HO105 := n0_; have HO108 := n1_; have HO111 := n2_; have HB := n3_; clear n0_ n1_ n2_ n3_; (try clear hb); (try clear hb2); (try clear hk); (try clear hi); (try clear ho0); obtain ⟨Ao31, co31, eo31⟩ := Kd.R_slice HO108.out; subst eo31; obtain ⟨Ao32, co32, eo32⟩ := Kd.R_slice HO111.out; subst eo32) | ((with_reducible refine gate_callee (f := 29) rfl ?_); refine goesL_ (some 29) rfl rfl Tryz.func29 (by kernel_rfl) rfl #[.slice Ao31 t106.length co31, .slice Ao32 t109.length co32] rfl (by (try simp only [List.map_toArray, List.map_cons, List.map_nil]); first | done | rfl | (simp only [List.length_drop, List.length_take]; rfl)) ?_; (with_reducible refine (nat_Add.calls _ _ t106 _ _ t109 t112 _ ?side1 ?side2 ?side3 ?side4 A15.out).mono ?_); (case side1 => repeat (first | exact (Kd.R_reads' HO108.out).2.2 | (with_reducible refine Kd.C_alloc ?_ _) | (with_reducible refine Kd.C_drewN ?_ _) | (with_reducible refine Kd.C_drew ?_))); (case side2 => exact (Kd.R_reads' HO108.out).2.1); (case side3 => repeat (first | exact (Kd.R_reads' HO111.out).2.2 | (with_reducible refine Kd.C_alloc ?_ _) | (with_reducible refine Kd.C_drewN ?_ _) | (with_reducible refine Kd.C_drew ?_))); (case side4 => exact (Kd.R_reads' HO111.out).2.1); rintro e w33 ⟨v113, rfl, ho0, hb⟩; refine ⟨_, rfl, ?_⟩; have n0_ := Aside0.mk (Kd.R_elder' (by (with_reducible repeat (first | apply Kd.R_alloc | apply Kd.R_drewN | apply Kd.R_drew)); exact HO105.out) (Kd.R_base ho0) hb); have n1_ := Aside0.mk (Kd.R_elder' (by (with_reducible repeat (first | apply Kd.R_alloc | apply Kd.R_drewN | apply Kd.R_drew)); exact HO108.out) (Kd.R_base ho0) hb); have n2_ := Aside0.mk (Kd.R_elder' (by (with_reducible repeat (first | apply Kd.R_alloc | apply Kd.R_drewN | apply Kd.R_drew)); exact HO111.out) (Kd.R_base ho0) hb); have n3_ := Aside0.mk (Kd.R_lower (Kd.R_new' (Kd.R_new' (Kd.R_new' ho0 (Kd.R_lt (by (with_reducible repeat (first | apply Kd.R_alloc | apply Kd.R_drewN | apply Kd.R_drew)); exact HO105.out))) (Kd.R_lt (by (with_reducible repeat (first | apply Kd.R_alloc | apply Kd.R_drewN | apply Kd.R_drew)); exact HO108.out))) (Kd.R_lt (by (with_reducible repeat (first | apply Kd.R_alloc | apply Kd.R_drewN | apply Kd.R_drew)); exact HO111.out))) (below_size (by repeat (first | (with_reducible first | exact HB.out | apply below_alloc | apply pw_below_drewN | apply below_drew1) | exact HB.out)))); have n4_ := Aside0.mk (below_step (by repeat (first | (with_reducible first | exact HB.out | apply below_alloc | apply pw_below_drewN | apply below_drew1) | exact HB.out)) hb); clear HO105; clear HO108; clear HO111; clear HB; have HO105 := n0_; have HO108 := n1_; have HO111 := n2_; have HO114 := n3_; have HB := n4_; clear n0_ n1_ n2_ n3_ n4_; (try clear hb); (try clear hb2); (try clear hk); (try clear hi); (try clear ho0)))
                    have n0_ := Aside0.mk (Kd.R_drew HO105.out)
                    have n1_ := Aside0.mk (Kd.R_drew HO108.out)
                    have n2_ := Aside0.mk (Kd.R_drew HO111.out)
                    have n3_ := Aside0.mk (Kd.R_drew HO114.out)
                    have n4_ := Aside0.mk (below_drew1 HB.out)
                    clear HO105
                    clear HO108
                    clear HO111
                    clear HO114
                    clear HB
                    have HO105 := n0_
                    have HO108 := n1_
                    have HO111 := n2_
                    have HO114 := n3_
                    have HB := n4_
                    clear n0_ n1_ n2_ n3_ n4_
                    obtain ⟨Ao35, co35, eo35⟩ := Kd.R_slice HO114.out
                    (first | subst eo35 | (injection eo35 with f1_ f2_ f3_; have f4_ := f1_.symm; have f5_ := f3_.symm; clear f1_ f2_ f3_; subst f4_; subst f5_))
                    refine start_ (n := 22) (S := fun w' => True) (ds := []) #[false, false, false, false, false, false, false, false, false, false, false, false, false, false, false, false, false, false, false, false, false, false] (by kernel_rfl) rfl rfl trivial (fun hHeld => ?_); refine with_tabW fluxionlaw04_DigitsGrows.tab4 fluxionlaw04_DigitsGrows.bits4 (fun HT_ HW_ => ?_)
                    generalize w33.drew = w34 at HO105 HO108 HO111 HO114 HB hHeld ⊢
                    refine pure_ (i := 0) (N := some 30) (v := ?_) (a' := ?_) #[true, false, false, false, false, false, false, false, false, false, false, false, false, false, false, false, false, false, false, false, false, false] rfl rfl (any_of HT_.out (by kernel_rfl)) (fun _ _ _ h => h) (Or.inl ⟨by rfl, ?_⟩) ?_ ?_
                    rotate_left
                    · intro w'
                      go_simp
                      with_reducible rfl
                    rotate_left
                    · simp only [Act.put, List.setIfInBounds_toArray, List.set_cons_zero, List.set_cons_succ, i64_w, i32_w]
                      rfl
                    refine pure_ (i := 2) (N := some 32) (v := ?_) (a' := ?_) #[true, false, true, false, false, false, false, false, false, false, false, false, false, false, false, false, false, false, false, false, false, false] rfl rfl (any_of HT_.out (by kernel_rfl)) (fun _ _ _ h => h) (Or.inl ⟨by rfl, ?_⟩) ?_ ?_
                    rotate_left
                    · intro w'
                      go_simp
                      with_reducible rfl
                    rotate_left
                    · simp only [Act.put, List.setIfInBounds_toArray, List.set_cons_zero, List.set_cons_succ, i64_w, i32_w]
                      rfl
                    refine pure_ (i := 4) (N := some 34) (v := ?_) (a' := ?_) #[true, false, true, false, true, false, false, false, false, false, false, false, false, false, false, false, false, false, false, false, false, false] rfl rfl (any_of HT_.out (by kernel_rfl)) (fun _ _ _ h => h) (Or.inl ⟨by rfl, ?_⟩) ?_ ?_
                    rotate_left
                    · intro w'
                      go_simp
                      with_reducible rfl
                    rotate_left
                    · simp only [Act.put, List.setIfInBounds_toArray, List.set_cons_zero, List.set_cons_succ, i64_w, i32_w]
                      rfl
                    refine pure_ (i := 5) (N := some 35) (v := ?_) (a' := ?_) #[true, false, true, false, true, true, false, false, false, false, false, false, false, false, false, false, false, false, false, false, false, false] rfl rfl (any_of HT_.out (by kernel_rfl)) (fun _ _ _ h => h) (Or.inl ⟨by rfl, ?_⟩) ?_ ?_
                    rotate_left
                    · intro w'
                      go_simp
                      with_reducible rfl
                    rotate_left
                    · simp only [Act.put, List.setIfInBounds_toArray, List.set_cons_zero, List.set_cons_succ, i64_w, i32_w]
                      rfl
                    refine pure_ (i := 6) (N := some 36) (v := ?_) (a' := ?_) #[true, false, true, false, true, true, true, false, false, false, false, false, false, false, false, false, false, false, false, false, false, false] rfl rfl (any_of HT_.out (by kernel_rfl)) (fun _ _ _ h => h) (Or.inl ⟨by rfl, ?_⟩) ?_ ?_
                    rotate_left
                    · intro w'
                      go_simp
                      with_reducible rfl
                    rotate_left
                    · simp only [Act.put, List.setIfInBounds_toArray, List.set_cons_zero, List.set_cons_succ, i64_w, i32_w]
                      rfl
                    refine pure_ (i := 7) (N := some 37) (v := ?_) (a' := ?_) #[true, false, true, false, true, true, true, true, false, false, false, false, false, false, false, false, false, false, false, false, false, false] rfl rfl (any_of HT_.out (by kernel_rfl)) (fun _ _ _ h => h) (Or.inl ⟨by rfl, ?_⟩) ?_ ?_
                    rotate_left
                    · intro w'
                      go_simp
                      with_reducible rfl
                    rotate_left
                    · simp only [Act.put, List.setIfInBounds_toArray, List.set_cons_zero, List.set_cons_succ, i64_w, i32_w]
                      rfl
                    refine one_ (i := 1) (N := some 31) #[true, true, true, false, true, true, true, true, false, false, false, false, false, false, false, false, false, false, false, false, false, false] rfl rfl (one_of HT_.out (by kernel_rfl)) (by decide) (fun K hK => ?_)
                    refine goes_ Tryz.func23 (by kernel_rfl) rfl #[.slice Ao35 t112.length co35] (by rfl) rfl rfl (by (try simp only [List.map_toArray, List.map_cons, List.map_nil]); first | done | rfl | (simp only [List.length_drop, List.length_take]; rfl)) ?_
                    with_reducible refine (digits_Nat.calls _ _ t112 t115 _ (PowTab.below HT.out (by repeat (first | (with_reducible first | exact HB.out | apply below_alloc | apply pw_below_drewN | apply below_drew1) | exact HB.out))) ?side1 ?side2 A16.out).mono ?_
                    (case side1 => repeat (first | exact (Kd.R_reads' HO114.out).2.2 | (with_reducible refine Kd.C_alloc ?_ _) | (with_reducible refine Kd.C_drewN ?_ _) | (with_reducible refine Kd.C_drew ?_)))
                    (case side2 => exact (Kd.R_reads' HO114.out).2.1)
                    rintro e w36 ⟨rfl, hb⟩
                    refine ⟨_, rfl, ?_⟩
                    have n0_ := Aside0.mk (Kd.R_below (by (with_reducible repeat (first | apply Kd.R_alloc | apply Kd.R_drewN | apply Kd.R_drew)); exact HO105.out) hb)
                    have n1_ := Aside0.mk (Kd.R_below (by (with_reducible repeat (first | apply Kd.R_alloc | apply Kd.R_drewN | apply Kd.R_drew)); exact HO108.out) hb)
                    have n2_ := Aside0.mk (Kd.R_below (by (with_reducible repeat (first | apply Kd.R_alloc | apply Kd.R_drewN | apply Kd.R_drew)); exact HO111.out) hb)
                    have n3_ := Aside0.mk (Kd.R_below (by (with_reducible repeat (first | apply Kd.R_alloc | apply Kd.R_drewN | apply Kd.R_drew)); exact HO114.out) hb)
                    have n4_ := Aside0.mk (below_step (by repeat (first | (with_reducible first | exact HB.out | apply below_alloc | apply pw_below_drewN | apply below_drew1) | exact HB.out)) hb)
                    clear HO105
                    clear HO108
                    clear HO111
                    clear HO114
                    clear HB
                    have HO105 := n0_
                    have HO108 := n1_
                    have HO111 := n2_
                    have HO114 := n3_
                    have HB := n4_
                    clear n0_ n1_ n2_ n3_ n4_
                    (try clear hb)
                    (try clear hb2)
                    (try clear hk)
                    (try clear hi)
                    refine hK.out _ _ trivial (fun hHeld => ?_)
                    clear hK K
                    refine norm_ (a' := ?_) ?_ ?_
                    rotate_left
                    · show Act.put _ (some 31) _ = _
                      simp only [Act.put, List.setIfInBounds_toArray, List.set_cons_zero, List.set_cons_succ, i64_w, i32_w]
                      rfl
                    refine one_ (i := 3) (N := some 33) #[true, true, true, true, true, true, true, true, false, false, false, false, false, false, false, false, false, false, false, false, false, false] rfl rfl (one_of HT_.out (by kernel_rfl)) (by decide) (fun K hK => ?_)
                    refine goes_ Tryz.func23 (by kernel_rfl) rfl #[.slice A0 l0.length c0] (by rfl) rfl rfl (by (try simp only [List.map_toArray, List.map_cons, List.map_nil]); first | done | rfl | (simp only [List.length_drop, List.length_take]; rfl)) ?_
                    with_reducible refine (digits_Nat.calls _ _ l0 t116 _ (PowTab.below HT.out (by repeat (first | (with_reducible first | exact HB.out | apply below_alloc | apply pw_below_drewN | apply below_drew1) | exact HB.out))) ?side1 ?side2 A17.out).mono ?_
                    (case side1 => repeat (first | exact (Kd.C_below HR0.out HB.out) | (with_reducible refine Kd.C_alloc ?_ _) | (with_reducible refine Kd.C_drewN ?_ _) | (with_reducible refine Kd.C_drew ?_)))
                    (case side2 => exact HC0.out)
                    rintro e w37 ⟨rfl, hb⟩
                    refine ⟨_, rfl, ?_⟩
                    have n0_ := Aside0.mk (Kd.R_below (by (with_reducible repeat (first | apply Kd.R_alloc | apply Kd.R_drewN | apply Kd.R_drew)); exact HO105.out) hb)
                    have n1_ := Aside0.mk (Kd.R_below (by (with_reducible repeat (first | apply Kd.R_alloc | apply Kd.R_drewN | apply Kd.R_drew)); exact HO108.out) hb)
                    have n2_ := Aside0.mk (Kd.R_below (by (with_reducible repeat (first | apply Kd.R_alloc | apply Kd.R_drewN | apply Kd.R_drew)); exact HO111.out) hb)
                    have n3_ := Aside0.mk (Kd.R_below (by (with_reducible repeat (first | apply Kd.R_alloc | apply Kd.R_drewN | apply Kd.R_drew)); exact HO114.out) hb)
                    have n4_ := Aside0.mk (below_step (by repeat (first | (with_reducible first | exact HB.out | apply below_alloc | apply pw_below_drewN | apply below_drew1) | exact HB.out)) hb)
                    clear HO105
                    clear HO108
                    clear HO111
                    clear HO114
                    clear HB
                    have HO105 := n0_
                    have HO108 := n1_
                    have HO111 := n2_
                    have HO114 := n3_
                    have HB := n4_
                    clear n0_ n1_ n2_ n3_ n4_
                    (try clear hb)
                    (try clear hb2)
                    (try clear hk)
                    (try clear hi)
                    refine hK.out _ _ trivial (fun hHeld => ?_)
                    clear hK K
                    refine norm_ (a' := ?_) ?_ ?_
                    rotate_left
                    · show Act.put _ (some 33) _ = _
                      simp only [Act.put, List.setIfInBounds_toArray, List.set_cons_zero, List.set_cons_succ, i64_w, i32_w]
                      rfl
                    refine pure_ (i := 8) (N := some 38) (v := ?_) (a' := ?_) #[true, true, true, true, true, true, true, true, true, false, false, false, false, false, false, false, false, false, false, false, false, false] rfl rfl (any_of HT_.out (by kernel_rfl)) (fun _ _ _ h => h) (Or.inl ⟨by rfl, ?_⟩) ?_ ?_
                    rotate_left
                    · intro w'
                      go_simp
                      with_reducible rfl
                    rotate_left
                    · simp only [Act.put, List.setIfInBounds_toArray, List.set_cons_zero, List.set_cons_succ, i64_w, i32_w]
                      rfl
                    refine pure_ (i := 9) (N := some 39) (v := ?_) (a' := ?_) #[true, true, true, true, true, true, true, true, true, true, false, false, false, false, false, false, false, false, false, false, false, false] rfl rfl (any_of HT_.out (by kernel_rfl)) (fun _ _ _ h => h) (Or.inl ⟨by rfl, ?_⟩) ?_ ?_
                    rotate_left
                    · intro w'
                      go_simp
                      with_reducible rfl
                    rotate_left
                    · simp only [Act.put, List.setIfInBounds_toArray, List.set_cons_zero, List.set_cons_succ, i64_w, i32_w]
                      rfl
                    refine pure_ (i := 10) (N := some 40) (v := ?_) (a' := ?_) #[true, true, true, true, true, true, true, true, true, true, true, false, false, false, false, false, false, false, false, false, false, false] rfl rfl (any_of HT_.out (by kernel_rfl)) (fun _ _ _ h => h) (Or.inl ⟨by rfl, ?_⟩) ?_ ?_
                    rotate_left
                    · intro w'
                      go_simp
                      with_reducible rfl
                    rotate_left
                    · simp only [Act.put, List.setIfInBounds_toArray, List.set_cons_zero, List.set_cons_succ, i64_w, i32_w]
                      rfl
                    refine pure_ (i := 11) (N := some 41) (v := ?_) (a' := ?_) #[true, true, true, true, true, true, true, true, true, true, true, true, false, false, false, false, false, false, false, false, false, false] rfl rfl (any_of HT_.out (by kernel_rfl)) (fun _ _ _ h => h) (Or.inl ⟨by rfl, ?_⟩) ?_ ?_
                    rotate_left
                    · intro w'
                      go_simp
                      with_reducible rfl
                    rotate_left
                    · simp only [Act.put, List.setIfInBounds_toArray, List.set_cons_zero, List.set_cons_succ, i64_w, i32_w]
                      rfl
                    refine pure_ (i := 13) (N := some 43) (v := ?_) (a' := ?_) #[true, true, true, true, true, true, true, true, true, true, true, true, false, true, false, false, false, false, false, false, false, false] rfl rfl (any_of HT_.out (by kernel_rfl)) (fun _ _ _ h => h) (Or.inl ⟨by rfl, ?_⟩) ?_ ?_
                    rotate_left
                    · intro w'
                      go_simp
                      with_reducible rfl
                    rotate_left
                    · simp only [Act.put, List.setIfInBounds_toArray, List.set_cons_zero, List.set_cons_succ, i64_w, i32_w]
                      rfl
                    refine one_ (i := 12) (N := some 42) #[true, true, true, true, true, true, true, true, true, true, true, true, true, true, false, false, false, false, false, false, false, false] rfl rfl (one_of HT_.out (by kernel_rfl)) (by decide) (fun K hK => ?_)
                    refine goes_ Tryz.func32 (by kernel_rfl) rfl #[.slice Ao35 t112.length co35] (by rfl) rfl rfl (by (try simp only [List.map_toArray, List.map_cons, List.map_nil]); first | done | rfl | (simp only [List.length_drop, List.length_take]; rfl)) ?_
                    with_reducible refine (digits_Count.calls _ _ t112 t117 _ (PowTab.below HT.out (by repeat (first | (with_reducible first | exact HB.out | apply below_alloc | apply pw_below_drewN | apply below_drew1) | exact HB.out))) ?side1 ?side2 A23.out).mono ?_
                    (case side1 => repeat (first | exact (Kd.R_reads' HO114.out).2.2 | (with_reducible refine Kd.C_alloc ?_ _) | (with_reducible refine Kd.C_drewN ?_ _) | (with_reducible refine Kd.C_drew ?_)))
                    (case side2 => exact (Kd.R_reads' HO114.out).2.1)
                    rintro e w38 ⟨rfl, hb⟩
                    refine ⟨_, rfl, ?_⟩
                    have n0_ := Aside0.mk (Kd.R_below (by (with_reducible repeat (first | apply Kd.R_alloc | apply Kd.R_drewN | apply Kd.R_drew)); exact HO105.out) hb)
                    have n1_ := Aside0.mk (Kd.R_below (by (with_reducible repeat (first | apply Kd.R_alloc | apply Kd.R_drewN | apply Kd.R_drew)); exact HO108.out) hb)
                    have n2_ := Aside0.mk (Kd.R_below (by (with_reducible repeat (first | apply Kd.R_alloc | apply Kd.R_drewN | apply Kd.R_drew)); exact HO111.out) hb)
                    have n3_ := Aside0.mk (Kd.R_below (by (with_reducible repeat (first | apply Kd.R_alloc | apply Kd.R_drewN | apply Kd.R_drew)); exact HO114.out) hb)
                    have n4_ := Aside0.mk (below_step (by repeat (first | (with_reducible first | exact HB.out | apply below_alloc | apply pw_below_drewN | apply below_drew1) | exact HB.out)) hb)
                    clear HO105
                    clear HO108
                    clear HO111
                    clear HO114
                    clear HB
                    have HO105 := n0_
                    have HO108 := n1_
                    have HO111 := n2_
                    have HO114 := n3_
                    have HB := n4_
                    clear n0_ n1_ n2_ n3_ n4_
                    (try clear hb)
                    (try clear hb2)
                    (try clear hk)
                    (try clear hi)
                    refine hK.out _ _ trivial (fun hHeld => ?_)
                    clear hK K
                    refine norm_ (a' := ?_) ?_ ?_
                    rotate_left
                    · show Act.put _ (some 42) _ = _
                      simp only [Act.put, List.setIfInBounds_toArray, List.set_cons_zero, List.set_cons_succ, i64_w, i32_w]
                      rfl
                    refine one_ (i := 14) (N := some 44) #[true, true, true, true, true, true, true, true, true, true, true, true, true, true, true, false, false, false, false, false, false, false] rfl rfl (one_of HT_.out (by kernel_rfl)) (by decide) (fun K hK => ?_)
                    refine goes_ Tryz.func32 (by kernel_rfl) rfl #[.slice A0 l0.length c0] (by rfl) rfl rfl (by (try simp only [List.map_toArray, List.map_cons, List.map_nil]); first | done | rfl | (simp only [List.length_drop, List.length_take]; rfl)) ?_
                    with_reducible refine (digits_Count.calls _ _ l0 t118 _ (PowTab.below HT.out (by repeat (first | (with_reducible first | exact HB.out | apply below_alloc | apply pw_below_drewN | apply below_drew1) | exact HB.out))) ?side1 ?side2 A24.out).mono ?_
                    (case side1 => repeat (first | exact (Kd.C_below HR0.out HB.out) | (with_reducible refine Kd.C_alloc ?_ _) | (with_reducible refine Kd.C_drewN ?_ _) | (with_reducible refine Kd.C_drew ?_)))
                    (case side2 => exact HC0.out)
                    rintro e w39 ⟨rfl, hb⟩
                    refine ⟨_, rfl, ?_⟩
                    have n0_ := Aside0.mk (Kd.R_below (by (with_reducible repeat (first | apply Kd.R_alloc | apply Kd.R_drewN | apply Kd.R_drew)); exact HO105.out) hb)
                    have n1_ := Aside0.mk (Kd.R_below (by (with_reducible repeat (first | apply Kd.R_alloc | apply Kd.R_drewN | apply Kd.R_drew)); exact HO108.out) hb)
                    have n2_ := Aside0.mk (Kd.R_below (by (with_reducible repeat (first | apply Kd.R_alloc | apply Kd.R_drewN | apply Kd.R_drew)); exact HO111.out) hb)
                    have n3_ := Aside0.mk (Kd.R_below (by (with_reducible repeat (first | apply Kd.R_alloc | apply Kd.R_drewN | apply Kd.R_drew)); exact HO114.out) hb)
                    have n4_ := Aside0.mk (below_step (by repeat (first | (with_reducible first | exact HB.out | apply below_alloc | apply pw_below_drewN | apply below_drew1) | exact HB.out)) hb)
                    clear HO105
                    clear HO108
                    clear HO111
                    clear HO114
                    clear HB
                    have HO105 := n0_
                    have HO108 := n1_
                    have HO111 := n2_
                    have HO114 := n3_
                    have HB := n4_
                    clear n0_ n1_ n2_ n3_ n4_
                    (try clear hb)
                    (try clear hb2)
                    (try clear hk)
                    (try clear hi)
                    refine hK.out _ _ trivial (fun hHeld => ?_)
                    clear hK K
                    refine norm_ (a' := ?_) ?_ ?_
                    rotate_left
                    · show Act.put _ (some 44) _ = _
                      simp only [Act.put, List.setIfInBounds_toArray, List.set_cons_zero, List.set_cons_succ, i64_w, i32_w]
                      rfl
                    refine pure_ (i := 15) (N := some 45) (v := ?_) (a' := ?_) #[true, true, true, true, true, true, true, true, true, true, true, true, true, true, true, true, false, false, false, false, false, false] rfl rfl (any_of HT_.out (by kernel_rfl)) (fun _ _ _ h => h) (Or.inl ⟨by rfl, ?_⟩) ?_ ?_
                    rotate_left
                    · intro w'
                      go_simp
                      with_reducible rfl
                    rotate_left
                    · simp only [Act.put, List.setIfInBounds_toArray, List.set_cons_zero, List.set_cons_succ, i64_w, i32_w]
                      rfl
                    refine pure_ (i := 16) (N := some 46) (v := ?_) (a' := ?_) #[true, true, true, true, true, true, true, true, true, true, true, true, true, true, true, true, true, false, false, false, false, false] rfl rfl (any_of HT_.out (by kernel_rfl)) (fun _ _ _ h => h) (Or.inl ⟨by rfl, ?_⟩) ?_ ?_
                    rotate_left
                    · intro w'
                      go_simp
                      with_reducible rfl
                    rotate_left
                    · simp only [Act.put, List.setIfInBounds_toArray, List.set_cons_zero, List.set_cons_succ, i64_w, i32_w]
                      rfl
                    refine pure_ (i := 17) (N := some 47) (v := ?_) (a' := ?_) #[true, true, true, true, true, true, true, true, true, true, true, true, true, true, true, true, true, true, false, false, false, false] rfl rfl (any_of HT_.out (by kernel_rfl)) (fun _ _ _ h => h) (Or.inl ⟨by rfl, ?_⟩) ?_ ?_
                    rotate_left
                    · intro w'
                      go_simp
                      with_reducible rfl
                    rotate_left
                    · simp only [Act.put, List.setIfInBounds_toArray, List.set_cons_zero, List.set_cons_succ, i64_w, i32_w]
                      rfl
                    refine pure_ (i := 18) (N := some 48) (v := ?_) (a' := ?_) #[true, true, true, true, true, true, true, true, true, true, true, true, true, true, true, true, true, true, true, false, false, false] rfl rfl (any_of HT_.out (by kernel_rfl)) (fun _ _ _ h => h) (Or.inl ⟨by rfl, ?_⟩) ?_ ?_
                    rotate_left
                    · intro w'
                      go_simp
                      with_reducible rfl
                    rotate_left
                    · simp only [Act.put, List.setIfInBounds_toArray, List.set_cons_zero, List.set_cons_succ, i64_w, i32_w]
                      rfl
                    refine one_ (i := 19) (N := some 49) #[true, true, true, true, true, true, true, true, true, true, true, true, true, true, true, true, true, true, true, true, false, false] rfl rfl (one_of HT_.out (by kernel_rfl)) (by decide) (fun K hK => ?_)
                    refine goes_ Tryz.func15 (by kernel_rfl) rfl #[] (by rfl) rfl rfl (by (try simp only [List.map_toArray, List.map_cons, List.map_nil]); first | done | rfl | (simp only [List.length_drop, List.length_take]; rfl)) ?_
                    with_reducible refine (fluxionlaw04_known.calls kj2  t119 _ (PowTab.below HT.out (by repeat (first | (with_reducible first | exact HB.out | apply below_alloc | apply pw_below_drewN | apply below_drew1) | exact HB.out))) A26.out).mono ?_
                    rintro e w40 ⟨rfl, hb⟩
                    refine ⟨_, rfl, ?_⟩
                    have n0_ := Aside0.mk (Kd.R_below (by (with_reducible repeat (first | apply Kd.R_alloc | apply Kd.R_drewN | apply Kd.R_drew)); exact HO105.out) hb)
                    have n1_ := Aside0.mk (Kd.R_below (by (with_reducible repeat (first | apply Kd.R_alloc | apply Kd.R_drewN | apply Kd.R_drew)); exact HO108.out) hb)
                    have n2_ := Aside0.mk (Kd.R_below (by (with_reducible repeat (first | apply Kd.R_alloc | apply Kd.R_drewN | apply Kd.R_drew)); exact HO111.out) hb)
                    have n3_ := Aside0.mk (Kd.R_below (by (with_reducible repeat (first | apply Kd.R_alloc | apply Kd.R_drewN | apply Kd.R_drew)); exact HO114.out) hb)
                    have n4_ := Aside0.mk (below_step (by repeat (first | (with_reducible first | exact HB.out | apply below_alloc | apply pw_below_drewN | apply below_drew1) | exact HB.out)) hb)
                    clear HO105
                    clear HO108
                    clear HO111
                    clear HO114
                    clear HB
                    have HO105 := n0_
                    have HO108 := n1_
                    have HO111 := n2_
                    have HO114 := n3_
                    have HB := n4_
                    clear n0_ n1_ n2_ n3_ n4_
                    (try clear hb)
                    (try clear hb2)
                    (try clear hk)
                    (try clear hi)
                    refine hK.out _ _ trivial (fun hHeld => ?_)
                    clear hK K
                    refine norm_ (a' := ?_) ?_ ?_
                    rotate_left
                    · show Act.put _ (some 49) _ = _
                      simp only [Act.put, List.setIfInBounds_toArray, List.set_cons_zero, List.set_cons_succ, i64_w, i32_w]
                      rfl
                    refine pure_ (i := 20) (N := some 50) (v := ?_) (a' := ?_) #[true, true, true, true, true, true, true, true, true, true, true, true, true, true, true, true, true, true, true, true, true, false] rfl rfl (any_of HT_.out (by kernel_rfl)) (fun _ _ _ h => h) (Or.inl ⟨by rfl, ?_⟩) ?_ ?_
                    rotate_left
                    · intro w'
                      go_simp
                      with_reducible rfl
                    rotate_left
                    · simp only [Act.put, List.setIfInBounds_toArray, List.set_cons_zero, List.set_cons_succ, i64_w, i32_w]
                      rfl
                    refine pure_ (i := 21) (N := some 4) (v := ?_) (a' := ?_) #[true, true, true, true, true, true, true, true, true, true, true, true, true, true, true, true, true, true, true, true, true, true] rfl rfl (any_of HT_.out (by kernel_rfl)) (fun _ _ _ h => h) (Or.inl ⟨by rfl, ?_⟩) ?_ ?_
                    rotate_left
                    · intro w'
                      go_simp
                      with_reducible rfl
                    rotate_left
                    · simp only [Act.put, List.setIfInBounds_toArray, List.set_cons_zero, List.set_cons_succ, i64_w, i32_w]
                      rfl
                    refine done_ (done_of HT_.out (by kernel_rfl)) ?_
                    try go_wp2
                    go_ret
                    exact ⟨by first | rfl | (simp [errW_none, errW_some] <;> rfl) | (simp [*, errW_none, errW_some] <;> rfl), by repeat (first | (with_reducible first | exact HB.out | apply below_alloc | apply pw_below_drewN | apply below_drew1) | exact HB.out)⟩
                  · rw [if_neg c25] at H
                    exact absurd H (by simp)
                · rw [if_neg c22] at H
                  exact absurd H (by simp)
              · rw [if_neg c21] at H
                exact absurd H (by simp)
            · rw [if_neg c20] at H
              exact absurd H (by simp)
          · rw [if_neg c19] at H
            exact absurd H (by simp)
        · rw [if_neg c18] at H
          exact absurd H (by simp)

/-- THE ONE PURE STATEMENT of fluxionlaw04_DigitsGrows: yours. -/
def fluxionlaw04_DigitsGrows.Pure : Prop := ∀ (l0 : List Int) (a1 : Int), l0.length ≤ maxLen → l0.length * 4 ≤ 140737488351232 → (∀ x ∈ l0, (Lit.int .u32 x).wf = true) → (Lit.int .i64 a1).wf = true → ∃ k, fluxionlaw04_DigitsGrows.f k l0 a1 = some true
end Go.Proofs.YthppjdmkinbccaaGreatDoor.Print

/- Chapter 04: the digits of two naturals, held against one another; the chapter's rows. -/
namespace Go.Proofs.YthppjdmkinbccaaGreatDoor.Base
open Go.RowKit Go.Proofs.YthppjdmkinbccaaGreatDoorW.PrintWords Go.Proofs.YthppjdmkinbccaaGreatDoorW.PrintLast Go.Proofs.YthppjdmkinbccaaGreatDoor.Print
set_option linter.unusedVariables false
set_option linter.unusedSimpArgs false

set_option maxRecDepth 100000 in
theorem known_ev : fluxionlaw04_known.f 3 = some true := by decide +kernel
theorem known_evK : ∀ k, 3 ≤ k → fluxionlaw04_known.f k = some true := by
  intro k hk
  induction k with
  | zero => omega
  | succ n ih =>
    rcases Nat.lt_or_ge n 3 with h | h
    · obtain rfl : n = 2 := by omega
      exact known_ev
    · exact fluxionlaw04_known.mono n true (ih h)
end Go.Proofs.YthppjdmkinbccaaGreatDoor.Base

/- Written by a program of this session (wip/tools/myprint.py): Lean functions with the same answers as Go functions of the program, and proofs that the Go code comes to them; no condition beyond those written. -/
namespace Go.Proofs.YthppjdmkinbccaaGreatDoor.Print
open Go.RowKit Go.Proofs.YthppjdmkinbccaaGreatDoorW.PrintWords Go.Proofs.YthppjdmkinbccaaGreatDoorW.PrintLast Go.Proofs.YthppjdmkinbccaaGreatDoorW.PrintMore
attribute [local go_sem] max2_int min2_int max_two min_two max_three min_three max_four min_four   -- for this text's walks alone
set_option linter.unusedVariables false
set_option linter.unusedSimpArgs false

/-! ### fluxionref01_digit: function 83 -/
def fluxionref01_digit.f (l0 : List Int) (a1 : Int) : Option (Int) := if a1 < (l0.length : Int) then (if 0 ≤ a1 then (some (rd l0 a1)) else (none)) else (some 0)
/-! ### fluxionref01_Add: function 53 -/
mutual
def fluxionref01_Add.l0 : Nat → List Int → List Int → List Int → Int → Int → Option (List Int)
  | 0, _, _, _, _, _ => none
  | k + 1, x0, x1, x5, x6, x7 => if x7 < (x0.length : Int) then (fluxionref01_Add.j1 k x0 x1 x5 x6 x7 true) else (if x7 < (x1.length : Int) then (fluxionref01_Add.j1 k x0 x1 x5 x6 x7 true) else (fluxionref01_Add.j1 k x0 x1 x5 x6 x7 (decide (x6 > 0))))
def fluxionref01_Add.j1 : Nat → List Int → List Int → List Int → Int → Int → Bool → Option (List Int)
  | 0, _, _, _, _, _, _ => none
  | k + 1, x0, x1, x5, x6, x7, x22 => if x22 = true then ((fluxionref01_digit.f x0 x7).bind fun t102 => ((fluxionref01_digit.f x1 x7).bind fun t103 => (if x5.length < 17592186044416 then (fluxionref01_Add.l0 k x0 x1 (x5 ++ [Int.tmod (wrap64 ((wrap64 (t102 + t103)) + x6)) 10000]) (wrap64 (Int.tdiv (wrap64 ((wrap64 (t102 + t103)) + x6)) 10000)) (wrap64 (x7 + 1))) else (none)))) else (some x5)
end
/-! ### fluxionref01_trim: function 82 -/
/-! ### fluxionref01_Times: function 54 -/
end Go.Proofs.YthppjdmkinbccaaGreatDoor.Print

/- Written by a program of this session (wip/tools/myprint.py): Lean functions with the same answers as Go functions of the program, and proofs that the Go code comes to them; no condition beyond those written. -/
namespace Go.Proofs.YthppjdmkinbccaaGreatDoor.Print
open Go.RowKit Go.Proofs.YthppjdmkinbccaaGreatDoorW.PrintWords Go.Proofs.YthppjdmkinbccaaGreatDoorW.PrintLast Go.Proofs.YthppjdmkinbccaaGreatDoorW.PrintMore
attribute [local go_sem] max2_int min2_int max_two min_two max_three min_three max_four min_four   -- for this text's walks alone
set_option linter.unusedVariables false
set_option linter.unusedSimpArgs false

/-! ### fluxionref01_Small: function 55 -/
/-! ### fluxionref01_Of: function 25 -/
end Go.Proofs.YthppjdmkinbccaaGreatDoor.Print

/- Written by a program of this session (wip/tools/myprint.py): Lean functions with the same answers as Go functions of the program, and proofs that the Go code comes to them; no condition beyond those written. -/
namespace Go.Proofs.YthppjdmkinbccaaGreatDoor.Print
open Go.RowKit Go.Proofs.YthppjdmkinbccaaGreatDoorW.PrintWords Go.Proofs.YthppjdmkinbccaaGreatDoorW.PrintLast Go.Proofs.YthppjdmkinbccaaGreatDoorW.PrintMore
attribute [local go_sem] max2_int min2_int max_two min_two max_three min_three max_four min_four   -- for this text's walks alone
set_option linter.unusedVariables false
set_option linter.unusedSimpArgs false

/-! ### fluxionref01_Cmp: function 27 -/
/-! ### fluxionref01_Canonical: function 38 -/
/-! ### fluxionref01_Is: function 14 -/
/-! ### fluxionref01_Short: function 52 -/
/-! ### fluxionref01_Bits: function 24 -/
end Go.Proofs.YthppjdmkinbccaaGreatDoor.Print

/- Plain laws on the document's naturals (digits of 10000): what its Add, Times, Small, Of, Cmp and Is come to, from some number of rounds on. No condition beyond those written. -/
namespace Go.Proofs.YthppjdmkinbccaaGreatDoor.Ref
open Go.RowKit Go.Proofs.YthppjdmkinbccaaGreatDoorW.PrintWords Go.Proofs.YthppjdmkinbccaaGreatDoorW.PrintLast Go.Proofs.YthppjdmkinbccaaGreatDoor.Print Go.Proofs.YthppjdmkinbccaaGreatDoor.Base
set_option linter.unusedVariables false
set_option linter.unusedSimpArgs false

theorem w64 {x : Int} (h0 : -9223372036854775808 ≤ x) (h1 : x ≤ 9223372036854775807) : wrap64 x = x := by
  unfold wrap64; omega
theorem digB_step {B v : Nat} (hB : 2 ≤ B) (hv : 0 < v) : digB B v = ((v % B : Nat) : Int) :: digB B (v / B) := by
  have hm := Nat.mod_lt v (show 0 < B by omega)
  refine GoodB.inj (digB_good B hB v) ⟨DigB.cons (by omega) (by omega) (digB_good B hB _).dig, fun c => ?_⟩ ?_
  · cases hr : digB B (v / B) with
    | nil =>
      rw [hr] at c
      have h1 : ((v % B : Nat) : Int) = 0 := by simpa using c
      have h2 : v / B = 0 := by have := digB_val B hB (v / B); rw [hr] at this; exact this.symm
      have := Nat.mod_add_div v B
      rw [h2] at this; omega
    | cons e s =>
      rw [hr, List.getLast?_cons_cons, ← hr] at c
      exact (digB_good B hB _).can c
  · rw [digB_val B hB, valB_cons, digB_val B hB, Int.toNat_natCast, Nat.mod_add_div]
theorem limb_lt {l : List Int} (h : DigB 10000 l) (i : Nat) : limbN l i < 10000 := limbN_lt (by decide) h i
/-! ### Add -/
def addF (a b : List Int) (i : Nat) : Nat := limbN a i + limbN b i
theorem addF_small {a b : List Int} (da : DigB 10000 a) (db : DigB 10000 b) (i : Nat) : addF a b i ≤ 2 * (10000 - 1) := by
  have := limb_lt da i; have := limb_lt db i; unfold addF; omega
/-! ### trim -/
/-! ### Times -/
/-! ### Small -/
/-! ### Of -/
theorem valB_drop {B : Nat} {l : List Int} {j : Nat} (h : j < l.length) : valB B (l.drop j) = limbN l j + B * valB B (l.drop (j + 1)) := by
  rw [List.drop_eq_getElem_cons h, valB_cons]
  simp [limbN, h]
/-! ### Cmp -/
/-! ### Is -/
end Go.Proofs.YthppjdmkinbccaaGreatDoor.Ref

/- Written by a program of this session (wip/tools/myprint.py): Lean functions with the same answers as Go functions of the program, and proofs that the Go code comes to them; no condition beyond those written. -/
namespace Go.Proofs.YthppjdmkinbccaaGreatDoor.Print
open Go.RowKit Go.Proofs.YthppjdmkinbccaaGreatDoorW.PrintWords Go.Proofs.YthppjdmkinbccaaGreatDoorW.PrintLast Go.Proofs.YthppjdmkinbccaaGreatDoorW.PrintMore
attribute [local go_sem] max2_int min2_int max_two min_two max_three min_three max_four min_four   -- for this text's walks alone
set_option linter.unusedVariables false
set_option linter.unusedSimpArgs false

/-! ### fluxionref02_trim: function 94 -/
/-! ### fluxionref02_digit: function 95 -/
/-! ### fluxionref01_Sub: function 96 -/
end Go.Proofs.YthppjdmkinbccaaGreatDoor.Print

/- Written by a program of this session (wip/tools/myprint.py): Lean functions with the same answers as Go functions of the program, and proofs that the Go code comes to them; no condition beyond those written. -/
namespace Go.Proofs.YthppjdmkinbccaaGreatDoor.Print
open Go.RowKit Go.Proofs.YthppjdmkinbccaaGreatDoorW.PrintWords Go.Proofs.YthppjdmkinbccaaGreatDoorW.PrintLast Go.Proofs.YthppjdmkinbccaaGreatDoorW.PrintMore
attribute [local go_sem] max2_int min2_int max_two min_two max_three min_three max_four min_four   -- for this text's walks alone
set_option linter.unusedVariables false
set_option linter.unusedSimpArgs false

/-! ### fluxionref02_DivMod: function 69 -/
/-! ### fluxionref02_Gcd: function 68 -/
/-! ### fluxionref03_Make: function 40 -/
end Go.Proofs.YthppjdmkinbccaaGreatDoor.Print

/- Written by a program of this session (wip/tools/myprint.py): Lean functions with the same answers as Go functions of the program, and proofs that the Go code comes to them; no condition beyond those written. -/
namespace Go.Proofs.YthppjdmkinbccaaGreatDoor.Print
open Go.RowKit Go.Proofs.YthppjdmkinbccaaGreatDoorW.PrintWords Go.Proofs.YthppjdmkinbccaaGreatDoorW.PrintLast Go.Proofs.YthppjdmkinbccaaGreatDoorW.PrintMore
attribute [local go_sem] max2_int min2_int max_two min_two max_three min_three max_four min_four   -- for this text's walks alone
set_option linter.unusedVariables false
set_option linter.unusedSimpArgs false

/-! ### fluxionref03_Of: function 18 -/
/-! ### fluxionref03_Is: function 22 -/
/-! ### fluxionref04_four: function 61 -/
def fluxionref04_four.f (a0 : Int) : Option (ByteArray) := if 0 ≤ (wrap64 (Int.tdiv a0 1000)) then (if (wrap64 (Int.tdiv a0 1000)) ≤ (wrap64 ((wrap64 (Int.tdiv a0 1000)) + 1)) then (if (wrap64 ((wrap64 (Int.tdiv a0 1000)) + 1)) ≤ 10 then (if 0 ≤ (Int.tmod (wrap64 (Int.tdiv a0 100)) 10) then (if (Int.tmod (wrap64 (Int.tdiv a0 100)) 10) ≤ (wrap64 ((Int.tmod (wrap64 (Int.tdiv a0 100)) 10) + 1)) then (if (wrap64 ((Int.tmod (wrap64 (Int.tdiv a0 100)) 10) + 1)) ≤ 10 then (if ((⟨#[48, 49, 50, 51, 52, 53, 54, 55, 56, 57]⟩ : ByteArray).extract ((wrap64 (Int.tdiv a0 1000)) : Int).toNat ((wrap64 ((wrap64 (Int.tdiv a0 1000)) + 1)) : Int).toNat).size + ((⟨#[48, 49, 50, 51, 52, 53, 54, 55, 56, 57]⟩ : ByteArray).extract ((Int.tmod (wrap64 (Int.tdiv a0 100)) 10) : Int).toNat ((wrap64 ((Int.tmod (wrap64 (Int.tdiv a0 100)) 10) + 1)) : Int).toNat).size ≤ 9223372036854775807 then (if 0 ≤ (Int.tmod (wrap64 (Int.tdiv a0 10)) 10) then (if (Int.tmod (wrap64 (Int.tdiv a0 10)) 10) ≤ (wrap64 ((Int.tmod (wrap64 (Int.tdiv a0 10)) 10) + 1)) then (if (wrap64 ((Int.tmod (wrap64 (Int.tdiv a0 10)) 10) + 1)) ≤ 10 then (if (((⟨#[48, 49, 50, 51, 52, 53, 54, 55, 56, 57]⟩ : ByteArray).extract ((wrap64 (Int.tdiv a0 1000)) : Int).toNat ((wrap64 ((wrap64 (Int.tdiv a0 1000)) + 1)) : Int).toNat) ++ ((⟨#[48, 49, 50, 51, 52, 53, 54, 55, 56, 57]⟩ : ByteArray).extract ((Int.tmod (wrap64 (Int.tdiv a0 100)) 10) : Int).toNat ((wrap64 ((Int.tmod (wrap64 (Int.tdiv a0 100)) 10) + 1)) : Int).toNat)).size + ((⟨#[48, 49, 50, 51, 52, 53, 54, 55, 56, 57]⟩ : ByteArray).extract ((Int.tmod (wrap64 (Int.tdiv a0 10)) 10) : Int).toNat ((wrap64 ((Int.tmod (wrap64 (Int.tdiv a0 10)) 10) + 1)) : Int).toNat).size ≤ 9223372036854775807 then (if 0 ≤ (Int.tmod a0 10) then (if (Int.tmod a0 10) ≤ (wrap64 ((Int.tmod a0 10) + 1)) then (if (wrap64 ((Int.tmod a0 10) + 1)) ≤ 10 then (if ((((⟨#[48, 49, 50, 51, 52, 53, 54, 55, 56, 57]⟩ : ByteArray).extract ((wrap64 (Int.tdiv a0 1000)) : Int).toNat ((wrap64 ((wrap64 (Int.tdiv a0 1000)) + 1)) : Int).toNat) ++ ((⟨#[48, 49, 50, 51, 52, 53, 54, 55, 56, 57]⟩ : ByteArray).extract ((Int.tmod (wrap64 (Int.tdiv a0 100)) 10) : Int).toNat ((wrap64 ((Int.tmod (wrap64 (Int.tdiv a0 100)) 10) + 1)) : Int).toNat)) ++ ((⟨#[48, 49, 50, 51, 52, 53, 54, 55, 56, 57]⟩ : ByteArray).extract ((Int.tmod (wrap64 (Int.tdiv a0 10)) 10) : Int).toNat ((wrap64 ((Int.tmod (wrap64 (Int.tdiv a0 10)) 10) + 1)) : Int).toNat)).size + ((⟨#[48, 49, 50, 51, 52, 53, 54, 55, 56, 57]⟩ : ByteArray).extract ((Int.tmod a0 10) : Int).toNat ((wrap64 ((Int.tmod a0 10) + 1)) : Int).toNat).size ≤ 9223372036854775807 then (some (((((⟨#[48, 49, 50, 51, 52, 53, 54, 55, 56, 57]⟩ : ByteArray).extract ((wrap64 (Int.tdiv a0 1000)) : Int).toNat ((wrap64 ((wrap64 (Int.tdiv a0 1000)) + 1)) : Int).toNat) ++ ((⟨#[48, 49, 50, 51, 52, 53, 54, 55, 56, 57]⟩ : ByteArray).extract ((Int.tmod (wrap64 (Int.tdiv a0 100)) 10) : Int).toNat ((wrap64 ((Int.tmod (wrap64 (Int.tdiv a0 100)) 10) + 1)) : Int).toNat)) ++ ((⟨#[48, 49, 50, 51, 52, 53, 54, 55, 56, 57]⟩ : ByteArray).extract ((Int.tmod (wrap64 (Int.tdiv a0 10)) 10) : Int).toNat ((wrap64 ((Int.tmod (wrap64 (Int.tdiv a0 10)) 10) + 1)) : Int).toNat)) ++ ((⟨#[48, 49, 50, 51, 52, 53, 54, 55, 56, 57]⟩ : ByteArray).extract ((Int.tmod a0 10) : Int).toNat ((wrap64 ((Int.tmod a0 10) + 1)) : Int).toNat))) else (none)) else (none)) else (none)) else (none)) else (none)) else (none)) else (none)) else (none)) else (none)) else (none)) else (none)) else (none)) else (none)) else (none)) else (none)
end Go.Proofs.YthppjdmkinbccaaGreatDoor.Print

/- Written by a program of this session (wip/tools/myprint.py): Lean functions with the same answers as Go functions of the program, and proofs that the Go code comes to them; no condition beyond those written. -/
namespace Go.Proofs.YthppjdmkinbccaaGreatDoor.Print
open Go.RowKit Go.Proofs.YthppjdmkinbccaaGreatDoorW.PrintWords Go.Proofs.YthppjdmkinbccaaGreatDoorW.PrintLast Go.Proofs.YthppjdmkinbccaaGreatDoorW.PrintMore
attribute [local go_sem] max2_int min2_int max_two min_two max_three min_three max_four min_four   -- for this text's walks alone
set_option linter.unusedVariables false
set_option linter.unusedSimpArgs false

/-! ### fluxionref04_Nat: function 31 -/
mutual
def fluxionref04_Nat.l0 : Nat → List Int → ByteArray → Int → Option (ByteArray)
  | 0, _, _, _ => none
  | k + 1, x0, x3, x4 => if x4 ≥ 0 then (if 0 ≤ x4 then (if x4 < (x0.length : Int) then ((fluxionref04_four.f (rd x0 x4)).bind fun t256 => (if x3.size + t256.size ≤ 9223372036854775807 then (fluxionref04_Nat.l0 k x0 (x3 ++ t256) (wrap64 (x4 - 1))) else (none))) else (none)) else (none)) else (fluxionref04_Nat.l1 k x3 0)
def fluxionref04_Nat.l1 : Nat → ByteArray → Int → Option (ByteArray)
  | 0, _, _ => none
  | k + 1, x3, x5 => if 0 ≤ x5 then (if x5 < (x3.size : Int) then (if (bt x3 x5) = 48 then (fluxionref04_Nat.l1 k x3 (wrap64 (x5 + 1))) else (if x5 ≤ (x3.size : Int) then (some (x3.extract (x5 : Int).toNat x3.size)) else (none))) else (none)) else (none)
end
/-! ### fluxionref04_natural: function 36 -/
end Go.Proofs.YthppjdmkinbccaaGreatDoor.Print

/- Written by a program of this session (wip/tools/myprint.py): Lean functions with the same answers as Go functions of the program, and proofs that the Go code comes to them; no condition beyond those written. -/
namespace Go.Proofs.YthppjdmkinbccaaGreatDoor.Print
open Go.RowKit Go.Proofs.YthppjdmkinbccaaGreatDoorW.PrintWords Go.Proofs.YthppjdmkinbccaaGreatDoorW.PrintLast Go.Proofs.YthppjdmkinbccaaGreatDoorW.PrintMore
attribute [local go_sem] max2_int min2_int max_two min_two max_three min_three max_four min_four   -- for this text's walks alone
set_option linter.unusedVariables false
set_option linter.unusedSimpArgs false

/-! ### fluxionref04_number: function 37 -/
/-! ### fluxionref04_ParseNat: function 13 -/
/-! ### fluxionref04_Rat: function 17 -/
end Go.Proofs.YthppjdmkinbccaaGreatDoor.Print

/- Plain laws on the document's naturals: Short, Bits, the digits of a natural, and what is read of digits. No condition beyond those written. -/
namespace Go.Proofs.YthppjdmkinbccaaGreatDoor.Ref
open Go.RowKit Go.Proofs.YthppjdmkinbccaaGreatDoorW.PrintWords Go.Proofs.YthppjdmkinbccaaGreatDoorW.PrintLast Go.Proofs.YthppjdmkinbccaaGreatDoor.Print Go.Proofs.YthppjdmkinbccaaGreatDoor.Base
set_option linter.unusedVariables false
set_option linter.unusedSimpArgs false

/-! ### a division from the top -/
structure Quot (B V : Nat) (l out : List Int) (i : Nat) : Prop where
  len : out.length = l.length
  dig : DigB B out
  low : ∀ t, t < i → limbN out t = 0
  val : valB B out = B ^ i * (valB B (l.drop i) / V)
theorem Quot.start {B V : Nat} (hB : 0 < B) (l : List Int) : Quot B V l (List.replicate l.length 0) l.length := by
  refine ⟨by simp, DigB.zeros B hB _, fun t _ => ?_, by rw [valB_zeros, List.drop_length, valB_nil, Nat.zero_div, Nat.mul_zero]⟩
  unfold limbN
  rcases Nat.lt_or_ge t l.length with c | c
  · simp [c]
  · simp [Nat.not_lt.2 c]
theorem quot_step {B V d X : Nat} (hV : 0 < V) (hd : d < B) : (d + B * X) / V = B * (X / V) + (X % V * B + d) / V ∧ (d + B * X) % V = (X % V * B + d) % V ∧ (X % V * B + d) / V < B := by
  have e : d + B * X = (X % V * B + d) + V * (B * (X / V)) := by
    have h := Nat.mod_add_div X V
    have h2 : B * X = B * (X % V) + B * (V * (X / V)) := by rw [← Nat.mul_add, h]
    rw [h2, Nat.mul_left_comm B V, Nat.mul_comm B (X % V)]; omega
  refine ⟨by rw [e, Nat.add_mul_div_left _ _ hV]; omega, by rw [e, Nat.add_mul_mod_self_left], ?_⟩
  refine Nat.div_lt_of_lt_mul ?_
  have h1 : X % V + 1 ≤ V := Nat.mod_lt X hV
  have h2 := Nat.mul_le_mul_right B h1
  rw [Nat.add_mul, Nat.one_mul] at h2
  omega
theorem Quot.next {B V : Nat} {l out : List Int} {i : Nat} (h : Quot B V l out (i + 1)) (hB : 0 < B) (hV : 0 < V) (hl : DigB B l) (hi : i < l.length) {q : Int}
    (hq : q = (((valB B (l.drop (i + 1)) % V * B + limbN l i) / V : Nat) : Int)) : Quot B V l (out.set i q) i := by
  obtain ⟨h1, h2, h3⟩ := quot_step (X := valB B (l.drop (i + 1))) hV (limbN_lt hB hl i)
  have hio : i < out.length := by rw [h.len]; exact hi
  refine ⟨by rw [List.length_set]; exact h.len, fun x hx => ?_, fun t ht => ?_, ?_⟩
  · rcases List.mem_or_eq_of_mem_set hx with hx | hx
    · exact h.dig x hx
    · rw [hx, hq]; exact ⟨Int.natCast_nonneg _, Int.ofNat_lt.2 h3⟩
  · have := h.low t (by omega)
    unfold limbN at this ⊢
    simpa [show i ≠ t by omega] using this
  · have hs := valB_set (B := B) out i hio q
    have h0 := h.low i (by omega)
    unfold limbN at h0
    rw [h0, Nat.mul_zero, Nat.add_zero, h.val, hq, Int.toNat_natCast] at hs
    rw [hq, hs, valB_drop hi, h1, Nat.pow_succ, Nat.mul_add, Nat.mul_assoc]
theorem Quot.done {V : Nat} {l out : List Int} (h : Quot 10000 V l out 0) : valB 10000 out = valB 10000 l / V := by
  have := h.val
  rwa [Nat.pow_zero, Nat.one_mul, List.drop_zero] at this
theorem Quot.rest {B V : Nat} {l : List Int} {i : Nat} (hB : 0 < B) (hV : 0 < V) (hl : DigB B l) (hi : i < l.length) : valB B (l.drop i) % V = (valB B (l.drop (i + 1)) % V * B + limbN l i) % V := by
  rw [valB_drop hi]; exact (quot_step hV (limbN_lt hB hl i)).2.1

/-! ### Short -/
/-! ### Bits -/
def nb (x : Nat) : Nat := if x = 0 then 0 else x.log2 + 1
/-! ### the digits of a natural -/
def bA (l : List UInt8) : ByteArray := ⟨l.toArray⟩
theorem piece (d : Nat) (h : d < 10) : (⟨#[48, 49, 50, 51, 52, 53, 54, 55, 56, 57]⟩ : ByteArray).extract d (d + 1) = bA [UInt8.ofNat (48 + d)] := by
  rcases (by omega : d = 0 ∨ d = 1 ∨ d = 2 ∨ d = 3 ∨ d = 4 ∨ d = 5 ∨ d = 6 ∨ d = 7 ∨ d = 8 ∨ d = 9) with rfl | rfl | rfl | rfl | rfl | rfl | rfl | rfl | rfl | rfl <;> rfl
theorem bA_size (l : List UInt8) : (bA l).size = l.length := rfl
theorem bA_append (a b : List UInt8) : bA a ++ bA b = bA (a ++ b) := by
  refine Go.WideShapes.bytes_inj ?_
  rw [ByteArray.data_append, Array.toList_append]; simp [bA]
/-! ### reading -/
end Go.Proofs.YthppjdmkinbccaaGreatDoor.Ref

/- Plain laws of chapter 04: what the program reads of digits, held against the document's. -/
namespace Go.Proofs.YthppjdmkinbccaaGreatDoor.Ref
open Go.RowKit Go.Proofs.YthppjdmkinbccaaGreatDoorW.PrintWords Go.Proofs.YthppjdmkinbccaaGreatDoorW.PrintLast Go.Proofs.YthppjdmkinbccaaGreatDoor.Print Go.Proofs.YthppjdmkinbccaaGreatDoor.Base
set_option linter.unusedVariables false
set_option linter.unusedSimpArgs false

theorem known_Ev : Ev (fun k => fluxionlaw04_known.f k) true := ⟨3, known_evK⟩
theorem wf_ok {l : List Int} (hl : l.length ≤ 1048576) (h : ∀ x ∈ l, (Lit.int .u32 x).wf = true) : okN l = true :=
  okN_iff.2 ⟨hl, fun d hd => by
    have := h d hd
    simp [Lit.wf, IntKind.min, IntKind.max, IntKind.signed, IntKind.bits] at this
    omega⟩
theorem nat_f {l : List Int} (h : okN l = true) : digits_Nat.f l = some (decB (valB 4294967296 l)) := by unfold digits_Nat.f; rw [if_pos h]
theorem count_f {l : List Int} (h : okN l = true) : digits_Count.f l = some ((decB (valB 4294967296 l)).size : Int) := by unfold digits_Count.f; rw [nat_f h]; rfl
theorem cmp_f {a b : List Int} (h : okN a = true) (k : okN b = true) : nat_Cmp.f a b = some (cmpN (valB 4294967296 a) (valB 4294967296 b)) := by unfold nat_Cmp.f; rw [if_pos ⟨h, k⟩]
theorem decB_size (u : Nat) : (decB u).size = (Lib.decDigits u).length := rfl
theorem bA_list (l : List UInt8) : (bA l).data.toList = l := by simp [bA]
theorem bA_toList (l : List UInt8) : (bA l).toList = l := by rw [ByteArray.toList_eq]; exact bA_list l
theorem bA_dec (v : Nat) : decB v = bA (Lib.decDigits v) := rfl
theorem dec_len {x n : Nat} (h : x < 4294967296 ^ n) : (Lib.decDigits x).length ≤ 10 * n + 1 := by
  refine (padD_dec (10 * n) x (Nat.lt_of_lt_of_le h ?_)).1
  rw [Nat.pow_succ, Nat.pow_mul]
  exact Nat.le_trans (Nat.pow_le_pow_left (by decide) n) (Nat.le_mul_of_pos_right _ (by decide))
theorem okD {v m : Nat} (h : v < 4294967296 ^ m) (hm : m ≤ 1000000) : okN (digB 4294967296 v) = true := okN_digB h (by omega)
theorem valD (v : Nat) : valB 4294967296 (digB 4294967296 v) = v := digB_val _ (by decide) v
end Go.Proofs.YthppjdmkinbccaaGreatDoor.Ref

/- The plain law of DigitsGrows. -/
namespace Go.Proofs.YthppjdmkinbccaaGreatDoor.Pure
open Go.RowKit Go.Proofs.YthppjdmkinbccaaGreatDoorW.PrintWords Go.Proofs.YthppjdmkinbccaaGreatDoorW.PrintLast Go.Proofs.YthppjdmkinbccaaGreatDoor.Print Go.Proofs.YthppjdmkinbccaaGreatDoor.Base Go.Proofs.YthppjdmkinbccaaGreatDoor.Ref
set_option linter.unusedVariables false
set_option linter.unusedSimpArgs false

theorem of_f {d : Nat} (h : d < 4294967296) : nat_Of.f (d : Int) = some (digB 4294967296 d) := by
  unfold nat_Of.f; rw [if_pos (by omega), Int.toNat_natCast]
theorem DigitsGrows : fluxionlaw04_DigitsGrows.Pure := by
  intro l0 a1 h1 h2 w0 w1
  refine Ev.rounds (r := true) ?_
  have hk : Ev (fun k => (fluxionlaw04_known.f k).bind fun t => some t) true := Ev.bind known_Ev (Ev.now _)
  have kn : Ev (fun k => fluxionlaw04_DigitsGrows.j0 k l0 a1 true) true := Ev.step (fun k => rfl) hk
  by_cases c0 : (l0.length : Int) > 40
  · refine Ev.congr (fun k => ?_) kn
    unfold fluxionlaw04_DigitsGrows.f; rw [if_pos c0]
  · by_cases c1 : a1 < 0
    · refine Ev.congr (fun k => ?_) kn
      unfold fluxionlaw04_DigitsGrows.f; rw [if_neg c0, if_pos c1]
    · by_cases c2 : a1 > 9
      · refine Ev.congr (fun k => ?_) kn
        unfold fluxionlaw04_DigitsGrows.f; rw [if_neg c0, if_neg c1, if_pos c2]
      · have o0 := Ref.wf_ok (by omega) w0
        obtain ⟨d, rfl⟩ : ∃ d : Nat, a1 = (d : Int) := ⟨a1.toNat, by omega⟩
        have hd : d < 10 := by omega
        have hX := valB_lt 4294967296 l0 (okN_iff.1 o0).2
        have hc := Ref.cmp_f o0 (show okN [] = true from rfl)
        rw [show valB 4294967296 [] = 0 from rfl] at hc
        have e0 : ∀ k, fluxionlaw04_DigitsGrows.f k l0 (d : Int) = fluxionlaw04_DigitsGrows.j0 k l0 (d : Int) (cmpN (valB 4294967296 l0) 0 == 0) := by
          intro k
          unfold fluxionlaw04_DigitsGrows.f
          rw [if_neg c0, if_neg c1, if_neg c2, hc, Option.bind_some]
        by_cases hz : valB 4294967296 l0 = 0
        · refine Ev.congr (fun k => ?_) kn
          rw [e0, hz]; rfl
        · have hm : nat_MulC.f l0 (digB 4294967296 10) = some (digB 4294967296 (valB 4294967296 l0 * 10)) := by
            have l10 : (digB 4294967296 10).length ≤ 1 := digB_len (n := 1) (by decide) (by decide)
            unfold nat_MulC.f
            rw [if_pos ⟨o0, okD (m := 1) (by decide) (by decide), by omega⟩, valD]
          have hX1 : valB 4294967296 l0 * 10 < 4294967296 ^ (l0.length + 1) := by
            rw [Nat.pow_succ]; exact Nat.lt_of_lt_of_le (Nat.mul_lt_mul_of_pos_right hX (by decide)) (Nat.mul_le_mul_left _ (by decide))
          have hX2 : valB 4294967296 l0 * 10 + d < 4294967296 ^ (l0.length + 1) := by
            rw [Nat.pow_succ]
            have := Nat.mul_le_mul_right 4294967296 (show valB 4294967296 l0 + 1 ≤ 4294967296 ^ l0.length from hX)
            omega
          have hd2 : d < 4294967296 ^ (l0.length + 1) := by
            have : 4294967296 ^ 1 ≤ 4294967296 ^ (l0.length + 1) := Nat.pow_le_pow_right (by decide) (by omega)
            omega
          have ha := add_f hX1 hd2 (by omega)
          have oD := okD hX2 (by omega)
          have hn := Ref.nat_f oD
          have hcn := count_f oD
          rw [valD] at hn hcn
          have hg : Lib.decDigits (valB 4294967296 l0 * 10 + d) = Lib.decDigits (valB 4294967296 l0) ++ [UInt8.ofNat (48 + d)] := by
            rw [Nat.mul_comm]; exact dec_grow _ _ (by omega) hd
          have hl := dec_len hX
          refine Ev.congr e0 ?_
          rw [show (cmpN (valB 4294967296 l0) 0 == 0) = false by unfold cmpN; rw [if_neg (by omega), if_pos (by omega)]; rfl]
          refine Ev.step (fun k => ?_) hk
          have q1 : wrap64 ((d : Int) + 1) = ((d + 1 : Nat) : Int) := by rw [w64 (by omega) (by omega)]; rfl
          simp only [fluxionlaw04_DigitsGrows.j0]
          rw [if_neg (by decide), show (10 : Int) = ((10 : Nat) : Int) from rfl, of_f (by decide), Option.bind_some, hm, Option.bind_some, u64_id (by omega), of_f (by omega), Option.bind_some, ha, Option.bind_some, hn, Option.bind_some, Ref.nat_f o0, Option.bind_some, q1, Int.toNat_natCast, Int.toNat_natCast, piece d hd,
            if_pos (by omega), if_pos (by omega), if_pos (by omega), bA_dec, bA_dec, bA_append, bA_toList, bA_toList, if_pos (by rw [bA_size, bA_size]; simp; omega), if_pos hg, hcn, Option.bind_some, count_f o0, Option.bind_some, decB_size, decB_size, hg,
            if_pos (by rw [List.length_append, w64 (by omega) (by omega)]; rfl)]
end Go.Proofs.YthppjdmkinbccaaGreatDoor.Pure

/- DigitsGrows: the law's tied card; the listed package variables hold what the program's text lays. -/
namespace Go.Proofs.YthppjdmkinbccaaGreatDoor.digitsGrows
open Go.ChangeShapes Go.WideShapes Go.ChangeAt Go.RowKit
open Go.ChangeMaps (open_string shut_string)
set_option linter.unusedVariables false
theorem own : ownKnob Tryz.prog.godebug = none := by kernel_rfl
theorem laidOut : laidOutB Tryz.prog = true := by kernel_rfl
def IsRow (k : IntKind) (w : World) (a : Option Addr) (len cap : Nat) (zs : List Int) : Prop :=
  (a = none ∧ len = 0 ∧ cap = 0 ∧ zs = []) ∨
  ∃ x, a = some x ∧ len ≤ cap ∧ cap ≤ maxLen ∧ zs.length = cap ∧ (∀ i, i < zs.length → w.cell? (x.add i) = some (.int k (zs.getD i 0))) ∧ ∀ n ∈ zs, (Lit.int k n).wf = true
noncomputable abbrev W0 (os : Os) : World := World.laidAll Tryz.prog os Rows.digitsGrowsRow.laid
theorem laid_met (os : Os) (args : Array Value) : laidMet Tryz.prog Rows.digitsGrowsRow.laid ((W0 os).forCall (fun _ _ => 0) ⟨#[], args, []⟩).memory :=
  laidMet_laidAll args (by kernel_rfl) (by kernel_rfl)
theorem witness_row (os : Os) {H : Type} (enc : TypeId × Value → H) :
    (OpenSpec.ofChange Rows.digitsGrowsSpec).preRow enc Tryz.prog Tryz.f11 Rows.digitsGrowsRow.domain false Rows.digitsGrowsRow.laid ((W0 os).forCall (fun _ _ => 0) ⟨#[], #[Value.slice none 0 0, .int .i64 0], []⟩).memory #[Value.slice none 0 0, .int .i64 0] := by
  have hw : (DataW.whole enc Tryz.prog ((W0 os).forCall (fun _ _ => 0) ⟨#[], #[Value.slice none 0 0, .int .i64 0], []⟩).memory Tryz.f11.params.toList (OpenSpec.ofChange Rows.digitsGrowsSpec).vars false #[Value.slice none 0 0, .int .i64 0].toList 8).map (fun x => (x.1, x.2.1)) =
      some ([.nil, .lit (.int .i64 0)], []) := by kernel_rfl
  obtain ⟨⟨x1, x2, x3⟩, hx, hx1⟩ := Option.map_eq_some_iff.1 hw
  simp only [Prod.mk.injEq] at hx1
  obtain ⟨rfl, rfl⟩ := hx1
  exact OpenSpec.preRow_of_cond 8 hx (by kernel_rfl) (fun k hk => by cases hk) (by kernel_rfl) (laid_met os _)
open Print Go.Proofs.YthppjdmkinbccaaGreatDoorW.PrintWords Go.Proofs.YthppjdmkinbccaaGreatDoorW.PrintLast in
theorem lawcall (w : World) (a0 : Option Addr) (len0 cap0 : Nat) (z0 : List Int) (a1 : Int) (w0 : (a0 = none ∧ len0 = 0 ∧ cap0 = 0 ∧ z0 = []) ∨ ∃ x, a0 = some x ∧ len0 ≤ cap0 ∧ cap0 ≤ maxLen ∧ z0.length = cap0 ∧ (∀ i, i < z0.length → w.cell? (x.add i) = some (.int .u32 (z0.getD i 0))) ∧ ∀ n ∈ z0, (Lit.int .u32 n).wf = true) (y0 : len0 * 4 ≤ 140737488351232) (w1 : (Lit.int .i64 a1).wf = true) (ht : PowTab w) :
    Calls Tryz.prog 11 #[.slice a0 len0 cap0, .int .i64 a1] w fun e w' => e = .returned (.bool true) ∧ Below w.heap.size w w' := by
  obtain ⟨l0, rfl, hr0, hm0, hw0, hc0⟩ := ReadsInt.ofRowC w0
  obtain ⟨k, h⟩ := Pure.DigitsGrows l0 a1 hm0 y0 hw0 w1
  refine (fluxionlaw04_DigitsGrows.calls k _ _ l0 a1 true w ht (Kd.C_of_reads (d := (0 : Int)) (h1 := fun _ => rfl) hr0) hc0 h).mono ?_
  rintro e w' ⟨rfl, hd⟩
  exact ⟨rfl, hd⟩
set_option maxRecDepth 100000 in
theorem lifted (os : Os) (started : os.Started) (H : Type) (enc : TypeId × Value → H) (G : Stop.Interp) :
    ReturnsInHanded {} Tryz.checked os 11 .any ((OpenSpec.ofChange Rows.digitsGrowsSpec).preRow enc Tryz.prog Tryz.f11 Rows.digitsGrowsRow.domain false Rows.digitsGrowsRow.laid) (((OpenSpec.ofChange Rows.digitsGrowsSpec).at G).post enc Tryz.prog Tryz.f11 false true false false) := by
  refine returnsInHanded_of_row (C := Tryz.checked) (s := OpenSpec.ofChange Rows.digitsGrowsSpec) own started (by kernel_rfl) Tryz.func11
    (witness_row_atRef (enc := enc) (C := Tryz.checked) false (W0 os) #[Value.slice none 0 0, .int .i64 0] (World.laidAll_os _ _ _) (by kernel_rfl) (by kernel_rfl) (by kernel_rfl) (witness_row os enc)) ?_
  intro W base args ds gs before hval0 hW hcnd _ hsz0 hL _ _
  have hsz : (DataW.weightsEach Tryz.prog (Tryz.f11.params.toList ++ (OpenSpec.ofChange Rows.digitsGrowsSpec).bare.plain.varTypes Tryz.prog) (ds ++ gs)).all (· ≤ reachBytes) = true := hsz0
  have hval : ∀ (j : Nat) t v, Tryz.f11.params[j]? = some t → args[j]? = some v → Value.okWide Tryz.prog W .any base t v := hval0
  have hW' := hW
  obtain ⟨p, q, hA0, hV, rfl, hfz, hnd⟩ := hW
  have hA : DataW.TrodAll enc Tryz.prog W 0 (fun _ => true) true Tryz.f11.params.toList args.toList ds p := hA0
  rw [Tryz.params11] at hA hval hsz
  obtain ⟨v0, vs0, d0, ds0, p0, q0, hargs, rfl, rfl, h0, r0⟩ := trodAll_cons hA
  obtain ⟨v1, vs1, d1, ds1, p1, q1, rfl, rfl, rfl, h1, r1⟩ := trodAll_cons r0
  obtain ⟨rfl, rfl, rfl⟩ := trodAll_nil r1
  obtain rfl : args = #[v0, v1] := by cases args; simp_all
  obtain ⟨rfl, rfl⟩ := trodVars_none hV
  obtain ⟨a0, len0, cap0, rfl⟩ := okWide_slice Tryz.underlying23 (hval 0 23 v0 rfl rfl)
  have k0 := h0
  have lt0 : ∀ x ∈ p0, x.block < W.heap.size := by obtain ⟨m, hm⟩ := k0; exact DataW.trod_lt m _ _ _ hm
  obtain ⟨z0, w0⟩ : ∃ zs, IsRow .u32 W a0 len0 cap0 zs := by
    obtain ⟨fuel, hf⟩ := h0
    rcases open_ints Tryz.underlying23 Tryz.underlying56 (by kernel_rfl) hf with ⟨hcs, _⟩ | ⟨x, l, c, zs, hcs, _, hl, hm, hz, _, hcell, hwz⟩
    · simp [Value.cells] at hcs
      obtain ⟨rfl, rfl, rfl⟩ := hcs
      exact ⟨[], .inl ⟨rfl, rfl, rfl, rfl⟩⟩
    · simp [Value.cells] at hcs
      obtain ⟨rfl, rfl, rfl⟩ := hcs
      exact ⟨zs, .inr ⟨_, rfl, hl, hm, by simpa using hz, hcell, hwz⟩⟩
  have y0 : len0 * 4 ≤ 140737488351232 := Go.Proofs.YthppjdmkinbccaaGreatDoorW.PrintWords.sized_ints hsz (j := 0) (t := 23) rfl rfl Tryz.underlying23 Tryz.underlying56 (by kernel_rfl) (by kernel_rfl) h0
  obtain ⟨a1, rfl, rfl, rfl, w1⟩ := open_int Tryz.underlying3 (hval 1 3 v1 rfl rfl) h1
  have hL' : laidMet Tryz.prog Rows.digitsGrowsRow.laid W := hL
  have hT : Print.PowTab W := Lib.tabIs_of_head (g := 1) (t := 151) (e := 59) (n := 20) (by kernel_rfl) (by kernel_rfl) Tryz.underlying151 Tryz.underlying59 (by kernel_rfl) (by kernel_rfl) hL'.tail.tail
  clear hA0 hval0 hsz0 hsz
  refine (lawcall W a0 len0 cap0 z0 a1 w0 y0 w1 hT).mono fun e W' ⟨he, bel⟩ => ?_
  subst he
  exact ⟨_, rfl, _, _, _, [], _, [], hW', trodAll_mk1 (shut_bool Tryz.underlying4 _), (trodAll_cons_mk (Below.trod laidOut (by kernel_rfl) (of_decide_eq_true (by kernel_rfl)) k0 bel lt0) (trodAll_cons_mk (shut_int Tryz.underlying3 w1) trodAll_mk0)), rfl, bel.frame _, fun h => by cases h⟩
theorem said : Rows.DigitsGrowsSaid :=
  OpenClaim.holds_of_cond 11 Tryz.f11 rfl rfl rfl rfl rfl rfl rfl ⟨rfl, rfl, rfl, rfl, rfl⟩ rfl rfl rfl rfl rfl (by kernel_rfl) Tryz.func11 (by kernel_rfl)
    (of_decide_eq_true (by kernel_rfl)) (by unfold Func.isWrapper; first | (rw [if_pos (by decide +kernel)]; kernel_rfl) | (rw [if_neg (by decide +kernel)]; exact ⟨rfl, rfl⟩))
    (fun os started H enc _ F => by rw [OpenClaim.pre_eq_preRow]; exact lifted os started H enc F)
theorem plain (f : FuncId) (fn : Func) (hf : Tryz.pinned.checked.prog.funcNamed "fluxion/fluxionlaw04.DigitsGrows" = some f) (hfn : Tryz.pinned.checked.prog.funcs[f]? = some fn) :
    true = Tryz.pinned.checked.prog.looks [] ∧ ∀ (j : Nat) t, fn.params[j]? = some t → Tryz.pinned.checked.prog.wantsStandIn t = false := by
  obtain rfl : f = 11 := Option.some.inj ((show Tryz.prog.funcNamed "fluxion/fluxionlaw04.DigitsGrows" = some 11 by kernel_rfl).symm.trans hf) |>.symm
  obtain rfl : fn = Tryz.f11 := (Option.some.inj (Tryz.func11.symm.trans hfn)).symm
  refine ⟨by kernel_rfl, fun j t ht => ?_⟩
  rw [Tryz.params11] at ht
  have hall : ∀ t ∈ Tryz.f11.params, Tryz.prog.wantsStandIn t = false := of_decide_eq_true (by kernel_rfl)
  exact hall t (by rw [Tryz.params11]; exact Array.mem_of_getElem? ht)
theorem card : Rows.DigitsGrowsCardSaid :=
  Claim7.holds_tied_plain_at .later [] _ _ _ _ said (fun _ h => by cases h) (by kernel_rfl) (fun _ h => by cases h) digitsGrows_row_tie rfl ⟨rfl, rfl⟩ (by kernel_rfl) rfl plain (by kernel_rfl)
#print axioms card
end Go.Proofs.YthppjdmkinbccaaGreatDoor.digitsGrows
namespace Go.Proofs.YthppjdmkinbccaaGreatDoor
/-- The row, under a short name, for the claim. -/
theorem digitsGrows_holds : Rows.DigitsGrowsCardSaid := digitsGrows.card
end Go.Proofs.YthppjdmkinbccaaGreatDoor
