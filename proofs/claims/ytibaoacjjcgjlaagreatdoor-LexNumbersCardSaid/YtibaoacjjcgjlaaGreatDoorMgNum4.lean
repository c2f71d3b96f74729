/- Written by wip/tools/claimtexts.py: these texts, one behind another, without what this claim does not use: A9, A10, PuBase, PuSum, HTop, HTrim, B1, HGather. -/
import Derived.Test.YtibaoacjjcgjlaaGreatDoorMgNum2
import Derived.Test.YtibaoacjjcgjlaaGreatDoorMgNum3
import Derived.Lib.ItoaNum
import Derived.Lib.ItoaMem
import Derived.WalkSpells
import Derived.Lib.SliceRun
import Derived.RangeFuncNested
import Derived.RangeFuncBound
import Derived.RangeFuncCalls
import Derived.RangeFuncLeaves
import Derived.RangeFuncBox
import Derived.Shelf.Abstract
import Derived.WalkKit
import Derived.OwnWalkIn
import Derived.TacticsInMore
import Derived.LoopNIn
import Derived.LoopIn
import Derived.Deep.RegionHeld3
import Derived.Maps.AppendAt
namespace Go.Proofs.YtibaoacjjcgjlaaGreatDoor.Print
open Go.RowKit Go.Proofs.YtibaoacjjcgjlaaGreatDoorW.PrintWords Go.Proofs.YtibaoacjjcgjlaaGreatDoorW.PrintLast Go.Proofs.YtibaoacjjcgjlaaGreatDoorW.PrintMore
attribute [local go_sem] max2_int min2_int max_two min_two max_three min_three max_four min_four   -- for this text's walks alone
set_option linter.unusedVariables false
set_option linter.unusedSimpArgs false
mutual
def r4PR.j0 : Nat → ByteArray → Bool → Option (Bool × List Int × List Int × Int)
 | 0, _, _ => none
 | k + 1, x0, x4 => if x4 = true then (if 1 ≤ (x0.size : Int) then (r4PR.j1 k x0 x4 (x0.extract 1 x0.size)) else (none)) else (r4PR.j1 k x0 x4 x0)
def r4PR.j1 : Nat → ByteArray → Bool → ByteArray → Option (Bool × List Int × List Int × Int)
 | 0, _, _, _ => none
 | k + 1, x0, x4, x5 => (fluxionref04_cut.f k x5).bind fun bt260 => (if bt260.2.2 = true then (r4PR.j2 k x0 x4 bt260.1 bt260.2.1) else (r4PR.j2 k x0 x4 bt260.1 (⟨#[49]⟩ : ByteArray)))
def r4PR.j2 : Nat → ByteArray → Bool → ByteArray → ByteArray → Option (Bool × List Int × List Int × Int)
 | 0, _, _, _, _ => none
 | k + 1, x0, x4, x6, x7 => (r4nat.f k x6).bind fun t263 => (if t263 = true then ((r4nat.f k x7).bind fun t264 => (r4PR.j3 k x0 x4 x6 x7 (!t264))) else (r4PR.j3 k x0 x4 x6 x7 true))
def r4PR.j3 : Nat → ByteArray → Bool → ByteArray → ByteArray → Bool → Option (Bool × List Int × List Int × Int)
 | 0, _, _, _, _, _ => none
 | k + 1, x0, x4, x6, x7, x41 => if x41 = true then (some (false, ([] : List Int), ([] : List Int), 19)) else ((r4PN.f k x6).bind fun bt265 => ((r4PN.f k x7).bind fun bt269 => (if bt265.2 = 0 then (r4PR.j4 k x0 x4 bt265.1 bt269.1 (bt269.2 != 0)) else (r4PR.j4 k x0 x4 bt265.1 bt269.1 true))))
def r4PR.j4 : Nat → ByteArray → Bool → List Int → List Int → Bool → Option (Bool × List Int × List Int × Int)
 | 0, _, _, _, _, _ => none
 | k + 1, x0, x4, x9, x11, x58 => if x58 = true then (some (false, ([] : List Int), ([] : List Int), 14)) else ((r3M.f k x4 x9 x11).bind fun bt273 => ((r4R.f k bt273.1 bt273.2.1 bt273.2.2).bind fun t281 => (if t281.toList = x0.toList then (some (bt273.1, bt273.2.1, bt273.2.2, 0)) else (some (false, ([] : List Int), ([] : List Int), 6)))))
end
def r4PR.f (k : Nat) (a0 : ByteArray) : Option (Bool × List Int × List Int × Int) := if (a0.size : Int) > 0 then (if 0 < (a0.size : Int) then (r4PR.j0 k a0 ((bt a0 0) == 45)) else (none)) else (r4PR.j0 k a0 false)
set_option maxHeartbeats 8000000 in
set_option maxRecDepth 100000 in
theorem r4PR.calls (k : Nat) (a0 : ByteArray) (r1 : Bool) (r2 : List Int) (r3 : List Int) (r4 : Int) (w : World) (h : r4PR.f k a0 = some (r1, r2, r3, r4)) :
  Calls Tryz.prog 11 #[.string a0] w fun e w' => ∃ v1_ v2_ : Value, e = .returned (.tuple #[.agg #[.bool r1, v1_, v2_], .int .i64 r4]) ∧ Kd.R (Kd.int .i64) 3 w' w.heap.size (fun k_ => some k_ ≠ (v2_ : Value).ownBlock) v1_ r2 ∧ Kd.R (Kd.int .i64) 3 w' w.heap.size (fun k_ => some k_ ≠ (v1_ : Value).ownBlock) v2_ r3 ∧ Below w.heap.size w w' := by
 have hu37 := Tryz.underlying37
 have HB := Aside0.mk (Below.refl w.heap.size w)
 have H : (if (a0.size : Int) > 0 then (if 0 < (a0.size : Int) then (r4PR.j0 k a0 ((bt a0 0) == 45)) else (none)) else (r4PR.j0 k a0 false)) = some (r1, r2, r3, r4) := h
 clear h
 have HC2 := Aside0.mk H
 clear H
 go_enter Tryz.func11, Tryz.ntmps11
 go_upto_region 1 with (first | ((with_reducible refine gD9 (N := 2) rfl ?_); refine bE9 ?hg (N := 2) ?hd (cs := #[.bool false, .slice none 0 0, .slice none 0 0]) (t := 37) ?hr ?_; (case hd => rfl); (case hg => rfl); (case hr => first | (go_simp; done) | (go_simp; rfl)); intro gb259 hg w3 hbox hb; have n0_ := Aside0.mk (bT9 (by repeat (first | (with_reducible first | exact HB.out | apply bA9 | apply bN9 | apply bD9) | exact HB.out)) hb); have n1_ := Aside0.mk (hbox); have n2_ := Aside0.mk ((by rw [hg]; exact (bZ9 (by repeat (first | (with_reducible first | exact HB.out | apply bA9 | apply bN9 | apply bD9) | exact HB.out))) : w.heap.size ≤ gb259)); have n3_ := Aside0.mk ((by rw [hg]; exact (bZ9 (by repeat (first | (with_reducible first | exact HB.out | apply bA9 | apply bN9 | apply bD9) | exact HB.out))) : w.heap.size ≤ gb259)); clear HB; have HB := n0_; have BK259 := n1_; have GW259 := n2_; have GE259 := n3_; clear n0_ n1_ n2_ n3_; clear hb hbox hg))
 (try simp only [Act.put, List.setIfInBounds_toArray, List.set_cons_zero, List.set_cons_succ])
 go_cut [4] (fun v4 wc => ∃ (kq : Nat) (x4_1 : Bool), v4 = .bool x4_1 ∧ Aside0 (r4PR.j0 kq a0 x4_1 = some (r1, r2, r3, r4)) ∧ Aside0 (kq ≤ k) ∧ Aside0 (wc.heap[gb259]? = some (.cells #[.bool false, (.slice none 0 0), (.slice none 0 0)] 37 (0, 0))) ∧ Aside0 (Below w.heap.size w wc))
 case first =>
  have H := HC2.out
  clear HC2
  by_cases c4 : (a0.size : Int) > 0
  ·rw [if_pos c4] at H
   have c4b0 : decide (0 < (a0.size : Int)) = true := decide_eq_true c4
   have c4b1 : decide (0 < a0.size) = true := decide_eq_true (by omega)
   clear c4
   (first | rw [c4b0] | (simp only [i64_w, i32_w]; rw [c4b0]) | skip)
   by_cases c5 : 0 < (a0.size : Int)
   ·rw [if_pos c5] at H
    have c5b0 : decide (0 < (a0.size : Int)) = true := decide_eq_true c5
    have c5b1 : decide (0 < a0.size) = true := decide_eq_true (by omega)
    clear c5
    have H' := Aside0.mk H
    clear H
    have p6 : 0 ≤ (0 : Int) := (by omega)
    have q6 : 0 < a0.size := (by have : (0 : Int) < (a0.size : Int) := of_decide_eq_true (by first | (with_reducible assumption) | assumption); omega)
    have hx6 : ∀ h : 0 < a0.size, ((a0[0]'h).toNat : Int) = bt a0 0 := bt_at a0 0
    clear p6
    have qi6 : (0 < (a0.size : Int)) = True := eq_true (of_decide_eq_true (by first | (with_reducible assumption) | assumption))
    replace q6 := eq_true q6
    go_wp2
    go_meet
    case rel => exact ⟨_, (((bt a0 0) == 45)), (by first | rfl | (simp; done) | (simp [*]; done)), H', ⟨by first | omega | exact Nat.le_refl _⟩, ⟨by (with_reducible repeat (first | refine kN9 ?_ _ | refine kD9 ?_ | refine kA9 ?_ _)); exact BK259.out⟩, ⟨by repeat (first | (with_reducible first | exact HB.out | apply bA9 | apply bN9 | apply bD9 | refine bS9 ?_ GE259.out) | exact HB.out)⟩⟩
   ·rw [if_neg c5] at H
    exact absurd H (by simp)
  ·rw [if_neg c4] at H
   have c4b0 : decide (0 < (a0.size : Int)) = false := decide_eq_false c4
   have c4b1 : decide (0 < a0.size) = false := decide_eq_false (by omega)
   clear c4
   (first | rw [c4b0] | (simp only [i64_w, i32_w]; rw [c4b0]) | skip)
   have H' := Aside0.mk H
   clear H
   go_wp2
   go_meet
   case rel => exact ⟨_, (false), (by first | rfl | (simp; done) | (simp [*]; done)), H', ⟨by first | omega | exact Nat.le_refl _⟩, ⟨by (with_reducible repeat (first | refine kN9 ?_ _ | refine kD9 ?_ | refine kA9 ?_ _)); exact BK259.out⟩, ⟨by repeat (first | (with_reducible first | exact HB.out | apply bA9 | apply bN9 | apply bD9 | refine bS9 ?_ GE259.out) | exact HB.out)⟩⟩
 case rest =>
  clear HC2
  try clear c1
  try clear p2
  try clear c4
  try clear c4b0
  try clear c4b1
  try clear c5
  try clear c5b0
  try clear c5b1
  try clear p6
  try clear q6
  try clear hx6
  try clear qi6
  try clear p6
  try clear q6
  obtain ⟨kq, x4_1, rfl, HA, HJ1, BK259, HB⟩ := hcut
  cases kq with
  | zero => exact absurd HA.out (by simp [r4PR.j0])
  | succ kj1 =>
   have H := HA.out
   clear HA
   simp only [r4PR.j0] at H
   have HC7 := Aside0.mk H
   clear H
   go_upto_if 23 with (fail)
   go_cut [5] (fun v5 wc => ∃ (kq : Nat) (x5_6 : ByteArray), v5 = .string x5_6 ∧ Aside0 (r4PR.j1 kq a0 x4_1 x5_6 = some (r1, r2, r3, r4)) ∧ Aside0 (kq ≤ kj1) ∧ Aside0 (wc.heap[gb259]? = some (.cells #[.bool false, (.slice none 0 0), (.slice none 0 0)] 37 (0, 0))) ∧ Aside0 (Below w.heap.size w wc))
   case first =>
    have H := HC7.out
    clear HC7
    by_cases c8 : x4_1 = true
    ·subst c8
     have H1 : (if 1 ≤ (a0.size : Int) then (r4PR.j1 kj1 a0 true (a0.extract 1 a0.size)) else (none)) = some (r1, r2, r3, r4) := by rw [if_pos rfl] at H; exact H
     clear H
     have H := H1
     clear H1
     by_cases c9 : 1 ≤ (a0.size : Int)
     ·rw [if_pos c9] at H
      have c9b0 := eq_true c9
      try (have h_c9 := c9; rw [ByteArray.size_append] at h_c9; have c9b3 := eq_true h_c9; have c9b4 := eq_false (Nat.not_lt.2 h_c9); clear h_c9)
      have c9b1 : decide (1 ≤ (a0.size : Int)) = true := decide_eq_true c9
      clear c9
      have H' := Aside0.mk H
      clear H
      go_wp2
      go_meet
      case rel => exact ⟨_, (a0.extract 1 a0.size), (by first | rfl | (simp; done) | (simp [*]; done)), H', ⟨by have := HJ1.out; first | omega | exact Nat.le_refl _⟩, ⟨by (with_reducible repeat (first | refine kN9 ?_ _ | refine kD9 ?_ | refine kA9 ?_ _)); exact BK259.out⟩, ⟨by repeat (first | (with_reducible first | exact HB.out | apply bA9 | apply bN9 | apply bD9 | refine bS9 ?_ GE259.out) | exact HB.out)⟩⟩
     ·rw [if_neg c9] at H
      exact absurd H (by simp)
    ·replace c8 := Bool.eq_false_iff.mpr c8
     subst c8
     have H1 : (r4PR.j1 kj1 a0 false a0) = some (r1, r2, r3, r4) := by rw [if_neg (show ¬ (false = true) by decide)] at H; exact H
     clear H
     have H := H1
     clear H1
     have H' := Aside0.mk H
     clear H
     go_wp2
     go_meet
     case rel => exact ⟨_, (a0), (by first | rfl | (simp; done) | (simp [*]; done)), H', ⟨by have := HJ1.out; first | omega | exact Nat.le_refl _⟩, ⟨by (with_reducible repeat (first | refine kN9 ?_ _ | refine kD9 ?_ | refine kA9 ?_ _)); exact BK259.out⟩, ⟨by repeat (first | (with_reducible first | exact HB.out | apply bA9 | apply bN9 | apply bD9 | refine bS9 ?_ GE259.out) | exact HB.out)⟩⟩
   case rest =>
    clear HC7
    try clear c1
    try clear p2
    try clear c4
    try clear c4b0
    try clear c4b1
    try clear c5
    try clear c5b0
    try clear c5b1
    try clear p6
    try clear q6
    try clear hx6
    try clear qi6
    try clear c8
    try clear c9
    try clear c9b0
    try clear c9b1
    try clear p2
    try clear p6
    try clear q6
    obtain ⟨kq, x5_6, rfl, HA, HJ6, BK259, HB⟩ := hcut
    cases kq with
    | zero => exact absurd HA.out (by simp [r4PR.j1])
    | succ kj6 =>
     have H := HA.out
     clear HA
     simp only [r4PR.j1] at H
     replace H := Option.bind_eq_some_iff.mp H
     obtain ⟨⟨t260, t261, t262⟩, A100, H⟩ := H
     (try dsimp only at H)
     have A10 := Aside0.mk A100
     clear A100
     have HC11 := Aside0.mk H
     clear H
     go_upto_if 33 with (first | ((with_reducible refine gC9 (f := 24) rfl ?_); refine goesL_ (some 28) rfl rfl Tryz.func24 (by kernel_rfl) rfl #[.string x5_6] rfl (by (try simp only [List.map_toArray, List.map_cons, List.map_nil]); first | done | rfl | (simp only [List.length_drop, List.length_take]; rfl)) ?_; (with_reducible refine (fluxionref04_cut.calls kj6 x5_6 t260 t261 t262 _ A10.out).mono ?_); rintro e w' ⟨rfl, ⟨nd, rfl⟩⟩; refine ⟨_, rfl, ?_⟩))
     (try simp only [Act.put, List.setIfInBounds_toArray, List.set_cons_zero, List.set_cons_succ])
     go_cut [7] (fun v7 wc => ∃ (kq : Nat) (x7_10 : ByteArray), v7 = .string x7_10 ∧ Aside0 (r4PR.j2 kq a0 x4_1 t260 x7_10 = some (r1, r2, r3, r4)) ∧ Aside0 (kq ≤ kj6) ∧ Aside0 (wc.heap[gb259]? = some (.cells #[.bool false, (.slice none 0 0), (.slice none 0 0)] 37 (0, 0))) ∧ Aside0 (Below w.heap.size w wc))
     case first =>
      have H := HC11.out
      clear HC11
      by_cases c12 : t262 = true
      ·subst c12
       have H1 : (r4PR.j2 kj6 a0 x4_1 t260 t261) = some (r1, r2, r3, r4) := by rw [if_pos rfl] at H; exact H
       clear H
       have H := H1
       clear H1
       have H' := Aside0.mk H
       clear H
       go_wp2
       go_meet
       case rel => exact ⟨_, (t261), (by first | rfl | (simp; done) | (simp [*]; done)), H', ⟨by have := HJ1.out; have := HJ6.out; first | omega | exact Nat.le_refl _⟩, ⟨by (with_reducible repeat (first | refine kN9 ?_ _ | refine kD9 ?_ | refine kA9 ?_ _)); exact BK259.out⟩, ⟨by repeat (first | (with_reducible first | exact HB.out | apply bA9 | apply bN9 | apply bD9 | refine bS9 ?_ GE259.out) | exact HB.out)⟩⟩
      ·replace c12 := Bool.eq_false_iff.mpr c12
       subst c12
       have H1 : (r4PR.j2 kj6 a0 x4_1 t260 (⟨#[49]⟩ : ByteArray)) = some (r1, r2, r3, r4) := by rw [if_neg (show ¬ (false = true) by decide)] at H; exact H
       clear H
       have H := H1
       clear H1
       have H' := Aside0.mk H
       clear H
       go_wp2
       go_meet
       case rel => exact ⟨_, ((⟨#[49]⟩ : ByteArray)), (by first | rfl | (simp; done) | (simp [*]; done)), H', ⟨by have := HJ1.out; have := HJ6.out; first | omega | exact Nat.le_refl _⟩, ⟨by (with_reducible repeat (first | refine kN9 ?_ _ | refine kD9 ?_ | refine kA9 ?_ _)); exact BK259.out⟩, ⟨by repeat (first | (with_reducible first | exact HB.out | apply bA9 | apply bN9 | apply bD9 | refine bS9 ?_ GE259.out) | exact HB.out)⟩⟩
     case rest =>
      clear HC11
      try clear c1
      try clear c2
      try clear p2
      try clear c4
      try clear c4b0
      try clear c4b1
      try clear c5
      try clear c5b0
      try clear c5b1
      try clear p6
      try clear q6
      try clear hx6
      try clear qi6
      try clear c8
      try clear c9
      try clear c9b0
      try clear c9b1
      try clear c11
      try clear c12
      try clear p2
      try clear p6
      try clear q6
      obtain ⟨kq, x7_10, rfl, HA, HJ10, BK259, HB⟩ := hcut
      cases kq with
      | zero => exact absurd HA.out (by simp [r4PR.j2])
      | succ kj10 =>
       have H := HA.out
       clear HA
       simp only [r4PR.j2] at H
       have HC13 := Aside0.mk H
       clear H
       go_upto_region 8 with (fail)
       go_cut [41] (fun v41 wc => ∃ (kq : Nat) (x41_12 : Bool), v41 = .bool x41_12 ∧ Aside0 (r4PR.j3 kq a0 x4_1 t260 x7_10 x41_12 = some (r1, r2, r3, r4)) ∧ Aside0 (kq ≤ kj10) ∧ Aside0 (wc.heap[gb259]? = some (.cells #[.bool false, (.slice none 0 0), (.slice none 0 0)] 37 (0, 0))) ∧ Aside0 (Below w.heap.size w wc))
       case first =>
        have H := HC13.out
        clear HC13
        replace H := Option.bind_eq_some_iff.mp H
        obtain ⟨t263, A140, H⟩ := H
        (try dsimp only at H)
        have A14 := Aside0.mk A140
        clear A140
        by_cases c15 : t263 = true
        ·subst c15
         have H1 : ((r4nat.f kj10 x7_10).bind fun t264 => (r4PR.j3 kj10 a0 x4_1 t260 x7_10 (!t264))) = some (r1, r2, r3, r4) := by rw [if_pos rfl] at H; exact H
         clear H
         have H := H1
         clear H1
         replace H := Option.bind_eq_some_iff.mp H
         obtain ⟨t264, A160, H⟩ := H
         (try dsimp only at H)
         have A16 := Aside0.mk A160
         clear A160
         have H' := Aside0.mk H
         clear H
         go_wp2_with (first | ((with_reducible refine gC9 (f := 25) rfl ?_); refine goesL_ (some 35) rfl rfl Tryz.func25 (by kernel_rfl) rfl #[.string t260] rfl (by (try simp only [List.map_toArray, List.map_cons, List.map_nil]); first | done | rfl | (simp only [List.length_drop, List.length_take]; rfl)) ?_; (with_reducible refine (r4nat.calls kj10 t260 true _ A14.out).mono ?_); rintro e w' ⟨rfl, ⟨nd, rfl⟩⟩; refine ⟨_, rfl, ?_⟩) | (go_at_call 25; (with_reducible refine (r4nat.calls kj10 x7_10 t264 _ A16.out).mono ?_); rintro e w' ⟨rfl, ⟨nd, rfl⟩⟩))
         go_meet
         case rel => exact ⟨_, (!t264), (by first | rfl | (simp; done) | (simp [*]; done)), H', ⟨by have := HJ1.out; have := HJ6.out; have := HJ10.out; first | omega | exact Nat.le_refl _⟩, ⟨by (with_reducible repeat (first | refine kN9 ?_ _ | refine kD9 ?_ | refine kA9 ?_ _)); exact BK259.out⟩, ⟨by repeat (first | (with_reducible first | exact HB.out | apply bA9 | apply bN9 | apply bD9 | refine bS9 ?_ GE259.out) | exact HB.out)⟩⟩
        ·replace c15 := Bool.eq_false_iff.mpr c15
         subst c15
         have H1 : (r4PR.j3 kj10 a0 x4_1 t260 x7_10 true) = some (r1, r2, r3, r4) := by rw [if_neg (show ¬ (false = true) by decide)] at H; exact H
         clear H
         have H := H1
         clear H1
         have H' := Aside0.mk H
         clear H
         go_wp2_with (first | ((with_reducible refine gC9 (f := 25) rfl ?_); refine goesL_ (some 35) rfl rfl Tryz.func25 (by kernel_rfl) rfl #[.string t260] rfl (by (try simp only [List.map_toArray, List.map_cons, List.map_nil]); first | done | rfl | (simp only [List.length_drop, List.length_take]; rfl)) ?_; (with_reducible refine (r4nat.calls kj10 t260 false _ A14.out).mono ?_); rintro e w' ⟨rfl, ⟨nd, rfl⟩⟩; refine ⟨_, rfl, ?_⟩))
         go_meet
         case rel => exact ⟨_, (true), (by first | rfl | (simp; done) | (simp [*]; done)), H', ⟨by have := HJ1.out; have := HJ6.out; have := HJ10.out; first | omega | exact Nat.le_refl _⟩, ⟨by (with_reducible repeat (first | refine kN9 ?_ _ | refine kD9 ?_ | refine kA9 ?_ _)); exact BK259.out⟩, ⟨by repeat (first | (with_reducible first | exact HB.out | apply bA9 | apply bN9 | apply bD9 | refine bS9 ?_ GE259.out) | exact HB.out)⟩⟩
       case rest =>
        clear HC13
        try clear c1
        try clear c2
        try clear p2
        try clear c4
        try clear c4b0
        try clear c4b1
        try clear c5
        try clear c5b0
        try clear c5b1
        try clear p6
        try clear q6
        try clear hx6
        try clear qi6
        try clear c8
        try clear c9
        try clear c9b0
        try clear c9b1
        try clear c11
        try clear c12
        try clear c15
        try clear p2
        try clear p6
        try clear q6
        obtain ⟨kq, x41_12, rfl, HA, HJ12, BK259, HB⟩ := hcut
        cases kq with
        | zero => exact absurd HA.out (by simp [r4PR.j3])
        | succ kj12 =>
         have H := HA.out
         clear HA
         simp only [r4PR.j3] at H
         by_cases c17 : x41_12 = true
         ·subst c17
          have H1 : (some (false, ([] : List Int), ([] : List Int), 19)) = some (r1, r2, r3, r4) := by rw [if_pos rfl] at H; exact H
          clear H
          have H := H1
          clear H1
          simp only [Option.some.injEq, Prod.mk.injEq] at H
          obtain ⟨rfl, rfl, rfl, rfl⟩ := H
          have hcz18_0 : wc.cell? ⟨gb259, 0, none⟩ = some (.bool false) := (kC9 BK259.out 0).trans rfl
          have hcz18_1 : wc.cell? ⟨gb259, 1, none⟩ = some (.slice none 0 0) := (kC9 BK259.out 1).trans rfl
          have hcz18_2 : wc.cell? ⟨gb259, 2, none⟩ = some (.slice none 0 0) := (kC9 BK259.out 2).trans rfl
          have hfz18_0 := kF9 BK259.out 0
          have hfz18_1 := kF9 BK259.out 1
          have hfz18_2 := kF9 BK259.out 2
          go_wp2
          refine bodyPost_ret (results_ct rfl _ _ gb259 37 #[.bool false, .slice none 0 0, .slice none 0 0] (0, 0) _ rfl (by (with_reducible repeat (first | refine kN9 ?_ _ | refine kD9 ?_ | refine kA9 ?_ _)); refine kP9 (cs := #[.bool false, .slice none 0 0, .slice none 0 0]) ?_ 2 _ rfl; (with_reducible repeat (first | refine kN9 ?_ _ | refine kD9 ?_ | refine kA9 ?_ _)); refine kP9 (cs := #[.bool false, .slice none 0 0, .slice none 0 0]) ?_ 1 _ rfl; (with_reducible repeat (first | refine kN9 ?_ _ | refine kD9 ?_ | refine kA9 ?_ _)); refine kP9 (cs := #[.bool false, .slice none 0 0, .slice none 0 0]) ?_ 0 _ rfl; (with_reducible repeat (first | refine kN9 ?_ _ | refine kD9 ?_ | refine kA9 ?_ _)); exact BK259.out) Tryz.underlying37 rfl (by kernel_rfl)) rfl ?_
          exact ⟨_, _, by first | rfl | (simp [eN9, eS9] <;> rfl) | (simp [*, eN9, eS9] <;> rfl), by first | exact Kd.R_nil _ _ _ _ _ | exact Kd.N_nil _ _ _ _ _ | exact Kd.V_nil _ _ _ _ _ | exact Kd.Q_nil _ _ _ _ _ | exact Kd.S_nil _ _ _ _ _, by first | exact Kd.R_nil _ _ _ _ _ | exact Kd.N_nil _ _ _ _ _ | exact Kd.V_nil _ _ _ _ _ | exact Kd.Q_nil _ _ _ _ _ | exact Kd.S_nil _ _ _ _ _, by repeat (first | (with_reducible first | exact HB.out | apply bA9 | apply bN9 | apply bD9 | refine bS9 ?_ GE259.out) | exact HB.out)⟩
         ·replace c17 := Bool.eq_false_iff.mpr c17
          subst c17
          have H1 : ((r4PN.f kj12 t260).bind fun bt265 => ((r4PN.f kj12 x7_10).bind fun bt269 => (if bt265.2 = 0 then (r4PR.j4 kj12 a0 x4_1 bt265.1 bt269.1 (bt269.2 != 0)) else (r4PR.j4 kj12 a0 x4_1 bt265.1 bt269.1 true)))) = some (r1, r2, r3, r4) := by rw [if_neg (show ¬ (false = true) by decide)] at H; exact H
          clear H
          have H := H1
          clear H1
          replace H := Option.bind_eq_some_iff.mp H
          obtain ⟨⟨t265, t266⟩, A190, H⟩ := H
          (try dsimp only at H)
          have A19 := Aside0.mk A190
          clear A190
          replace H := Option.bind_eq_some_iff.mp H
          obtain ⟨⟨t269, t270⟩, A200, H⟩ := H
          (try dsimp only at H)
          have A20 := Aside0.mk A200
          clear A200
          have HC21 := Aside0.mk H
          clear H
          go_upto_region 12 with (first | ((with_reducible refine gC9 (f := 26) rfl ?_); refine goesL_ (some 45) rfl rfl Tryz.func26 (by kernel_rfl) rfl #[.string t260] rfl (by (try simp only [List.map_toArray, List.map_cons, List.map_nil]); first | done | rfl | (simp only [List.length_drop, List.length_take]; rfl)) ?_; (with_reducible refine (r4PN.calls kj12 t260 t265 t266 _ A19.out).mono ?_); rintro e w22 ⟨v267, rfl, ho0, hb⟩; refine ⟨_, rfl, ?_⟩; have n0_ := Aside0.mk (Kd.rL9 ho0 (bZ9 (by repeat (first | (with_reducible first | exact HB.out | apply bA9 | apply bN9 | apply bD9 | refine bS9 ?_ GE259.out) | exact HB.out)))); have n1_ := Aside0.mk (kB9 (g := gb259) (o := .cells #[.bool false, .slice none 0 0, .slice none 0 0] 37 (0, 0)) (by (with_reducible repeat (first | refine kN9 ?_ _ | refine kD9 ?_ | refine kA9 ?_ _)); exact BK259.out) hb); have n2_ := Aside0.mk (bT9 (by repeat (first | (with_reducible first | exact HB.out | apply bA9 | apply bN9 | apply bD9 | refine bS9 ?_ GE259.out) | exact HB.out)) hb); clear BK259; clear HB; have HO268 := n0_; have BK259 := n1_; have HB := n2_; clear n0_ n1_ n2_; (try clear hb); (try clear hb2); (try clear hk); (try clear hi); (try clear ho0)) | ((with_reducible refine gC9 (f := 26) rfl ?_); refine goesL_ (some 50) rfl rfl Tryz.func26 (by kernel_rfl) rfl #[.string x7_10] rfl (by (try simp only [List.map_toArray, List.map_cons, List.map_nil]); first | done | rfl | (simp only [List.length_drop, List.length_take]; rfl)) ?_; (with_reducible refine (r4PN.calls kj12 x7_10 t269 t270 _ A20.out).mono ?_); rintro e w23 ⟨v271, rfl, ho0, hb⟩; refine ⟨_, rfl, ?_⟩; have n0_ := Aside0.mk (Kd.R_elder' (by (with_reducible repeat (first | apply Kd.rA9 | apply Kd.rN9 | apply Kd.rD9)); exact HO268.out) (Kd.R_base ho0) hb); have n1_ := Aside0.mk (Kd.rL9 (Kd.R_new' ho0 (Kd.R_lt (by (with_reducible repeat (first | apply Kd.rA9 | apply Kd.rN9 | apply Kd.rD9)); exact HO268.out))) (bZ9 (by repeat (first | (with_reducible first | exact HB.out | apply bA9 | apply bN9 | apply bD9 | refine bS9 ?_ GE259.out) | exact HB.out)))); have n2_ := Aside0.mk (kB9 (g := gb259) (o := .cells #[.bool false, .slice none 0 0, .slice none 0 0] 37 (0, 0)) (by (with_reducible repeat (first | refine kN9 ?_ _ | refine kD9 ?_ | refine kA9 ?_ _)); exact BK259.out) hb); have n3_ := Aside0.mk (bT9 (by repeat (first | (with_reducible first | exact HB.out | apply bA9 | apply bN9 | apply bD9 | refine bS9 ?_ GE259.out) | exact HB.out)) hb); clear HO268; clear BK259; clear HB; have HO268 := n0_; have HO272 := n1_; have BK259 := n2_; have HB := n3_; clear n0_ n1_ n2_ n3_; (try clear hb); (try clear hb2); (try clear hk); (try clear hi); (try clear ho0)))
          (try simp only [Act.put, List.setIfInBounds_toArray, List.set_cons_zero, List.set_cons_succ])
          go_cut [58] (fun v58 wc => ∃ (kq : Nat) (x58_20 : Bool), v58 = .bool x58_20 ∧ Aside0 (r4PR.j4 kq a0 x4_1 t265 t269 x58_20 = some (r1, r2, r3, r4)) ∧ Aside0 (kq ≤ kj12) ∧ Aside0 (Kd.R (Kd.int .i64) 3 wc w.heap.size (fun k_ => some k_ ≠ (v271 : Value).ownBlock) v267 t265) ∧ Aside0 (Kd.R (Kd.int .i64) 3 wc w.heap.size (fun k_ => some k_ ≠ (v267 : Value).ownBlock) v271 t269) ∧ Aside0 (wc.heap[gb259]? = some (.cells #[.bool false, (.slice none 0 0), (.slice none 0 0)] 37 (0, 0))) ∧ Aside0 (Below w.heap.size w wc))
          case first =>
           have H := HC21.out
           clear HC21
           by_cases c24 : t266 = 0
           ·rw [if_pos c24] at H
            have c24b0 : (t266 == 0) = true := beq_iff_eq.mpr c24
            have c24b1 : (t266 != 0) = false := bne_eq_false_iff_eq.mpr c24
            clear c24
            (first | rw [c24b0] | (simp only [i64_w, i32_w]; rw [c24b0]) | skip)
            have H' := Aside0.mk H
            clear H
            go_wp2
            go_meet
            case rel => exact ⟨_, ((t270 != 0)), (by first | rfl | (simp; done) | (simp [*]; done)), H', ⟨by have := HJ1.out; have := HJ6.out; have := HJ10.out; have := HJ12.out; first | omega | exact Nat.le_refl _⟩, ⟨by (with_reducible repeat (first | apply Kd.rA9 | apply Kd.rN9 | apply Kd.rD9)); exact Kd.R_mono HO268.out (fun _ hk => hk.2)⟩, ⟨by (with_reducible repeat (first | apply Kd.rA9 | apply Kd.rN9 | apply Kd.rD9)); exact Kd.R_mono HO272.out (fun _ hk => hk.2)⟩, ⟨by (with_reducible repeat (first | refine kN9 ?_ _ | refine kD9 ?_ | refine kA9 ?_ _)); exact BK259.out⟩, ⟨by repeat (first | (with_reducible first | exact HB.out | apply bA9 | apply bN9 | apply bD9 | refine bS9 ?_ GE259.out) | exact HB.out)⟩⟩
           ·rw [if_neg c24] at H
            have c24b0 : (t266 == 0) = false := beq_eq_false_iff_ne.mpr c24
            have c24b1 : (t266 != 0) = true := bne_iff_ne.mpr c24
            (first | rw [c24b0] | (simp only [i64_w, i32_w]; rw [c24b0]) | skip)
            have H' := Aside0.mk H
            clear H
            go_wp2
            go_meet
            case rel => exact ⟨_, (true), (by first | rfl | (simp; done) | (simp [*]; done)), H', ⟨by have := HJ1.out; have := HJ6.out; have := HJ10.out; have := HJ12.out; first | omega | exact Nat.le_refl _⟩, ⟨by (with_reducible repeat (first | apply Kd.rA9 | apply Kd.rN9 | apply Kd.rD9)); exact Kd.R_mono HO268.out (fun _ hk => hk.2)⟩, ⟨by (with_reducible repeat (first | apply Kd.rA9 | apply Kd.rN9 | apply Kd.rD9)); exact Kd.R_mono HO272.out (fun _ hk => hk.2)⟩, ⟨by (with_reducible repeat (first | refine kN9 ?_ _ | refine kD9 ?_ | refine kA9 ?_ _)); exact BK259.out⟩, ⟨by repeat (first | (with_reducible first | exact HB.out | apply bA9 | apply bN9 | apply bD9 | refine bS9 ?_ GE259.out) | exact HB.out)⟩⟩
          case rest =>
           clear HC21
           try clear c1
           try clear c2
           try clear p2
           try clear c4
           try clear c4b0
           try clear c4b1
           try clear c5
           try clear c5b0
           try clear c5b1
           try clear p6
           try clear q6
           try clear hx6
           try clear qi6
           try clear c8
           try clear c9
           try clear c9b0
           try clear c9b1
           try clear c11
           try clear c12
           try clear c15
           try clear c17
           try clear c24
           try clear c24b0
           try clear c24b1
           try clear hcz18_0
           try clear hcz18_1
           try clear hcz18_2
           try clear hfz18_0
           try clear hfz18_1
           try clear hfz18_2
           try clear p2
           try clear p6
           try clear q6
           obtain ⟨kq, x58_20, rfl, HA, HJ20, HO_9, HO_11, BK259, HB⟩ := hcut
           cases kq with
           | zero => exact absurd HA.out (by simp [r4PR.j4])
           | succ kj20 =>
            have H := HA.out
            clear HA
            simp only [r4PR.j4] at H
            by_cases c25 : x58_20 = true
            ·subst c25
             have H1 : (some (false, ([] : List Int), ([] : List Int), 14)) = some (r1, r2, r3, r4) := by rw [if_pos rfl] at H; exact H
             clear H
             have H := H1
             clear H1
             simp only [Option.some.injEq, Prod.mk.injEq] at H
             obtain ⟨rfl, rfl, rfl, rfl⟩ := H
             have hcz26_0 : wc.cell? ⟨gb259, 0, none⟩ = some (.bool false) := (kC9 BK259.out 0).trans rfl
             have hcz26_1 : wc.cell? ⟨gb259, 1, none⟩ = some (.slice none 0 0) := (kC9 BK259.out 1).trans rfl
             have hcz26_2 : wc.cell? ⟨gb259, 2, none⟩ = some (.slice none 0 0) := (kC9 BK259.out 2).trans rfl
             have hfz26_0 := kF9 BK259.out 0
             have hfz26_1 := kF9 BK259.out 1
             have hfz26_2 := kF9 BK259.out 2
             go_wp2
             refine bodyPost_ret (results_ct rfl _ _ gb259 37 #[.bool false, .slice none 0 0, .slice none 0 0] (0, 0) _ rfl (by (with_reducible repeat (first | refine kN9 ?_ _ | refine kD9 ?_ | refine kA9 ?_ _)); refine kP9 (cs := #[.bool false, .slice none 0 0, .slice none 0 0]) ?_ 2 _ rfl; (with_reducible repeat (first | refine kN9 ?_ _ | refine kD9 ?_ | refine kA9 ?_ _)); refine kP9 (cs := #[.bool false, .slice none 0 0, .slice none 0 0]) ?_ 1 _ rfl; (with_reducible repeat (first | refine kN9 ?_ _ | refine kD9 ?_ | refine kA9 ?_ _)); refine kP9 (cs := #[.bool false, .slice none 0 0, .slice none 0 0]) ?_ 0 _ rfl; (with_reducible repeat (first | refine kN9 ?_ _ | refine kD9 ?_ | refine kA9 ?_ _)); exact BK259.out) Tryz.underlying37 rfl (by kernel_rfl)) rfl ?_
             exact ⟨_, _, by first | rfl | (simp [eN9, eS9] <;> rfl) | (simp [*, eN9, eS9] <;> rfl), by first | exact Kd.R_nil _ _ _ _ _ | exact Kd.N_nil _ _ _ _ _ | exact Kd.V_nil _ _ _ _ _ | exact Kd.Q_nil _ _ _ _ _ | exact Kd.S_nil _ _ _ _ _, by first | exact Kd.R_nil _ _ _ _ _ | exact Kd.N_nil _ _ _ _ _ | exact Kd.V_nil _ _ _ _ _ | exact Kd.Q_nil _ _ _ _ _ | exact Kd.S_nil _ _ _ _ _, by repeat (first | (with_reducible first | exact HB.out | apply bA9 | apply bN9 | apply bD9 | refine bS9 ?_ GE259.out) | exact HB.out)⟩
            ·replace c25 := Bool.eq_false_iff.mpr c25
             subst c25
             have H1 : ((r3M.f kj20 x4_1 t265 t269).bind fun bt273 => ((r4R.f kj20 bt273.1 bt273.2.1 bt273.2.2).bind fun t281 => (if t281.toList = a0.toList then (some (bt273.1, bt273.2.1, bt273.2.2, 0)) else (some (false, ([] : List Int), ([] : List Int), 6))))) = some (r1, r2, r3, r4) := by rw [if_neg (show ¬ (false = true) by decide)] at H; exact H
             clear H
             have H := H1
             clear H1
             replace H := Option.bind_eq_some_iff.mp H
             obtain ⟨⟨t273, t274, t277⟩, A270, H⟩ := H
             (try dsimp only at H)
             have A27 := Aside0.mk A270
             clear A270
             replace H := Option.bind_eq_some_iff.mp H
             obtain ⟨t281, A280, H⟩ := H
             (try dsimp only at H)
             have A28 := Aside0.mk A280
             clear A280
             by_cases c29 : t281.toList = a0.toList
             ·rw [if_pos c29] at H
              have c29b0 : (t281.toList == a0.toList) = true := beq_iff_eq.mpr c29
              have c29b1 : (t281.toList != a0.toList) = false := bne_eq_false_iff_eq.mpr c29
              clear c29
              simp only [Option.some.injEq, Prod.mk.injEq] at H
              obtain ⟨rfl, rfl, rfl, rfl⟩ := H
              obtain ⟨Ao30, co30, eo30⟩ := Kd.rS9 HO_9.out
              subst eo30
              obtain ⟨Ao31, co31, eo31⟩ := Kd.rS9 HO_11.out
              subst eo31
              go_wp2_with (first | ((with_reducible refine gC9 (f := 27) rfl ?_); refine goesL_ (some 63) rfl rfl Tryz.func27 (by kernel_rfl) rfl #[.bool x4_1, .slice Ao30 t265.length co30, .slice Ao31 t269.length co31] rfl (by (try simp only [List.map_toArray, List.map_cons, List.map_nil]); first | done | rfl | (simp only [List.length_drop, List.length_take]; rfl)) ?_; (with_reducible refine (r3M.calls kj20 x4_1 _ _ t265 _ _ t269 t273 t274 t277 _ ?side1 ?side2 ?side3 ?side4 A27.out).mono ?_); (case side1 => repeat (first | exact (Kd.rR9 HO_9.out).2.2 | (with_reducible refine Kd.cA9 ?_ _) | (with_reducible refine Kd.cN9 ?_ _) | (with_reducible refine Kd.cD9 ?_))); (case side2 => exact (Kd.rR9 HO_9.out).2.1); (case side3 => repeat (first | exact (Kd.rR9 HO_11.out).2.2 | (with_reducible refine Kd.cA9 ?_ _) | (with_reducible refine Kd.cN9 ?_ _) | (with_reducible refine Kd.cD9 ?_))); (case side4 => exact (Kd.rR9 HO_11.out).2.1); rintro e w32 ⟨v275, v278, rfl, ho0, ho1, hb⟩; refine ⟨_, rfl, ?_⟩; have n0_ := Aside0.mk (Kd.R_mono (Kd.R_told (Kd.R_told (Kd.R_old (by (with_reducible repeat (first | apply Kd.rA9 | apply Kd.rN9 | apply Kd.rD9)); exact HO_9.out) hb) (Kd.R_base ho0)) (Kd.R_base ho1)) (fun _ h_ => h_.1)); have n1_ := Aside0.mk (Kd.R_mono (Kd.R_told (Kd.R_told (Kd.R_old (by (with_reducible repeat (first | apply Kd.rA9 | apply Kd.rN9 | apply Kd.rD9)); exact HO_11.out) hb) (Kd.R_base ho0)) (Kd.R_base ho1)) (fun _ h_ => h_.1)); have n2_ := Aside0.mk (Kd.rL9 (Kd.R_new' (Kd.R_new' ho0 (Kd.R_lt (by (with_reducible repeat (first | apply Kd.rA9 | apply Kd.rN9 | apply Kd.rD9)); exact HO_9.out))) (Kd.R_lt (by (with_reducible repeat (first | apply Kd.rA9 | apply Kd.rN9 | apply Kd.rD9)); exact HO_11.out))) (bZ9 (by repeat (first | (with_reducible first | exact HB.out | apply bA9 | apply bN9 | apply bD9 | refine bS9 ?_ GE259.out) | exact HB.out)))); have n3_ := Aside0.mk (Kd.rL9 (Kd.R_new' (Kd.R_new' ho1 (Kd.R_lt (by (with_reducible repeat (first | apply Kd.rA9 | apply Kd.rN9 | apply Kd.rD9)); exact HO_9.out))) (Kd.R_lt (by (with_reducible repeat (first | apply Kd.rA9 | apply Kd.rN9 | apply Kd.rD9)); exact HO_11.out))) (bZ9 (by repeat (first | (with_reducible first | exact HB.out | apply bA9 | apply bN9 | apply bD9 | refine bS9 ?_ GE259.out) | exact HB.out)))); have n4_ := Aside0.mk (kB9 (g := gb259) (o := .cells #[.bool false, .slice none 0 0, .slice none 0 0] 37 (0, 0)) (by (with_reducible repeat (first | refine kN9 ?_ _ | refine kD9 ?_ | refine kA9 ?_ _)); exact BK259.out) hb); have n5_ := Aside0.mk (bT9 (by repeat (first | (with_reducible first | exact HB.out | apply bA9 | apply bN9 | apply bD9 | refine bS9 ?_ GE259.out) | exact HB.out)) hb); clear HO_9; clear HO_11; clear BK259; clear HB; have HO_9 := n0_; have HO_11 := n1_; have HO276 := n2_; have HO279 := n3_; have BK259 := n4_; have HB := n5_; clear n0_ n1_ n2_ n3_ n4_ n5_; (try clear hb); (try clear hb2); (try clear hk); (try clear hi); (try clear ho0); (try clear ho1)) | ((with_reducible refine gD9 (N := 13) rfl ?_); refine bE9 ?hg (N := 13) ?hd (cs := #[.bool false, .slice none 0 0, .slice none 0 0]) (t := 37) ?hr ?_; (case hd => rfl); (case hg => rfl); (case hr => first | (go_simp; done) | (go_simp; rfl)); intro gb280 hg w33 hbox hb; have n0_ := Aside0.mk (Kd.rB9 (by (with_reducible repeat (first | apply Kd.rA9 | apply Kd.rN9 | apply Kd.rD9)); exact HO_9.out) hb); have n1_ := Aside0.mk (Kd.rB9 (by (with_reducible repeat (first | apply Kd.rA9 | apply Kd.rN9 | apply Kd.rD9)); exact HO_11.out) hb); have n2_ := Aside0.mk (Kd.rB9 (by (with_reducible repeat (first | apply Kd.rA9 | apply Kd.rN9 | apply Kd.rD9)); exact HO276.out) hb); have n3_ := Aside0.mk (Kd.rB9 (by (with_reducible repeat (first | apply Kd.rA9 | apply Kd.rN9 | apply Kd.rD9)); exact HO279.out) hb); have n4_ := Aside0.mk (kB9 (g := gb259) (o := .cells #[.bool false, .slice none 0 0, .slice none 0 0] 37 (0, 0)) (by (with_reducible repeat (first | refine kN9 ?_ _ | refine kD9 ?_ | refine kA9 ?_ _)); exact BK259.out) hb); have n5_ := Aside0.mk (bT9 (by repeat (first | (with_reducible first | exact HB.out | apply bA9 | apply bN9 | apply bD9 | refine bS9 ?_ GE259.out) | exact HB.out)) hb); have n6_ := Aside0.mk (hbox); have n7_ := Aside0.mk ((by rw [hg]; exact (bZ9 (by repeat (first | (with_reducible first | exact HB.out | apply bA9 | apply bN9 | apply bD9 | refine bS9 ?_ GE259.out) | exact HB.out))) : w.heap.size ≤ gb280)); have n8_ := Aside0.mk ((by rw [hg]; exact (bZ9 (by repeat (first | (with_reducible first | exact HB.out | apply bA9 | apply bN9 | apply bD9 | refine bS9 ?_ GE259.out) | exact HB.out))) : w.heap.size ≤ gb280)); have n9_ := Aside0.mk ((by rw [hg]; exact Nat.ne_of_lt (blk_lt (g := gb259) (o := .cells #[.bool false, .slice none 0 0, .slice none 0 0] 37 (0, 0)) (by (with_reducible repeat (first | refine kN9 ?_ _ | refine kD9 ?_ | refine kA9 ?_ _)); exact BK259.out)) : gb259 ≠ gb280)); have n10_ := Aside0.mk ((by rw [hg]; exact Nat.ne_of_gt (blk_lt (g := gb259) (o := .cells #[.bool false, .slice none 0 0, .slice none 0 0] 37 (0, 0)) (by (with_reducible repeat (first | refine kN9 ?_ _ | refine kD9 ?_ | refine kA9 ?_ _)); exact BK259.out)) : gb280 ≠ gb259)); clear HO_9; clear HO_11; clear HO276; clear HO279; clear BK259; clear HB; have HO_9 := n0_; have HO_11 := n1_; have HO276 := n2_; have HO279 := n3_; have BK259 := n4_; have HB := n5_; have BK280 := n6_; have GW280 := n7_; have GE280 := n8_; have NB259_280 := n9_; have NB280_259 := n10_; clear n0_ n1_ n2_ n3_ n4_ n5_ n6_ n7_ n8_ n9_ n10_; clear hb hbox hg; have hnb34 := NB280_259.out; have hnc34 := NB259_280.out; have hcz35_0 : w33.cell? ⟨gb280, 0, none⟩ = some (.bool false) := (kC9 BK280.out 0).trans rfl; have hcz35_1 : w33.cell? ⟨gb280, 1, none⟩ = some (.slice none 0 0) := (kC9 BK280.out 1).trans rfl; have hcz35_2 : w33.cell? ⟨gb280, 2, none⟩ = some (.slice none 0 0) := (kC9 BK280.out 2).trans rfl; have hfz35_0 := kF9 BK280.out 0; have hfz35_1 := kF9 BK280.out 1; have hfz35_2 := kF9 BK280.out 2; obtain ⟨Ao36, co36, eo36⟩ := Kd.rS9 HO276.out; subst eo36; obtain ⟨Ao37, co37, eo37⟩ := Kd.rS9 HO279.out; subst eo37) | ((with_reducible refine gC9 (f := 28) rfl ?_); refine goesL_ (some 65) rfl rfl Tryz.func28 (by kernel_rfl) rfl #[.agg #[.bool t273, .slice Ao36 t274.length co36, .slice Ao37 t277.length co37]] rfl (by (try simp only [List.map_toArray, List.map_cons, List.map_nil]); first | done | rfl | (simp only [List.length_drop, List.length_take]; rfl)) ?_; (with_reducible refine (r4R.calls kj20 t273 _ _ t274 _ _ t277 t281 _ ?side1 ?side2 ?side3 ?side4 A28.out).mono ?_); (case side1 => refine (Kd.rR9 (e := 3) (base := w.heap.size) (ok := fun k_ => ((some k_ ≠ (.slice Ao37 t277.length co37 : Value).ownBlock ∧ some k_ ≠ (.slice Ao30 t265.length co30 : Value).ownBlock) ∧ some k_ ≠ (.slice Ao31 t269.length co31 : Value).ownBlock)) (n := t274.length) (c := co36) ?_).2.2; exact (by (with_reducible repeat (first | apply Kd.rA9 | apply Kd.rN9 | apply Kd.rD9)); exact (Kd.R_mono (Kd.R_far (p := ⟨gb280, 2, none⟩) (Kd.R_far (p := ⟨gb280, 1, none⟩) (Kd.R_far (p := ⟨gb280, 0, none⟩) (Kd.rT9 HO276.out BK280.out (by decide)) (fun _ hk => hk.2) (.bool t273)) (fun _ hk => hk.2) (.slice Ao36 t274.length co36)) (fun _ hk => hk.2) (.slice Ao37 t277.length co37)) (fun _ h_ => h_.1)))); (case side2 => exact (Kd.rR9 HO276.out).2.1); (case side3 => refine (Kd.rR9 (e := 3) (base := w.heap.size) (ok := fun k_ => ((some k_ ≠ (.slice Ao36 t274.length co36 : Value).ownBlock ∧ some k_ ≠ (.slice Ao30 t265.length co30 : Value).ownBlock) ∧ some k_ ≠ (.slice Ao31 t269.length co31 : Value).ownBlock)) (n := t277.length) (c := co37) ?_).2.2; exact (by (with_reducible repeat (first | apply Kd.rA9 | apply Kd.rN9 | apply Kd.rD9)); exact (Kd.R_mono (Kd.R_far (p := ⟨gb280, 2, none⟩) (Kd.R_far (p := ⟨gb280, 1, none⟩) (Kd.R_far (p := ⟨gb280, 0, none⟩) (Kd.rT9 HO279.out BK280.out (by decide)) (fun _ hk => hk.2) (.bool t273)) (fun _ hk => hk.2) (.slice Ao36 t274.length co36)) (fun _ hk => hk.2) (.slice Ao37 t277.length co37)) (fun _ h_ => h_.1)))); (case side4 => exact (Kd.rR9 HO279.out).2.1); rintro e w38 ⟨rfl, hb⟩; refine ⟨_, rfl, ?_⟩; have n0_ := Aside0.mk (Kd.rB9 (by (with_reducible repeat (first | apply Kd.rA9 | apply Kd.rN9 | apply Kd.rD9)); exact (Kd.R_mono (Kd.R_far (p := ⟨gb280, 2, none⟩) (Kd.R_far (p := ⟨gb280, 1, none⟩) (Kd.R_far (p := ⟨gb280, 0, none⟩) (Kd.rT9 HO_9.out BK280.out (by decide)) (fun _ hk => hk.2) (.bool t273)) (fun _ hk => hk.2) (.slice Ao36 t274.length co36)) (fun _ hk => hk.2) (.slice Ao37 t277.length co37)) (fun _ h_ => h_.1))) hb); have n1_ := Aside0.mk (Kd.rB9 (by (with_reducible repeat (first | apply Kd.rA9 | apply Kd.rN9 | apply Kd.rD9)); exact (Kd.R_mono (Kd.R_far (p := ⟨gb280, 2, none⟩) (Kd.R_far (p := ⟨gb280, 1, none⟩) (Kd.R_far (p := ⟨gb280, 0, none⟩) (Kd.rT9 HO_11.out BK280.out (by decide)) (fun _ hk => hk.2) (.bool t273)) (fun _ hk => hk.2) (.slice Ao36 t274.length co36)) (fun _ hk => hk.2) (.slice Ao37 t277.length co37)) (fun _ h_ => h_.1))) hb); have n2_ := Aside0.mk (Kd.rB9 (by (with_reducible repeat (first | apply Kd.rA9 | apply Kd.rN9 | apply Kd.rD9)); exact (Kd.R_mono (Kd.R_far (p := ⟨gb280, 2, none⟩) (Kd.R_far (p := ⟨gb280, 1, none⟩) (Kd.R_far (p := ⟨gb280, 0, none⟩) (Kd.rT9 HO276.out BK280.out (by decide)) (fun _ hk => hk.2) (.bool t273)) (fun _ hk => hk.2) (.slice Ao36 t274.length co36)) (fun _ hk => hk.2) (.slice Ao37 t277.length co37)) (fun _ h_ => h_.1))) hb); have n3_ := Aside0.mk (Kd.rB9 (by (with_reducible repeat (first | apply Kd.rA9 | apply Kd.rN9 | apply Kd.rD9)); exact (Kd.R_mono (Kd.R_far (p := ⟨gb280, 2, none⟩) (Kd.R_far (p := ⟨gb280, 1, none⟩) (Kd.R_far (p := ⟨gb280, 0, none⟩) (Kd.rT9 HO279.out BK280.out (by decide)) (fun _ hk => hk.2) (.bool t273)) (fun _ hk => hk.2) (.slice Ao36 t274.length co36)) (fun _ hk => hk.2) (.slice Ao37 t277.length co37)) (fun _ h_ => h_.1))) hb); have n4_ := Aside0.mk (kB9 (g := gb259) (o := .cells #[.bool false, .slice none 0 0, .slice none 0 0] 37 (0, 0)) (by (with_reducible repeat (first | refine kN9 ?_ _ | refine kD9 ?_ | refine kA9 ?_ _)); refine blk_far ?_ NB259_280.out _; (with_reducible repeat (first | refine kN9 ?_ _ | refine kD9 ?_ | refine kA9 ?_ _)); refine blk_far ?_ NB259_280.out _; (with_reducible repeat (first | refine kN9 ?_ _ | refine kD9 ?_ | refine kA9 ?_ _)); refine blk_far ?_ NB259_280.out _; (with_reducible repeat (first | refine kN9 ?_ _ | refine kD9 ?_ | refine kA9 ?_ _)); exact BK259.out) hb); have n5_ := Aside0.mk (kB9 (g := gb280) (o := .cells #[.bool t273, .slice Ao36 t274.length co36, .slice Ao37 t277.length co37] 37 (0, 0)) (by (with_reducible repeat (first | refine kN9 ?_ _ | refine kD9 ?_ | refine kA9 ?_ _)); refine kP9 (cs := #[.bool t273, .slice Ao36 t274.length co36, .slice none 0 0]) ?_ 2 _ rfl; (with_reducible repeat (first | refine kN9 ?_ _ | refine kD9 ?_ | refine kA9 ?_ _)); refine kP9 (cs := #[.bool t273, .slice none 0 0, .slice none 0 0]) ?_ 1 _ rfl; (with_reducible repeat (first | refine kN9 ?_ _ | refine kD9 ?_ | refine kA9 ?_ _)); refine kP9 (cs := #[.bool false, .slice none 0 0, .slice none 0 0]) ?_ 0 _ rfl; (with_reducible repeat (first | refine kN9 ?_ _ | refine kD9 ?_ | refine kA9 ?_ _)); exact BK280.out) hb); have n6_ := Aside0.mk (bT9 (by repeat (first | (with_reducible first | exact HB.out | apply bA9 | apply bN9 | apply bD9 | refine bS9 ?_ GE259.out | refine bS9 ?_ GE280.out) | exact HB.out)) hb); clear HO_9; clear HO_11; clear HO276; clear HO279; clear BK259; clear BK280; clear HB; have HO_9 := n0_; have HO_11 := n1_; have HO276 := n2_; have HO279 := n3_; have BK259 := n4_; have BK280 := n5_; have HB := n6_; clear n0_ n1_ n2_ n3_ n4_ n5_ n6_; (try clear hb); (try clear hb2); (try clear hk); (try clear hi); have hcz39_0 : w38.cell? ⟨gb280, 0, none⟩ = some (.bool t273) := (kC9 BK280.out 0).trans rfl; have hcz39_1 : w38.cell? ⟨gb280, 1, none⟩ = some (.slice Ao36 t274.length co36) := (kC9 BK280.out 1).trans rfl; have hcz39_2 : w38.cell? ⟨gb280, 2, none⟩ = some (.slice Ao37 t277.length co37) := (kC9 BK280.out 2).trans rfl; have hfz39_0 := kF9 BK280.out 0; have hfz39_1 := kF9 BK280.out 1; have hfz39_2 := kF9 BK280.out 2; have hcz40_0 : w38.cell? ⟨gb259, 0, none⟩ = some (.bool false) := (kC9 BK259.out 0).trans rfl; have hcz40_1 : w38.cell? ⟨gb259, 1, none⟩ = some (.slice none 0 0) := (kC9 BK259.out 1).trans rfl; have hcz40_2 : w38.cell? ⟨gb259, 2, none⟩ = some (.slice none 0 0) := (kC9 BK259.out 2).trans rfl; have hfz40_0 := kF9 BK259.out 0; have hfz40_1 := kF9 BK259.out 1; have hfz40_2 := kF9 BK259.out 2))
              refine bodyPost_ret (results_ct rfl _ _ gb259 37 #[.bool t273, .slice Ao36 t274.length co36, .slice Ao37 t277.length co37] (0, 0) _ rfl (by (with_reducible repeat (first | refine kN9 ?_ _ | refine kD9 ?_ | refine kA9 ?_ _)); refine kP9 (cs := #[.bool t273, .slice Ao36 t274.length co36, .slice none 0 0]) ?_ 2 _ rfl; (with_reducible repeat (first | refine kN9 ?_ _ | refine kD9 ?_ | refine kA9 ?_ _)); refine kP9 (cs := #[.bool t273, .slice none 0 0, .slice none 0 0]) ?_ 1 _ rfl; (with_reducible repeat (first | refine kN9 ?_ _ | refine kD9 ?_ | refine kA9 ?_ _)); refine kP9 (cs := #[.bool false, .slice none 0 0, .slice none 0 0]) ?_ 0 _ rfl; (with_reducible repeat (first | refine kN9 ?_ _ | refine kD9 ?_ | refine kA9 ?_ _)); exact BK259.out) Tryz.underlying37 rfl (by kernel_rfl)) rfl ?_
              exact ⟨_, _, by first | rfl | (simp [eN9, eS9] <;> rfl) | (simp [*, eN9, eS9] <;> rfl), by (with_reducible repeat (first | apply Kd.rA9 | apply Kd.rN9 | apply Kd.rD9)); exact Kd.R_mono (Kd.R_far (p := ⟨gb259, 2, none⟩) (Kd.R_far (p := ⟨gb259, 1, none⟩) (Kd.R_far (p := ⟨gb259, 0, none⟩) (Kd.rT9 HO276.out BK259.out (by decide)) (fun _ hk => hk.2) (.bool t273)) (fun _ hk => hk.2) (.slice Ao36 t274.length co36)) (fun _ hk => hk.2) (.slice Ao37 t277.length co37)) (fun _ hk => hk.1.1.1), by (with_reducible repeat (first | apply Kd.rA9 | apply Kd.rN9 | apply Kd.rD9)); exact Kd.R_mono (Kd.R_far (p := ⟨gb259, 2, none⟩) (Kd.R_far (p := ⟨gb259, 1, none⟩) (Kd.R_far (p := ⟨gb259, 0, none⟩) (Kd.rT9 HO279.out BK259.out (by decide)) (fun _ hk => hk.2) (.bool t273)) (fun _ hk => hk.2) (.slice Ao36 t274.length co36)) (fun _ hk => hk.2) (.slice Ao37 t277.length co37)) (fun _ hk => hk.1.1.1), by repeat (first | (with_reducible first | exact HB.out | apply bA9 | apply bN9 | apply bD9 | refine bS9 ?_ GE259.out | refine bS9 ?_ GE280.out) | exact HB.out)⟩
             ·rw [if_neg c29] at H
              have c29b0 : (t281.toList == a0.toList) = false := beq_eq_false_iff_ne.mpr c29
              have c29b1 : (t281.toList != a0.toList) = true := bne_iff_ne.mpr c29
              simp only [Option.some.injEq, Prod.mk.injEq] at H
              obtain ⟨rfl, rfl, rfl, rfl⟩ := H
              obtain ⟨Ao41, co41, eo41⟩ := Kd.rS9 HO_9.out
              subst eo41
              obtain ⟨Ao42, co42, eo42⟩ := Kd.rS9 HO_11.out
              subst eo42
              go_wp2_with (first | ((with_reducible refine gC9 (f := 27) rfl ?_); refine goesL_ (some 63) rfl rfl Tryz.func27 (by kernel_rfl) rfl #[.bool x4_1, .slice Ao41 t265.length co41, .slice Ao42 t269.length co42] rfl (by (try simp only [List.map_toArray, List.map_cons, List.map_nil]); first | done | rfl | (simp only [List.length_drop, List.length_take]; rfl)) ?_; (with_reducible refine (r3M.calls kj20 x4_1 _ _ t265 _ _ t269 t273 t274 t277 _ ?side1 ?side2 ?side3 ?side4 A27.out).mono ?_); (case side1 => repeat (first | exact (Kd.rR9 HO_9.out).2.2 | (with_reducible refine Kd.cA9 ?_ _) | (with_reducible refine Kd.cN9 ?_ _) | (with_reducible refine Kd.cD9 ?_))); (case side2 => exact (Kd.rR9 HO_9.out).2.1); (case side3 => repeat (first | exact (Kd.rR9 HO_11.out).2.2 | (with_reducible refine Kd.cA9 ?_ _) | (with_reducible refine Kd.cN9 ?_ _) | (with_reducible refine Kd.cD9 ?_))); (case side4 => exact (Kd.rR9 HO_11.out).2.1); rintro e w43 ⟨v275, v278, rfl, ho0, ho1, hb⟩; refine ⟨_, rfl, ?_⟩; have n0_ := Aside0.mk (Kd.R_mono (Kd.R_told (Kd.R_told (Kd.R_old (by (with_reducible repeat (first | apply Kd.rA9 | apply Kd.rN9 | apply Kd.rD9)); exact HO_9.out) hb) (Kd.R_base ho0)) (Kd.R_base ho1)) (fun _ h_ => h_.1)); have n1_ := Aside0.mk (Kd.R_mono (Kd.R_told (Kd.R_told (Kd.R_old (by (with_reducible repeat (first | apply Kd.rA9 | apply Kd.rN9 | apply Kd.rD9)); exact HO_11.out) hb) (Kd.R_base ho0)) (Kd.R_base ho1)) (fun _ h_ => h_.1)); have n2_ := Aside0.mk (Kd.rL9 (Kd.R_new' (Kd.R_new' ho0 (Kd.R_lt (by (with_reducible repeat (first | apply Kd.rA9 | apply Kd.rN9 | apply Kd.rD9)); exact HO_9.out))) (Kd.R_lt (by (with_reducible repeat (first | apply Kd.rA9 | apply Kd.rN9 | apply Kd.rD9)); exact HO_11.out))) (bZ9 (by repeat (first | (with_reducible first | exact HB.out | apply bA9 | apply bN9 | apply bD9 | refine bS9 ?_ GE259.out) | exact HB.out)))); have n3_ := Aside0.mk (Kd.rL9 (Kd.R_new' (Kd.R_new' ho1 (Kd.R_lt (by (with_reducible repeat (first | apply Kd.rA9 | apply Kd.rN9 | apply Kd.rD9)); exact HO_9.out))) (Kd.R_lt (by (with_reducible repeat (first | apply Kd.rA9 | apply Kd.rN9 | apply Kd.rD9)); exact HO_11.out))) (bZ9 (by repeat (first | (with_reducible first | exact HB.out | apply bA9 | apply bN9 | apply bD9 | refine bS9 ?_ GE259.out) | exact HB.out)))); have n4_ := Aside0.mk (kB9 (g := gb259) (o := .cells #[.bool false, .slice none 0 0, .slice none 0 0] 37 (0, 0)) (by (with_reducible repeat (first | refine kN9 ?_ _ | refine kD9 ?_ | refine kA9 ?_ _)); exact BK259.out) hb); have n5_ := Aside0.mk (bT9 (by repeat (first | (with_reducible first | exact HB.out | apply bA9 | apply bN9 | apply bD9 | refine bS9 ?_ GE259.out) | exact HB.out)) hb); clear HO_9; clear HO_11; clear BK259; clear HB; have HO_9 := n0_; have HO_11 := n1_; have HO276 := n2_; have HO279 := n3_; have BK259 := n4_; have HB := n5_; clear n0_ n1_ n2_ n3_ n4_ n5_; (try clear hb); (try clear hb2); (try clear hk); (try clear hi); (try clear ho0); (try clear ho1)) | ((with_reducible refine gD9 (N := 13) rfl ?_); refine bE9 ?hg (N := 13) ?hd (cs := #[.bool false, .slice none 0 0, .slice none 0 0]) (t := 37) ?hr ?_; (case hd => rfl); (case hg => rfl); (case hr => first | (go_simp; done) | (go_simp; rfl)); intro gb280 hg w44 hbox hb; have n0_ := Aside0.mk (Kd.rB9 (by (with_reducible repeat (first | apply Kd.rA9 | apply Kd.rN9 | apply Kd.rD9)); exact HO_9.out) hb); have n1_ := Aside0.mk (Kd.rB9 (by (with_reducible repeat (first | apply Kd.rA9 | apply Kd.rN9 | apply Kd.rD9)); exact HO_11.out) hb); have n2_ := Aside0.mk (Kd.rB9 (by (with_reducible repeat (first | apply Kd.rA9 | apply Kd.rN9 | apply Kd.rD9)); exact HO276.out) hb); have n3_ := Aside0.mk (Kd.rB9 (by (with_reducible repeat (first | apply Kd.rA9 | apply Kd.rN9 | apply Kd.rD9)); exact HO279.out) hb); have n4_ := Aside0.mk (kB9 (g := gb259) (o := .cells #[.bool false, .slice none 0 0, .slice none 0 0] 37 (0, 0)) (by (with_reducible repeat (first | refine kN9 ?_ _ | refine kD9 ?_ | refine kA9 ?_ _)); exact BK259.out) hb); have n5_ := Aside0.mk (bT9 (by repeat (first | (with_reducible first | exact HB.out | apply bA9 | apply bN9 | apply bD9 | refine bS9 ?_ GE259.out) | exact HB.out)) hb); have n6_ := Aside0.mk (hbox); have n7_ := Aside0.mk ((by rw [hg]; exact (bZ9 (by repeat (first | (with_reducible first | exact HB.out | apply bA9 | apply bN9 | apply bD9 | refine bS9 ?_ GE259.out) | exact HB.out))) : w.heap.size ≤ gb280)); have n8_ := Aside0.mk ((by rw [hg]; exact (bZ9 (by repeat (first | (with_reducible first | exact HB.out | apply bA9 | apply bN9 | apply bD9 | refine bS9 ?_ GE259.out) | exact HB.out))) : w.heap.size ≤ gb280)); have n9_ := Aside0.mk ((by rw [hg]; exact Nat.ne_of_lt (blk_lt (g := gb259) (o := .cells #[.bool false, .slice none 0 0, .slice none 0 0] 37 (0, 0)) (by (with_reducible repeat (first | refine kN9 ?_ _ | refine kD9 ?_ | refine kA9 ?_ _)); exact BK259.out)) : gb259 ≠ gb280)); have n10_ := Aside0.mk ((by rw [hg]; exact Nat.ne_of_gt (blk_lt (g := gb259) (o := .cells #[.bool false, .slice none 0 0, .slice none 0 0] 37 (0, 0)) (by (with_reducible repeat (first | refine kN9 ?_ _ | refine kD9 ?_ | refine kA9 ?_ _)); exact BK259.out)) : gb280 ≠ gb259)); clear HO_9; clear HO_11; clear HO276; clear HO279; clear BK259; clear HB; have HO_9 := n0_; have HO_11 := n1_; have HO276 := n2_; have HO279 := n3_; have BK259 := n4_; have HB := n5_; have BK280 := n6_; have GW280 := n7_; have GE280 := n8_; have NB259_280 := n9_; have NB280_259 := n10_; clear n0_ n1_ n2_ n3_ n4_ n5_ n6_ n7_ n8_ n9_ n10_; clear hb hbox hg; have hnb45 := NB280_259.out; have hnc45 := NB259_280.out; have hcz46_0 : w44.cell? ⟨gb280, 0, none⟩ = some (.bool false) := (kC9 BK280.out 0).trans rfl; have hcz46_1 : w44.cell? ⟨gb280, 1, none⟩ = some (.slice none 0 0) := (kC9 BK280.out 1).trans rfl; have hcz46_2 : w44.cell? ⟨gb280, 2, none⟩ = some (.slice none 0 0) := (kC9 BK280.out 2).trans rfl; have hfz46_0 := kF9 BK280.out 0; have hfz46_1 := kF9 BK280.out 1; have hfz46_2 := kF9 BK280.out 2; obtain ⟨Ao47, co47, eo47⟩ := Kd.rS9 HO276.out; subst eo47; obtain ⟨Ao48, co48, eo48⟩ := Kd.rS9 HO279.out; subst eo48) | ((with_reducible refine gC9 (f := 28) rfl ?_); refine goesL_ (some 65) rfl rfl Tryz.func28 (by kernel_rfl) rfl #[.agg #[.bool t273, .slice Ao47 t274.length co47, .slice Ao48 t277.length co48]] rfl (by (try simp only [List.map_toArray, List.map_cons, List.map_nil]); first | done | rfl | (simp only [List.length_drop, List.length_take]; rfl)) ?_; (with_reducible refine (r4R.calls kj20 t273 _ _ t274 _ _ t277 t281 _ ?side1 ?side2 ?side3 ?side4 A28.out).mono ?_); (case side1 => refine (Kd.rR9 (e := 3) (base := w.heap.size) (ok := fun k_ => ((some k_ ≠ (.slice Ao48 t277.length co48 : Value).ownBlock ∧ some k_ ≠ (.slice Ao41 t265.length co41 : Value).ownBlock) ∧ some k_ ≠ (.slice Ao42 t269.length co42 : Value).ownBlock)) (n := t274.length) (c := co47) ?_).2.2; exact (by (with_reducible repeat (first | apply Kd.rA9 | apply Kd.rN9 | apply Kd.rD9)); exact (Kd.R_mono (Kd.R_far (p := ⟨gb280, 2, none⟩) (Kd.R_far (p := ⟨gb280, 1, none⟩) (Kd.R_far (p := ⟨gb280, 0, none⟩) (Kd.rT9 HO276.out BK280.out (by decide)) (fun _ hk => hk.2) (.bool t273)) (fun _ hk => hk.2) (.slice Ao47 t274.length co47)) (fun _ hk => hk.2) (.slice Ao48 t277.length co48)) (fun _ h_ => h_.1)))); (case side2 => exact (Kd.rR9 HO276.out).2.1); (case side3 => refine (Kd.rR9 (e := 3) (base := w.heap.size) (ok := fun k_ => ((some k_ ≠ (.slice Ao47 t274.length co47 : Value).ownBlock ∧ some k_ ≠ (.slice Ao41 t265.length co41 : Value).ownBlock) ∧ some k_ ≠ (.slice Ao42 t269.length co42 : Value).ownBlock)) (n := t277.length) (c := co48) ?_).2.2; exact (by (with_reducible repeat (first | apply Kd.rA9 | apply Kd.rN9 | apply Kd.rD9)); exact (Kd.R_mono (Kd.R_far (p := ⟨gb280, 2, none⟩) (Kd.R_far (p := ⟨gb280, 1, none⟩) (Kd.R_far (p := ⟨gb280, 0, none⟩) (Kd.rT9 HO279.out BK280.out (by decide)) (fun _ hk => hk.2) (.bool t273)) (fun _ hk => hk.2) (.slice Ao47 t274.length co47)) (fun _ hk => hk.2) (.slice Ao48 t277.length co48)) (fun _ h_ => h_.1)))); (case side4 => exact (Kd.rR9 HO279.out).2.1); rintro e w49 ⟨rfl, hb⟩; refine ⟨_, rfl, ?_⟩; have n0_ := Aside0.mk (Kd.rB9 (by (with_reducible repeat (first | apply Kd.rA9 | apply Kd.rN9 | apply Kd.rD9)); exact (Kd.R_mono (Kd.R_far (p := ⟨gb280, 2, none⟩) (Kd.R_far (p := ⟨gb280, 1, none⟩) (Kd.R_far (p := ⟨gb280, 0, none⟩) (Kd.rT9 HO_9.out BK280.out (by decide)) (fun _ hk => hk.2) (.bool t273)) (fun _ hk => hk.2) (.slice Ao47 t274.length co47)) (fun _ hk => hk.2) (.slice Ao48 t277.length co48)) (fun _ h_ => h_.1))) hb); have n1_ := Aside0.mk (Kd.rB9 (by (with_reducible repeat (first | apply Kd.rA9 | apply Kd.rN9 | apply Kd.rD9)); exact (Kd.R_mono (Kd.R_far (p := ⟨gb280, 2, none⟩) (Kd.R_far (p := ⟨gb280, 1, none⟩) (Kd.R_far (p := ⟨gb280, 0, none⟩) (Kd.rT9 HO_11.out BK280.out (by decide)) (fun _ hk => hk.2) (.bool t273)) (fun _ hk => hk.2) (.slice Ao47 t274.length co47)) (fun _ hk => hk.2) (.slice Ao48 t277.length co48)) (fun _ h_ => h_.1))) hb); have n2_ := Aside0.mk (Kd.rB9 (by (with_reducible repeat (first | apply Kd.rA9 | apply Kd.rN9 | apply Kd.rD9)); exact (Kd.R_mono (Kd.R_far (p := ⟨gb280, 2, none⟩) (Kd.R_far (p := ⟨gb280, 1, none⟩) (Kd.R_far (p := ⟨gb280, 0, none⟩) (Kd.rT9 HO276.out BK280.out (by decide)) (fun _ hk => hk.2) (.bool t273)) (fun _ hk => hk.2) (.slice Ao47 t274.length co47)) (fun _ hk => hk.2) (.slice Ao48 t277.length co48)) (fun _ h_ => h_.1))) hb); have n3_ := Aside0.mk (Kd.rB9 (by (with_reducible repeat (first | apply Kd.rA9 | apply Kd.rN9 | apply Kd.rD9)); exact (Kd.R_mono (Kd.R_far (p := ⟨gb280, 2, none⟩) (Kd.R_far (p := ⟨gb280, 1, none⟩) (Kd.R_far (p := ⟨gb280, 0, none⟩) (Kd.rT9 HO279.out BK280.out (by decide)) (fun _ hk => hk.2) (.bool t273)) (fun _ hk => hk.2) (.slice Ao47 t274.length co47)) (fun _ hk => hk.2) (.slice Ao48 t277.length co48)) (fun _ h_ => h_.1))) hb); have n4_ := Aside0.mk (kB9 (g := gb259) (o := .cells #[.bool false, .slice none 0 0, .slice none 0 0] 37 (0, 0)) (by (with_reducible repeat (first | refine kN9 ?_ _ | refine kD9 ?_ | refine kA9 ?_ _)); refine blk_far ?_ NB259_280.out _; (with_reducible repeat (first | refine kN9 ?_ _ | refine kD9 ?_ | refine kA9 ?_ _)); refine blk_far ?_ NB259_280.out _; (with_reducible repeat (first | refine kN9 ?_ _ | refine kD9 ?_ | refine kA9 ?_ _)); refine blk_far ?_ NB259_280.out _; (with_reducible repeat (first | refine kN9 ?_ _ | refine kD9 ?_ | refine kA9 ?_ _)); exact BK259.out) hb); have n5_ := Aside0.mk (kB9 (g := gb280) (o := .cells #[.bool t273, .slice Ao47 t274.length co47, .slice Ao48 t277.length co48] 37 (0, 0)) (by (with_reducible repeat (first | refine kN9 ?_ _ | refine kD9 ?_ | refine kA9 ?_ _)); refine kP9 (cs := #[.bool t273, .slice Ao47 t274.length co47, .slice none 0 0]) ?_ 2 _ rfl; (with_reducible repeat (first | refine kN9 ?_ _ | refine kD9 ?_ | refine kA9 ?_ _)); refine kP9 (cs := #[.bool t273, .slice none 0 0, .slice none 0 0]) ?_ 1 _ rfl; (with_reducible repeat (first | refine kN9 ?_ _ | refine kD9 ?_ | refine kA9 ?_ _)); refine kP9 (cs := #[.bool false, .slice none 0 0, .slice none 0 0]) ?_ 0 _ rfl; (with_reducible repeat (first | refine kN9 ?_ _ | refine kD9 ?_ | refine kA9 ?_ _)); exact BK280.out) hb); have n6_ := Aside0.mk (bT9 (by repeat (first | (with_reducible first | exact HB.out | apply bA9 | apply bN9 | apply bD9 | refine bS9 ?_ GE259.out | refine bS9 ?_ GE280.out) | exact HB.out)) hb); clear HO_9; clear HO_11; clear HO276; clear HO279; clear BK259; clear BK280; clear HB; have HO_9 := n0_; have HO_11 := n1_; have HO276 := n2_; have HO279 := n3_; have BK259 := n4_; have BK280 := n5_; have HB := n6_; clear n0_ n1_ n2_ n3_ n4_ n5_ n6_; (try clear hb); (try clear hb2); (try clear hk); (try clear hi); have hcz50_0 : w49.cell? ⟨gb259, 0, none⟩ = some (.bool false) := (kC9 BK259.out 0).trans rfl; have hcz50_1 : w49.cell? ⟨gb259, 1, none⟩ = some (.slice none 0 0) := (kC9 BK259.out 1).trans rfl; have hcz50_2 : w49.cell? ⟨gb259, 2, none⟩ = some (.slice none 0 0) := (kC9 BK259.out 2).trans rfl; have hfz50_0 := kF9 BK259.out 0; have hfz50_1 := kF9 BK259.out 1; have hfz50_2 := kF9 BK259.out 2))
              refine bodyPost_ret (results_ct rfl _ _ gb259 37 #[.bool false, .slice none 0 0, .slice none 0 0] (0, 0) _ rfl (by (with_reducible repeat (first | refine kN9 ?_ _ | refine kD9 ?_ | refine kA9 ?_ _)); refine kP9 (cs := #[.bool false, .slice none 0 0, .slice none 0 0]) ?_ 2 _ rfl; (with_reducible repeat (first | refine kN9 ?_ _ | refine kD9 ?_ | refine kA9 ?_ _)); refine kP9 (cs := #[.bool false, .slice none 0 0, .slice none 0 0]) ?_ 1 _ rfl; (with_reducible repeat (first | refine kN9 ?_ _ | refine kD9 ?_ | refine kA9 ?_ _)); refine kP9 (cs := #[.bool false, .slice none 0 0, .slice none 0 0]) ?_ 0 _ rfl; (with_reducible repeat (first | refine kN9 ?_ _ | refine kD9 ?_ | refine kA9 ?_ _)); exact BK259.out) Tryz.underlying37 rfl (by kernel_rfl)) rfl ?_
              exact ⟨_, _, by first | rfl | (simp [eN9, eS9] <;> rfl) | (simp [*, eN9, eS9] <;> rfl), by first | exact Kd.R_nil _ _ _ _ _ | exact Kd.N_nil _ _ _ _ _ | exact Kd.V_nil _ _ _ _ _ | exact Kd.Q_nil _ _ _ _ _ | exact Kd.S_nil _ _ _ _ _, by first | exact Kd.R_nil _ _ _ _ _ | exact Kd.N_nil _ _ _ _ _ | exact Kd.V_nil _ _ _ _ _ | exact Kd.Q_nil _ _ _ _ _ | exact Kd.S_nil _ _ _ _ _, by repeat (first | (with_reducible first | exact HB.out | apply bA9 | apply bN9 | apply bD9 | refine bS9 ?_ GE259.out | refine bS9 ?_ GE280.out) | exact HB.out)⟩
end Go.Proofs.YtibaoacjjcgjlaaGreatDoor.Print

namespace Go.Proofs.YtibaoacjjcgjlaaGreatDoor.Print
open Go.RowKit Go.Proofs.YtibaoacjjcgjlaaGreatDoorW.PrintWords Go.Proofs.YtibaoacjjcgjlaaGreatDoorW.PrintLast Go.Proofs.YtibaoacjjcgjlaaGreatDoorW.PrintMore
attribute [local go_sem] max2_int min2_int max_two min_two max_three min_three max_four min_four   -- for this text's walks alone
set_option linter.unusedVariables false
set_option linter.unusedSimpArgs false
def nat_top.l0 : Nat → List Int → Int → Option (Int)
 | 0, _, _ => none
 | k + 1, x0, x3 => if x3 > 0 then (if 0 ≤ (wrap64 (x3 - 1)) then (if (wrap64 (x3 - 1)) < (x0.length : Int) then (if (rd x0 (wrap64 (x3 - 1))) = 0 then (nat_top.l0 k x0 (wrap64 (x3 - 1))) else (some x3)) else (none)) else (none)) else (some x3)
def nat_top.f (k : Nat) (l0 : List Int) : Option (Int) := nat_top.l0 k l0 (l0.length : Int)
set_option maxHeartbeats 8000000 in
set_option maxRecDepth 100000 in
theorem nat_top.calls (k : Nat) (A0 : Option Addr) (c0 : Nat) (l0 : List Int) (r : Int) (w : World) (hr0 : Kd.C (Kd.int .u32) w A0 l0.length l0) (hc0 : l0.length ≤ c0) (h : nat_top.f k l0 = some r) :
  Calls Tryz.prog 93 #[.slice A0 l0.length c0] w fun e w' => e = .returned (.int .i64 r) ∧ Drawn0 w w' := by
 have HR0 := Aside0.mk hr0
 have HC0 := Aside0.mk hc0
 clear hr0 hc0
 have H : (nat_top.l0 k l0 (l0.length : Int)) = some r := h
 clear h
 have H' := Aside0.mk H
 clear H
 go_enter Tryz.func93, Tryz.ntmps93
 go_wp2
 go_loopg [3] k (fun kq v3 w' => ∃ (x3_1 : Int), v3 = .int .i64 x3_1 ∧ Aside0 (nat_top.l0 kq l0 x3_1 = some r) ∧ Aside0 (kq ≤ k) ∧ Drawn0 w w')
 case atStart => exact ⟨((l0.length : Int)), (by first | rfl | (simp; done) | (simp [*]; done)), H', ⟨Nat.le_refl _⟩, by repeat (first | exact Drawn0.refl _ | apply Drawn0.step)⟩
 case round =>
  clear H'
  obtain ⟨x3_1, rfl, HA, HK1, ⟨m1, rfl⟩⟩ := hrel
  cases gk with
  | zero => exact absurd HA.out (by simp [nat_top.l0])
  | succ k1 =>
   have H := HA.out
   clear HA
   simp only [nat_top.l0] at H
   by_cases c2 : x3_1 > 0
   ·rw [if_pos c2] at H
    have c2b0 : decide (0 < x3_1) = true := decide_eq_true c2
    clear c2
    obtain ⟨ji3, hji3⟩ : ∃ j_ : Int, (wrap64 (x3_1 - 1)) = j_ := ⟨_, rfl⟩
    replace H : (if 0 ≤ (ji3) then (if (ji3) < (l0.length : Int) then (if (rd l0 (ji3)) = 0 then (nat_top.l0 k1 l0 ji3) else (some x3_1)) else (none)) else (none)) = some r := by first | (rw [hji3] at H; exact H) | (simp only [hji3] at H ⊢; exact H)
    have hji3w : (IntKind.i64.wrap (x3_1 - 1)) = ji3 := (i64_w _).trans hji3
    by_cases c4 : 0 ≤ (ji3)
    ·rw [if_pos c4] at H
     have c4b0 : decide (0 ≤ (ji3)) = true := decide_eq_true c4
     clear c4
     by_cases c5 : (ji3) < (l0.length : Int)
     ·rw [if_pos c5] at H
      have c5b0 : decide ((ji3) < (l0.length : Int)) = true := decide_eq_true c5
      clear c5
      by_cases c6 : (rd l0 (ji3)) = 0
      ·rw [if_pos c6] at H
       have c6b0 : ((rd l0 (ji3)) == 0) = true := beq_iff_eq.mpr c6
       have c6b1 : ((rd l0 (ji3)) != 0) = false := bne_eq_false_iff_eq.mpr c6
       clear c6
       have H' := Aside0.mk H
       clear H
       have p282 : 0 ≤ ((ji3) : Int) := of_decide_eq_true (by first | (with_reducible assumption) | assumption)
       have q282 : (ji3) < (l0.length : Int) := of_decide_eq_true (by first | (with_reducible assumption) | assumption)
       obtain ⟨ad282, e282, hx282_0⟩ := Kd.at_int HR0.out (ji3) p282 q282
       cases e282
       replace p282 := eq_true p282
       replace q282 := eq_true q282
       go_wp2
       go_roundg k1
       case measure => have := HK1.out; omega
       case rel => exact ⟨(ji3), (by first | rfl | (simp; done) | (simp only [← hji3] <;> (first | rfl | simp)) | (simp [*]; done)), H', ⟨by have := HK1.out; omega⟩, by repeat (first | exact Drawn0.refl _ | apply Drawn0.step)⟩
      ·rw [if_neg c6] at H
       have c6b0 : ((rd l0 (ji3)) == 0) = false := beq_eq_false_iff_ne.mpr c6
       have c6b1 : ((rd l0 (ji3)) != 0) = true := bne_iff_ne.mpr c6
       obtain rfl := Option.some.inj H
       have p282 : 0 ≤ ((ji3) : Int) := of_decide_eq_true (by first | (with_reducible assumption) | assumption)
       have q282 : (ji3) < (l0.length : Int) := of_decide_eq_true (by first | (with_reducible assumption) | assumption)
       obtain ⟨ad282, e282, hx282_0⟩ := Kd.at_int HR0.out (ji3) p282 q282
       cases e282
       replace p282 := eq_true p282
       replace q282 := eq_true q282
       go_wp2
       go_ret
       exact ⟨by first | rfl | (simp; done) | (simp only [← hji3] <;> (first | rfl | simp)) | (simp [*]; done), by repeat (first | exact Drawn0.refl _ | apply Drawn0.step)⟩
     ·rw [if_neg c5] at H
      exact absurd H (by simp)
    ·rw [if_neg c4] at H
     exact absurd H (by simp)
   ·rw [if_neg c2] at H
    have c2b0 : decide (0 < x3_1) = false := decide_eq_false c2
    clear c2
    obtain rfl := Option.some.inj H
    go_wp2
    go_ret
    exact ⟨by first | rfl | (simp; done) | (simp [*]; done), by repeat (first | exact Drawn0.refl _ | apply Drawn0.step)⟩
def nat_limb.f (l0 : List Int) (a1 : Int) : Option (Int) := if a1 < 0 then (some 0) else (if a1 ≥ (l0.length : Int) then (some 0) else (if 0 ≤ a1 then (if a1 < (l0.length : Int) then (some (IntKind.u64.wrap (rd l0 a1))) else (none)) else (none)))
set_option maxHeartbeats 8000000 in
set_option maxRecDepth 100000 in
theorem nat_limb.calls (A0 : Option Addr) (c0 : Nat) (l0 : List Int) (a1 : Int) (r : Int) (w : World) (hr0 : Kd.C (Kd.int .u32) w A0 l0.length l0) (hc0 : l0.length ≤ c0) (h : nat_limb.f l0 a1 = some r) :
  Calls Tryz.prog 64 #[.slice A0 l0.length c0, .int .i64 a1] w fun e w' => e = .returned (.int .u64 r) ∧ Drawn0 w w' := by
 have HR0 := Aside0.mk hr0
 have HC0 := Aside0.mk hc0
 clear hr0 hc0
 have H : (if a1 < 0 then (some 0) else (if a1 ≥ (l0.length : Int) then (some 0) else (if 0 ≤ a1 then (if a1 < (l0.length : Int) then (some (IntKind.u64.wrap (rd l0 a1))) else (none)) else (none)))) = some r := h
 clear h
 by_cases c3 : a1 < 0
 ·rw [if_pos c3] at H
  have c3b0 : decide (a1 < 0) = true := decide_eq_true c3
  clear c3
  obtain rfl := Option.some.inj H
  go_enter Tryz.func64, Tryz.ntmps64
  go_wp2
  go_ret
  exact ⟨by first | rfl | (simp; done) | (simp [*]; done), by repeat (first | exact Drawn0.refl _ | apply Drawn0.step)⟩
 ·rw [if_neg c3] at H
  have c3b0 : decide (a1 < 0) = false := decide_eq_false c3
  clear c3
  by_cases c4 : a1 ≥ (l0.length : Int)
  ·rw [if_pos c4] at H
   have c4b0 : decide ((l0.length : Int) ≤ a1) = true := decide_eq_true c4
   clear c4
   obtain rfl := Option.some.inj H
   go_enter Tryz.func64, Tryz.ntmps64
   go_wp2
   go_ret
   exact ⟨by first | rfl | (simp; done) | (simp [*]; done), by repeat (first | exact Drawn0.refl _ | apply Drawn0.step)⟩
  ·rw [if_neg c4] at H
   have c4b0 : decide ((l0.length : Int) ≤ a1) = false := decide_eq_false c4
   clear c4
   by_cases c5 : 0 ≤ a1
   ·rw [if_pos c5] at H
    have c5b0 : decide (0 ≤ a1) = true := decide_eq_true c5
    clear c5
    by_cases c6 : a1 < (l0.length : Int)
    ·rw [if_pos c6] at H
     have c6b0 : decide (a1 < (l0.length : Int)) = true := decide_eq_true c6
     clear c6
     obtain rfl := Option.some.inj H
     have p283 : 0 ≤ (a1 : Int) := of_decide_eq_true (by first | (with_reducible assumption) | assumption)
     have q283 : a1 < (l0.length : Int) := of_decide_eq_true (by first | (with_reducible assumption) | assumption)
     obtain ⟨ad283, e283, hx283_0⟩ := Kd.at_int HR0.out a1 p283 q283
     cases e283
     replace p283 := eq_true p283
     replace q283 := eq_true q283
     go_enter Tryz.func64, Tryz.ntmps64
     go_wp2
     go_ret
     exact ⟨by first | rfl | (simp; done) | (simp [*]; done), by repeat (first | exact Drawn0.refl _ | apply Drawn0.step)⟩
    ·rw [if_neg c6] at H
     exact absurd H (by simp)
   ·rw [if_neg c5] at H
    exact absurd H (by simp)
end Go.Proofs.YtibaoacjjcgjlaaGreatDoor.Print

namespace Go.Proofs.YtibaoacjjcgjlaaGreatDoor.Base
open Go.Lib
set_option linter.unusedVariables false
def valB (B : Nat) : List Int → Nat
  | [] => 0
  | d :: r => d.toNat + B * valB B r
theorem valB_nil (B : Nat) : valB B [] = 0 := rfl
theorem valB_cons (B : Nat) (d : Int) (r : List Int) : valB B (d :: r) = d.toNat + B * valB B r := rfl
def DigB (B : Nat) (l : List Int) : Prop := ∀ d ∈ l, 0 ≤ d ∧ d < (B : Int)
structure GoodB (B : Nat) (l : List Int) : Prop where
  dig : DigB B l
  can : l.getLast? ≠ some 0
theorem DigB.nil (B : Nat) : DigB B [] := fun d h => by cases h
theorem DigB.cons {B : Nat} {d : Int} {r : List Int} (h0 : 0 ≤ d) (h1 : d < (B : Int)) (h : DigB B r) : DigB B (d :: r) := fun x hx => by
  rcases List.mem_cons.1 hx with rfl | hx
  · exact ⟨h0, h1⟩
  · exact h x hx
theorem DigB.tail {B : Nat} {d : Int} {r : List Int} (h : DigB B (d :: r)) : DigB B r := fun x hx => h x (List.mem_cons_of_mem _ hx)
theorem DigB.append {B : Nat} {a b : List Int} (h : DigB B a) (k : DigB B b) : DigB B (a ++ b) := fun x hx => (List.mem_append.1 hx).elim (h x) (k x)
theorem valB_append (B : Nat) : ∀ a b : List Int, valB B (a ++ b) = valB B a + B ^ a.length * valB B b
  | [], b => by simp [valB]
  | d :: r, b => by
    rw [List.cons_append, valB_cons, valB_cons, valB_append B r b, List.length_cons, Nat.pow_succ, Nat.mul_add, Nat.mul_comm (B ^ r.length) B, Nat.mul_assoc]
    omega
theorem valB_lt (B : Nat) : ∀ l : List Int, DigB B l → valB B l < B ^ l.length
  | [], h => by simp [valB]
  | d :: r, h => by
    have ih := valB_lt B r h.tail
    have hd := h d (by simp)
    rw [valB_cons, List.length_cons, Nat.pow_succ, Nat.mul_comm (B ^ r.length) B]
    have h2 : B * (valB B r + 1) ≤ B * B ^ r.length := Nat.mul_le_mul_left B ih
    rw [Nat.mul_add] at h2
    omega
theorem GoodB.nil (B : Nat) : GoodB B [] := ⟨DigB.nil B, by simp⟩
theorem GoodB.tail {B : Nat} {d : Int} {r : List Int} (h : GoodB B (d :: r)) : GoodB B r := by
  refine ⟨h.dig.tail, fun c => h.can ?_⟩
  cases r with
  | nil => cases c
  | cons e s => rw [List.getLast?_cons_cons]; exact c
theorem GoodB.zero {B : Nat} : ∀ {l : List Int}, GoodB B l → valB B l = 0 → l = []
  | [], _, _ => rfl
  | d :: r, h, hv => by
    have hd := h.dig d (by simp)
    rw [valB_cons] at hv
    have h0 : d = 0 := by omega
    have hB : 0 < B := by omega
    have hr : valB B r = 0 := by
      have : B * valB B r = 0 := by omega
      rcases Nat.mul_eq_zero.1 this with h | h
      · omega
      · exact h
    have := h.tail.zero hr
    subst this
    exact absurd (by rw [h0]; rfl) h.can
theorem GoodB.inj {B : Nat} : ∀ {l m : List Int}, GoodB B l → GoodB B m → valB B l = valB B m → l = m
  | [], m, _, hm, e => (hm.zero e.symm).symm
  | d :: r, [], hl, _, e => hl.zero e
  | d :: r, x :: s, hl, hm, e => by
    have hd := hl.dig d (by simp)
    have hx := hm.dig x (by simp)
    rw [valB_cons, valB_cons] at e
    have hB : 0 < B := by omega
    have e1 : d.toNat = x.toNat := by
      have h1 := congrArg (· % B) e
      simp only [Nat.add_mul_mod_self_left] at h1
      rwa [Nat.mod_eq_of_lt (by omega), Nat.mod_eq_of_lt (by omega)] at h1
    have e2 : valB B r = valB B s := Nat.eq_of_mul_eq_mul_left hB (by omega)
    rw [show d = x by omega, hl.tail.inj hm.tail e2]
def trimL : List Int → List Int
  | [] => []
  | d :: r => if trimL r = [] then (if d = 0 then [] else [d]) else d :: trimL r
theorem trimL_cons (d : Int) (r : List Int) : trimL (d :: r) = if trimL r = [] then (if d = 0 then [] else [d]) else d :: trimL r := rfl
theorem trimL_val (B : Nat) : ∀ l : List Int, valB B (trimL l) = valB B l
  | [] => rfl
  | d :: r => by
    have ih := trimL_val B r
    rw [trimL_cons]
    split
    · rename_i h
      rw [h, valB_nil] at ih
      split
      · rename_i h0; rw [valB_cons, ← ih, h0]; rfl
      · rw [valB_cons, valB_cons, ← ih, valB_nil]
    · rw [valB_cons, valB_cons, ih]
theorem trimL_dig {B : Nat} : ∀ {l : List Int}, DigB B l → DigB B (trimL l)
  | [], h => h
  | d :: r, h => by
    have ih := trimL_dig h.tail
    have hd := h d (by simp)
    rw [trimL_cons]
    split
    · split
      · exact DigB.nil B
      · exact DigB.cons hd.1 hd.2 (DigB.nil B)
    · exact DigB.cons hd.1 hd.2 ih
theorem trimL_can : ∀ l : List Int, (trimL l).getLast? ≠ some 0
  | [] => by simp [trimL]
  | d :: r => by
    have ih := trimL_can r
    rw [trimL_cons]
    split
    · split
      · simp
      · rename_i h; simpa using h
    · rename_i h
      cases hr : trimL r with
      | nil => exact absurd hr h
      | cons e s => rw [List.getLast?_cons_cons, ← hr]; exact ih
theorem trimL_good {B : Nat} {l : List Int} (h : DigB B l) : GoodB B (trimL l) := ⟨trimL_dig h, trimL_can l⟩
theorem trimL_take : ∀ l : List Int, trimL l = l.take (trimL l).length
  | [] => rfl
  | d :: r => by
    have ih := trimL_take r
    rw [trimL_cons]
    split
    · split <;> simp
    · rw [List.length_cons, List.take_succ_cons, ← ih]
theorem trimL_of_good {l : List Int} (h : l.getLast? ≠ some 0) : trimL l = l := by
  induction l with
  | nil => rfl
  | cons d r ih =>
    rw [trimL_cons]
    cases r with
    | nil =>
      have : d ≠ 0 := fun e => h (by rw [e]; rfl)
      simp [trimL, this]
    | cons e s =>
      have := ih (by rw [List.getLast?_cons_cons] at h; exact h)
      rw [this]; simp
theorem trimL_snoc_zero (l : List Int) : trimL (l ++ [0]) = trimL l := by
  induction l with
  | nil => rfl
  | cons d r ih => rw [List.cons_append, trimL_cons, trimL_cons, ih]
theorem trimL_snoc (l : List Int) (d : Int) (h : d ≠ 0) : trimL (l ++ [d]) = l ++ [d] := trimL_of_good (by simpa using h)
def digF (B : Nat) : Nat → Nat → List Int
  | 0, _ => []
  | f + 1, v => if v = 0 then [] else ((v % B : Nat) : Int) :: digF B f (v / B)
def digB (B v : Nat) : List Int := digF B (v.log2 + 1) v
theorem digF_val (B : Nat) (hB : 2 ≤ B) : ∀ f v, v < 2 ^ f → valB B (digF B f v) = v ∧ GoodB B (digF B f v)
  | 0, v, h => by
    obtain rfl : v = 0 := by simpa using h
    exact ⟨rfl, GoodB.nil B⟩
  | f + 1, v, h => by
    unfold digF
    by_cases h0 : v = 0
    · rw [if_pos h0, h0]; exact ⟨rfl, GoodB.nil B⟩
    · rw [if_neg h0]
      have hd : v / B < 2 ^ f := by
        refine Nat.div_lt_of_lt_mul (Nat.lt_of_lt_of_le h ?_)
        rw [Nat.pow_succ, Nat.mul_comm]
        exact Nat.mul_le_mul_right _ hB
      obtain ⟨ih1, ih2⟩ := digF_val B hB f (v / B) hd
      have hm : v % B < B := Nat.mod_lt _ (by omega)
      refine ⟨?_, DigB.cons (by omega) (by omega) ih2.dig, fun c => ?_⟩
      · rw [valB_cons, ih1, Int.toNat_natCast]; exact Nat.mod_add_div v B
      · cases hr : digF B f (v / B) with
        | nil =>
          rw [hr] at c ih1
          have h1 : ((v % B : Nat) : Int) = 0 := by simpa using c
          rw [valB_nil] at ih1
          have := Nat.mod_add_div v B
          rw [← ih1] at this
          omega
        | cons e s =>
          rw [hr, List.getLast?_cons_cons, ← hr] at c
          exact ih2.can c
theorem digB_val (B : Nat) (hB : 2 ≤ B) (v : Nat) : valB B (digB B v) = v := (digF_val B hB _ v Nat.lt_log2_self).1
theorem digB_good (B : Nat) (hB : 2 ≤ B) (v : Nat) : GoodB B (digB B v) := (digF_val B hB _ v Nat.lt_log2_self).2
theorem GoodB.eq {B : Nat} (hB : 2 ≤ B) {l : List Int} (h : GoodB B l) : l = digB B (valB B l) := h.inj (digB_good B hB _) (digB_val B hB _).symm
theorem trimL_eq {B : Nat} (hB : 2 ≤ B) {l : List Int} (h : DigB B l) : trimL l = digB B (valB B l) := by
  have := (trimL_good h).eq hB
  rw [trimL_val] at this; exact this
theorem GoodB.len_lt {B : Nat} {l : List Int} (h : GoodB B l) (hl : l ≠ []) : B ^ (l.length - 1) ≤ valB B l := by
  have e : l = l.dropLast ++ [l.getLast hl] := (List.dropLast_concat_getLast hl).symm
  have hg : l.getLast hl ≠ 0 := fun c => h.can (by rw [List.getLast?_eq_some_getLast hl, c])
  have hd := h.dig _ (List.getLast_mem hl)
  have hv : valB B l = valB B l.dropLast + B ^ l.dropLast.length * (l.getLast hl).toNat := by
    conv => lhs; rw [e]
    rw [valB_append, valB_cons, valB_nil, Nat.mul_zero, Nat.add_zero]
  rw [hv, List.length_dropLast]
  have : B ^ (l.length - 1) * 1 ≤ B ^ (l.length - 1) * (l.getLast hl).toNat := Nat.mul_le_mul_left _ (by omega)
  omega
def padD : Nat → Nat → List UInt8
  | 0, _ => []
  | k + 1, r => padD k (r / 10) ++ [UInt8.ofNat (48 + r % 10)]
theorem padD_length : ∀ k r, (padD k r).length = k
  | 0, _ => rfl
  | k + 1, r => by unfold padD; rw [List.length_append, padD_length k]; rfl
theorem dec_small {u : Nat} (h : u < 10) : decDigits u = [UInt8.ofNat (48 + u)] := by rw [decDigits, dif_pos h]
theorem dec_big {u : Nat} (h : ¬ u < 10) : decDigits u = decDigits (u / 10) ++ [UInt8.ofNat (48 + u % 10)] := by rw [decDigits, dif_neg h]
theorem dec_ne (u : Nat) : decDigits u ≠ [] := by
  by_cases h : u < 10
  · rw [dec_small h]; simp
  · rw [dec_big h]; simp
theorem dec_grow (q d : Nat) (hq : 0 < q) (hd : d < 10) : decDigits (10 * q + d) = decDigits q ++ [UInt8.ofNat (48 + d)] := by
  rw [dec_big (by omega), show (10 * q + d) / 10 = q by omega, show (10 * q + d) % 10 = d by omega]
theorem padD_zero : ∀ k, padD k 0 = List.replicate k 48
  | 0 => rfl
  | k + 1 => by
    unfold padD
    rw [show 0 / 10 = 0 from rfl, padD_zero k, List.replicate_succ']; rfl
theorem padD_dec : ∀ (k p : Nat), p < 10 ^ (k + 1) → (decDigits p).length ≤ k + 1 ∧ padD (k + 1) p = List.replicate (k + 1 - (decDigits p).length) 48 ++ decDigits p
  | 0, p, h => by
    have h10 : p < 10 := by simpa using h
    rw [dec_small h10]
    refine ⟨by simp, ?_⟩
    unfold padD padD
    simp [Nat.mod_eq_of_lt h10]
  | k + 1, p, h => by
    by_cases h10 : p < 10
    · rw [dec_small h10]
      refine ⟨by simp, ?_⟩
      unfold padD
      rw [Nat.div_eq_of_lt h10, padD_zero, Nat.mod_eq_of_lt h10]; rfl
    · have hp : 10 ^ (k + 1 + 1) = 10 ^ (k + 1) * 10 := Nat.pow_succ 10 (k + 1)
      have h1 : p / 10 < 10 ^ (k + 1) := Nat.div_lt_of_lt_mul (by rw [hp] at h; omega)
      obtain ⟨ih1, ih2⟩ := padD_dec k (p / 10) h1
      rw [dec_big h10]
      refine ⟨by simp; omega, ?_⟩
      conv => lhs; unfold padD
      rw [ih2, List.length_append, List.length_singleton, List.append_assoc, show k + 1 + 1 - ((decDigits (p / 10)).length + 1) = k + 1 - (decDigits (p / 10)).length by omega]
def numD (l : List UInt8) : Nat := l.foldl (fun a c => 10 * a + (c.toNat - 48)) 0
theorem numD_snoc (l : List UInt8) (c : UInt8) : numD (l ++ [c]) = 10 * numD l + (c.toNat - 48) := by simp [numD]
def DigL (l : List UInt8) : Prop := ∀ c ∈ l, 48 ≤ c.toNat ∧ c.toNat ≤ 57
theorem ofNat_digit (d : Nat) (h : d < 10) : (UInt8.ofNat (48 + d)).toNat = 48 + d := by
  rw [UInt8.toNat_ofNat']; omega
theorem digit_back (c : UInt8) (h : 48 ≤ c.toNat ∧ c.toNat ≤ 57) : UInt8.ofNat (48 + (c.toNat - 48)) = c := by
  apply UInt8.toNat_inj.1
  rw [ofNat_digit _ (by omega)]; omega
theorem dec_num_all (u : Nat) : numD (decDigits u) = u ∧ DigL (decDigits u) ∧ (1 ≤ u → (decDigits u).head? ≠ some 48) := by
  induction u using Nat.strongRecOn with
  | ind u ih =>
    by_cases h : u < 10
    · rw [dec_small h]
      have e := ofNat_digit u h
      refine ⟨by show 10 * 0 + _ = _; rw [e]; omega, fun c hc => by rw [List.mem_singleton.1 hc, e]; omega, fun h1 c => ?_⟩
      have := congrArg UInt8.toNat (Option.some.inj c)
      rw [e] at this
      have h48 : (48 : UInt8).toNat = 48 := rfl
      omega
    · obtain ⟨i1, i2, i3⟩ := ih (u / 10) (by omega)
      have hm : u % 10 < 10 := Nat.mod_lt _ (by decide)
      have e := ofNat_digit (u % 10) hm
      rw [dec_big h]
      refine ⟨by rw [numD_snoc, i1, e]; omega, fun c hc => ?_, fun h1 => ?_⟩
      · rcases List.mem_append.1 hc with x | x
        · exact i2 c x
        · rw [List.mem_singleton.1 x, e]; omega
      · have hne := dec_ne (u / 10)
        cases hd : decDigits (u / 10) with
        | nil => exact absurd hd hne
        | cons a b =>
          have := i3 (by omega)
          rw [hd] at this
          simpa using this
theorem num_dec (u : Nat) : numD (decDigits u) = u := (dec_num_all u).1
theorem dec_dig (u : Nat) : DigL (decDigits u) := (dec_num_all u).2.1
theorem dec_inj {u v : Nat} (h : decDigits u = decDigits v) : u = v := by rw [← num_dec u, h, num_dec]
def NatL (l : List UInt8) : Prop := l ≠ [] ∧ DigL l ∧ (l.head? = some 48 → l.length = 1)
theorem dec_of_num : ∀ (n : Nat) (l : List UInt8), l.length = n → NatL l → decDigits (numD l) = l ∧ (l.head? ≠ some 48 → 1 ≤ numD l)
  | 0, l, hn, h => absurd (List.eq_nil_of_length_eq_zero hn) h.1
  | n + 1, l, hn, h => by
    have e : l = l.dropLast ++ [l.getLast h.1] := (List.dropLast_concat_getLast h.1).symm
    generalize hc : l.getLast h.1 = c at e
    generalize hm : l.dropLast = m at e
    have hcd : 48 ≤ c.toNat ∧ c.toNat ≤ 57 := h.2.1 c (by rw [← hc]; exact List.getLast_mem h.1)
    cases m with
    | nil =>
      rw [List.nil_append] at e
      subst e
      have ev : numD [c] = c.toNat - 48 := by show 10 * 0 + _ = _; omega
      refine ⟨by rw [ev, dec_small (by omega), digit_back c hcd], fun hh => ?_⟩
      rw [ev]
      have : c.toNat ≠ 48 := fun h' => hh (by show some c = some 48; rw [show c = 48 from UInt8.toNat_inj.1 (by rw [h']; rfl)])
      omega
    | cons a b =>
      have hml : (a :: b).length = n := by rw [e] at hn; simp at hn ⊢; omega
      have ha : a ≠ 48 := fun hh => by
        have := h.2.2 (by rw [e, hh]; rfl)
        rw [e] at this; simp at this
      have hN : NatL (a :: b) := ⟨by simp, fun x hx => h.2.1 x (by rw [e]; exact List.mem_append_left _ hx), fun hh => absurd (by simpa using hh) ha⟩
      obtain ⟨i1, i2⟩ := dec_of_num n (a :: b) hml hN
      have hpos := i2 (by simpa using ha)
      rw [e, numD_snoc]
      refine ⟨by rw [dec_grow _ _ (by omega) (by omega), i1, digit_back c hcd], fun _ => by omega⟩
theorem dec_numL {l : List UInt8} (h : NatL l) : decDigits (numD l) = l := (dec_of_num l.length l rfl h).1
end Go.Proofs.YtibaoacjjcgjlaaGreatDoor.Base

namespace Go.Proofs.YtibaoacjjcgjlaaGreatDoor.Base
set_option linter.unusedVariables false
def sumB (B : Nat) (f : Nat → Nat) : Nat → Nat
  | 0 => 0
  | n + 1 => sumB B f n + B ^ n * f n
theorem sumB_congr {B : Nat} {f g : Nat → Nat} : ∀ {n : Nat}, (∀ i, i < n → f i = g i) → sumB B f n = sumB B g n
  | 0, _ => rfl
  | n + 1, h => by rw [sumB, sumB, sumB_congr (n := n) (fun i hi => h i (by omega)), h n (by omega)]
theorem sumB_add {B : Nat} {f g : Nat → Nat} : ∀ n, sumB B (fun i => f i + g i) n = sumB B f n + sumB B g n
  | 0 => rfl
  | n + 1 => by rw [sumB, sumB, sumB, sumB_add n, Nat.mul_add]; omega
theorem sumB_zero {B : Nat} {f : Nat → Nat} : ∀ {n : Nat}, (∀ i, i < n → f i = 0) → sumB B f n = 0
  | 0, _ => rfl
  | n + 1, h => by rw [sumB, sumB_zero (n := n) (fun i hi => h i (by omega)), h n (by omega)]; simp
theorem sumB_succ' {B : Nat} {f : Nat → Nat} : ∀ n, sumB B f (n + 1) = f 0 + B * sumB B (fun i => f (i + 1)) n
  | 0 => by simp [sumB]
  | n + 1 => by
    rw [sumB, sumB_succ' n, sumB, Nat.mul_add, Nat.pow_succ, Nat.mul_comm (B ^ n) B, Nat.mul_assoc]; omega
def limbN (l : List Int) (i : Nat) : Nat := (l.getD i 0).toNat
theorem limbN_nil (i : Nat) : limbN [] i = 0 := by simp [limbN]
theorem limbN_zero (d : Int) (r : List Int) : limbN (d :: r) 0 = d.toNat := rfl
theorem limbN_succ (d : Int) (r : List Int) (i : Nat) : limbN (d :: r) (i + 1) = limbN r i := by simp [limbN]
theorem limbN_out {l : List Int} {i : Nat} (h : l.length ≤ i) : limbN l i = 0 := by simp [limbN, List.getElem?_eq_none h]
theorem limbN_lt {B : Nat} {l : List Int} (hB : 0 < B) (h : DigB B l) (i : Nat) : limbN l i < B := by
  unfold limbN
  rcases Nat.lt_or_ge i l.length with c | c
  · have := h l[i] (List.getElem_mem c)
    simp [List.getElem?_eq_getElem c]; omega
  · simp [List.getElem?_eq_none c]; exact hB
theorem sumB_limb {B : Nat} : ∀ (l : List Int) (n : Nat), l.length ≤ n → sumB B (limbN l) n = valB B l
  | [], n, _ => by rw [valB_nil]; exact sumB_zero (fun i _ => limbN_nil i)
  | d :: r, 0, h => by simp at h
  | d :: r, n + 1, h => by
    rw [sumB_succ', valB_cons, limbN_zero, show (fun i => limbN (d :: r) (i + 1)) = limbN r from funext (limbN_succ d r), sumB_limb r n (by simpa using h)]
theorem sumB_lt {B : Nat} {f : Nat → Nat} (hB : 0 < B) (h : ∀ i, f i < B) : ∀ n, sumB B f n < B ^ n
  | 0 => by simp [sumB]
  | n + 1 => by
    have h1 := sumB_lt hB h n
    have h2 : B ^ n * (f n + 1) ≤ B ^ n * B := Nat.mul_le_mul_left _ (h n)
    rw [sumB, Nat.pow_succ]
    rw [Nat.mul_add, Nat.mul_one] at h2
    omega
theorem sum_lt {B : Nat} {f g : Nat → Nat} (hB : 0 < B) (hf : ∀ i, f i < B) : ∀ n x, x < n → (∀ i, x < i → i < n → f i = g i) → f x < g x → sumB B f n < sumB B g n
  | 0, x, hx, _, _ => by omega
  | n + 1, x, hx, he, hl => by
    rw [sumB, sumB]
    by_cases e : x = n
    · subst e
      have h1 := sumB_lt hB hf x
      have h2 : B ^ x * (f x + 1) ≤ B ^ x * g x := Nat.mul_le_mul_left _ hl
      rw [Nat.mul_add, Nat.mul_one] at h2
      omega
    · have ih := sum_lt hB hf n x (by omega) (fun i h1 h2 => he i h1 (by omega)) hl
      rw [he n (by omega) (by omega)]
      omega
def cmpN (x y : Nat) : Int := if x < y then -1 else if y < x then 1 else 0
def putB (B : Nat) (f : Nat → Nat) : Nat → List Int × Nat
  | 0 => ([], 0)
  | n + 1 => ((putB B f n).1 ++ [(((f n + (putB B f n).2) % B : Nat) : Int)], (f n + (putB B f n).2) / B)
theorem putB_len {B : Nat} {f : Nat → Nat} : ∀ n, (putB B f n).1.length = n
  | 0 => rfl
  | n + 1 => by rw [putB, List.length_append, putB_len n]; rfl
theorem putB_spec {B : Nat} (hB : 0 < B) {f : Nat → Nat} : ∀ n, valB B (putB B f n).1 + B ^ n * (putB B f n).2 = sumB B f n ∧ DigB B (putB B f n).1
  | 0 => by simp [putB, valB, sumB]; exact DigB.nil B
  | n + 1 => by
    obtain ⟨h1, h2⟩ := putB_spec hB (f := f) n
    have hm := Nat.mod_add_div (f n + (putB B f n).2) B
    have hl := Nat.mod_lt (f n + (putB B f n).2) hB
    rw [putB, sumB, ← h1]
    generalize hx : f n + (putB B f n).2 = x at hm hl ⊢
    refine ⟨?_, h2.append (DigB.cons (by omega) (by omega) (DigB.nil B))⟩
    rw [valB_append, putB_len, valB_cons, valB_nil, Nat.mul_zero, Nat.add_zero, Int.toNat_natCast, Nat.pow_succ, Nat.mul_assoc]
    dsimp only
    have : B ^ n * (x % B) + B ^ n * (B * (x / B)) = B ^ n * f n + B ^ n * (putB B f n).2 := by rw [← Nat.mul_add, hm, ← hx, Nat.mul_add]
    omega
theorem putB_carry {B : Nat} (hB : 0 < B) {f : Nat → Nat} {K : Nat} (hK : ∀ i, f i ≤ K * (B - 1)) : ∀ n, (putB B f n).2 ≤ K
  | 0 => Nat.zero_le _
  | n + 1 => by
    have h1 := putB_carry hB hK n
    have h2 := hK n
    rw [putB]
    show (f n + (putB B f n).2) / B ≤ K
    have : f n + (putB B f n).2 ≤ K * B := by
      have : K * B = K * (B - 1) + K := by
        rw [Nat.mul_sub, Nat.mul_one]
        have : K * 1 ≤ K * B := Nat.mul_le_mul_left _ hB
        omega
      omega
    exact Nat.div_le_of_le_mul (by rw [Nat.mul_comm B K]; exact this)
theorem gathered {B : Nat} (hB : 2 ≤ B) {f : Nat → Nat} {n : Nat} {t : List Int} (ht : DigB B t) (hv : valB B t = (putB B f n).2) :
    trimL ((putB B f n).1 ++ t) = digB B (sumB B f n) := by
  obtain ⟨h1, h2⟩ := putB_spec (show 0 < B by omega) (f := f) n
  rw [trimL_eq hB (h2.append ht), valB_append, putB_len, hv, h1]
def rowC (B : Nat) (a : List Int) (m up : Nat) : Nat → Nat
  | 0 => 0
  | i + 1 => if i < up then rowC B a m up i else (limbN a (i - up) * m + rowC B a m up i) / B
def rowF (B : Nat) (a : List Int) (m up i : Nat) : Nat := if i < up then 0 else (limbN a (i - up) * m + rowC B a m up i) % B
theorem rowC_lt {B : Nat} (hB : 0 < B) {a : List Int} (ha : DigB B a) {m : Nat} (hm : m < B) (up : Nat) : ∀ i, rowC B a m up i < B
  | 0 => hB
  | i + 1 => by
    have h := rowC_lt hB ha hm up i
    unfold rowC
    split
    · exact h
    · have hl := limbN_lt hB ha (i - up)
      refine Nat.div_lt_of_lt_mul ?_
      have : limbN a (i - up) * m ≤ (B - 1) * (B - 1) := Nat.mul_le_mul (by omega) (by omega)
      have e : (B - 1) * (B - 1) + (B - 1) < B * B := by
        obtain ⟨k, rfl⟩ : ∃ k, B = k + 1 := ⟨B - 1, by omega⟩
        simp only [Nat.add_sub_cancel, Nat.mul_add, Nat.add_mul, Nat.mul_one, Nat.one_mul]; omega
      omega
theorem rowC_low {B : Nat} (a : List Int) (m up : Nat) : ∀ i, i ≤ up → rowC B a m up i = 0
  | 0, _ => rfl
  | i + 1, h => by unfold rowC; rw [if_pos (by omega)]; exact rowC_low a m up i (by omega)
theorem rowF_sum {B : Nat} (a : List Int) (m up : Nat) : ∀ n, up ≤ n → sumB B (rowF B a m up) n + B ^ n * rowC B a m up n = B ^ up * (m * sumB B (limbN a) (n - up))
  | 0, h => by
    obtain rfl : up = 0 := by omega
    simp [sumB, rowC]
  | n + 1, h => by
    rcases Nat.lt_or_ge n up with c | c
    · obtain rfl : up = n + 1 := by omega
      rw [rowC_low a m (n + 1) (n + 1) (Nat.le_refl _), Nat.sub_self, sumB_zero (fun i hi => by unfold rowF; rw [if_pos (by omega)])]
      simp [sumB]
    · have ih := rowF_sum (B := B) a m up n c
      rw [sumB, show n + 1 - up = (n - up) + 1 by omega, sumB, Nat.mul_add, Nat.mul_add, ← ih]
      have e1 : rowF B a m up n = (limbN a (n - up) * m + rowC B a m up n) % B := by unfold rowF; rw [if_neg (by omega)]
      have e2 : rowC B a m up (n + 1) = (limbN a (n - up) * m + rowC B a m up n) / B := by
        show (if n < up then rowC B a m up n else (limbN a (n - up) * m + rowC B a m up n) / B) = _
        rw [if_neg (by omega)]
      rw [e1, e2]
      have e3 := Nat.mod_add_div (limbN a (n - up) * m + rowC B a m up n) B
      have e4 : B ^ up * (m * (B ^ (n - up) * limbN a (n - up))) = B ^ n * (limbN a (n - up) * m) := by
        rw [show B ^ n = B ^ up * B ^ (n - up) by rw [← Nat.pow_add]; congr 1; omega, Nat.mul_assoc, Nat.mul_left_comm m, Nat.mul_comm m]
      rw [e4, Nat.pow_succ, Nat.mul_assoc]
      generalize limbN a (n - up) * m = x at e3 ⊢
      generalize (x + rowC B a m up n) % B = y at e3 ⊢
      generalize (x + rowC B a m up n) / B = z at e3 ⊢
      have : B ^ n * y + B ^ n * (B * z) = B ^ n * x + B ^ n * rowC B a m up n := by rw [← Nat.mul_add, e3, Nat.mul_add]
      omega
theorem row_val {B : Nat} (hB : 2 ≤ B) {a : List Int} (ha : DigB B a) {m : Nat} (hm : m < B) (up : Nat) : sumB B (rowF B a m up) (a.length + up + 1) = B ^ up * (m * valB B a) := by
  have h := rowF_sum (B := B) a m up (a.length + up + 1) (by omega)
  rw [show a.length + up + 1 - up = a.length + 1 by omega, sumB_limb a (a.length + 1) (by omega)] at h
  have hz : rowC B a m up (a.length + up + 1) = 0 := by
    unfold rowC
    rw [if_neg (by omega), limbN_out (by omega), Nat.zero_mul, Nat.zero_add]
    exact Nat.div_eq_of_lt (rowC_lt (by omega) ha hm up _)
  rw [hz, Nat.mul_zero, Nat.add_zero] at h
  exact h
def shlF (B S T : Nat) (a : List Int) (i : Nat) : Nat := limbN a i * S % B + (if i = 0 then 0 else limbN a (i - 1) / T)
theorem shl_sum {B S T : Nat} (hST : B = S * T) (hS : 0 < S) (hT : 0 < T) (a : List Int) : ∀ n, sumB B (shlF B S T a) n + B ^ n * (if n = 0 then 0 else limbN a (n - 1) / T) = S * sumB B (limbN a) n
  | 0 => by simp [sumB]
  | n + 1 => by
    have ih := shl_sum hST hS hT a n
    rw [sumB, sumB, Nat.mul_add, ← ih, if_neg (by omega), Nat.add_sub_cancel, shlF, Nat.mul_add]
    have e : limbN a n * S % B + B * (limbN a n / T) = S * limbN a n := by
      have h1 : limbN a n * S / B = limbN a n / T := by rw [hST, Nat.mul_comm (limbN a n) S, Nat.mul_div_mul_left _ _ hS]
      rw [← h1, Nat.mod_add_div, Nat.mul_comm]
    have e2 : B ^ n * (limbN a n * S % B) + B ^ n * (B * (limbN a n / T)) = S * (B ^ n * limbN a n) := by rw [← Nat.mul_add, e, Nat.mul_left_comm]
    rw [Nat.pow_succ, Nat.mul_assoc]
    omega
theorem shl_val {B S T : Nat} (hST : B = S * T) (hS : 0 < S) (hT : 0 < T) (a : List Int) : sumB B (shlF B S T a) (a.length + 1) = S * valB B a := by
  have h := shl_sum hST hS hT a (a.length + 1)
  rw [sumB_limb a _ (by omega)] at h
  have hn := shl_sum hST hS hT a a.length
  rw [if_neg (by omega), Nat.add_sub_cancel] at h
  rw [limbN_out (Nat.le_refl _), Nat.zero_div, Nat.mul_zero, Nat.add_zero] at h
  exact h
def shrF (S T : Nat) (a : List Int) (i : Nat) : Nat := limbN a i / S + limbN a (i + 1) % S * T
theorem shr_val {B S T : Nat} (hST : B = S * T) (hS : 0 < S) : ∀ (a : List Int), sumB B (shrF S T a) a.length = valB B a / S
  | [] => by simp [sumB, valB]
  | d :: r => by
    rw [List.length_cons, sumB_succ', show (fun i => shrF S T (d :: r) (i + 1)) = shrF S T r from funext fun i => by simp [shrF, limbN_succ], shr_val hST hS r, valB_cons]
    have e1 : shrF S T (d :: r) 0 = d.toNat / S + limbN r 0 % S * T := by simp [shrF, limbN_succ, limbN_zero]
    have e2 : limbN r 0 % S = valB B r % S := by
      cases r with
      | nil => rfl
      | cons e s => rw [limbN_zero, valB_cons, hST, Nat.mul_assoc, Nat.add_mul_mod_self_left]
    rw [e1, e2]
    generalize valB B r = v
    have h1 := Nat.mod_add_div v S
    have h2 : B * v = S * (T * v) := by rw [hST, Nat.mul_assoc]
    rw [h2, Nat.add_mul_div_left _ _ hS]
    have h3 : v % S * T + B * (v / S) = T * v := by
      rw [hST]
      calc v % S * T + S * T * (v / S) = (v % S + S * (v / S)) * T := by rw [Nat.add_mul, Nat.mul_assoc, Nat.mul_assoc, Nat.mul_comm T]
        _ = T * v := by rw [h1, Nat.mul_comm]
    omega
end Go.Proofs.YtibaoacjjcgjlaaGreatDoor.Base

namespace Go.Proofs.YtibaoacjjcgjlaaGreatDoor.Print
open Go.RowKit Go.Proofs.YtibaoacjjcgjlaaGreatDoorW.PrintWords Go.Proofs.YtibaoacjjcgjlaaGreatDoorW.PrintLast Go.Proofs.YtibaoacjjcgjlaaGreatDoorW.PrintMore Go.Proofs.YtibaoacjjcgjlaaGreatDoor.Base
set_option linter.unusedVariables false
set_option linter.unusedSimpArgs false
theorem top_law (l : List Int) (hl : l.length ≤ 4611686018427387904) : ∀ (x k : Nat), x ≤ l.length → x < k → nat_top.l0 k l (x : Int) = some ((trimL (l.take x)).length : Int)
  | 0, k, _, hk => by
    obtain ⟨k, rfl⟩ : ∃ m, k = m + 1 := ⟨k - 1, by omega⟩
    simp only [nat_top.l0]
    rw [if_neg (by omega)]
    simp [trimL]
  | x + 1, k, hx, hk => by
    obtain ⟨k, rfl⟩ : ∃ m, k = m + 1 := ⟨k - 1, by omega⟩
    have e : wrap64 (((x + 1 : Nat) : Int) - 1) = (x : Int) := by unfold wrap64; omega
    have hd : l.take (x + 1) = l.take x ++ [rd l (x : Int)] := by
      rw [List.take_succ_eq_append_getElem (by omega)]
      congr 2
      simp [rd, show x < l.length by omega]
    simp only [nat_top.l0]
    rw [e, if_pos (by omega), if_pos (by omega), if_pos (by omega), hd]
    by_cases h0 : rd l (x : Int) = 0
    · rw [if_pos h0, h0, trimL_snoc_zero]
      exact top_law l hl x k (by omega) (by omega)
    · rw [if_neg h0, trimL_snoc _ _ h0, List.length_append, List.length_take, Nat.min_eq_left (by omega)]
      rfl
theorem top_f (l : List Int) (hl : l.length ≤ 4611686018427387904) : nat_top.f (l.length + 1) l = some ((trimL l).length : Int) := by
  unfold nat_top.f
  rw [top_law l hl l.length (l.length + 1) (Nat.le_refl _) (Nat.lt_succ_self _), List.take_length]
theorem top_calls (A0 : Option Addr) (c0 : Nat) (l0 : List Int) (w : World) (hr0 : Kd.C (Kd.int .u32) w A0 l0.length l0) (hc0 : l0.length ≤ c0) (hl : l0.length ≤ 4611686018427387904) :
    Calls Tryz.prog 93 #[.slice A0 l0.length c0] w fun e w' => e = .returned (.int .i64 ((trimL l0).length : Int)) ∧ Drawn0 w w' :=
  nat_top.calls (l0.length + 1) A0 c0 l0 _ w hr0 hc0 (top_f l0 hl)
def okN (l : List Int) : Bool := decide (l.length ≤ 1048576) && l.all (fun d => decide (0 ≤ d) && decide (d < 4294967296))
theorem okN_iff {l : List Int} : okN l = true ↔ l.length ≤ 1048576 ∧ DigB 4294967296 l := by
  unfold okN DigB
  simp
theorem limb_f (l : List Int) (i : Int) (h : DigB 4294967296 l) : nat_limb.f l i = some (if i < 0 then 0 else (limbN l i.toNat : Int)) := by
  unfold nat_limb.f
  by_cases h1 : i < 0
  · rw [if_pos h1, if_pos h1]
  · rw [if_neg h1, if_neg h1]
    by_cases h2 : i ≥ (l.length : Int)
    · rw [if_pos h2, limbN_out (by omega)]; rfl
    · rw [if_neg h2, if_pos (by omega), if_pos (by omega)]
      obtain ⟨j, rfl⟩ : ∃ j : Nat, i = j := ⟨i.toNat, by omega⟩
      have hj : j < l.length := by omega
      have hm := h l[j] (List.getElem_mem hj)
      simp only [limbN, rd, hj, Int.toNat_natCast, List.getD_eq_getElem?_getD, List.getElem?_eq_getElem, Option.getD_some]
      rw [IntKind.wrap_u64]
      congr 1
      omega
theorem limb_calls (A0 : Option Addr) (c0 : Nat) (l0 : List Int) (i : Int) (w : World) (hr0 : Kd.C (Kd.int .u32) w A0 l0.length l0) (hc0 : l0.length ≤ c0) (hd : DigB 4294967296 l0) :
    Calls Tryz.prog 64 #[.slice A0 l0.length c0, .int .i64 i] w fun e w' => e = .returned (.int .u64 (if i < 0 then 0 else (limbN l0 i.toNat : Int))) ∧ Drawn0 w w' :=
  nat_limb.calls A0 c0 l0 i _ w hr0 hc0 (limb_f l0 i hd)
end Go.Proofs.YtibaoacjjcgjlaaGreatDoor.Print

namespace Go.Proofs.YtibaoacjjcgjlaaGreatDoor.Print
open Go.RowKit Go.Shelf Go.Proofs.YtibaoacjjcgjlaaGreatDoorW.PrintWords Go.Proofs.YtibaoacjjcgjlaaGreatDoorW.PrintLast Go.Proofs.YtibaoacjjcgjlaaGreatDoorW.PrintMore Go.Proofs.YtibaoacjjcgjlaaGreatDoor.Base
attribute [local go_sem] max2_int min2_int max_two min_two   -- for this text's walks alone
set_option linter.unusedVariables false
set_option linter.unusedSimpArgs false
set_option maxRecDepth 100000 in
set_option maxHeartbeats 2000000 in
theorem clone_calls (A : Option Addr) (c : Nat) (l : List Int) (w : World) (hC : Kd.C (Kd.int .u32) w A l.length l) (h8 : l.length * 4 ≤ 140737488355328) :
    Calls Tryz.prog 92 #[.slice A l.length c] w fun e w' => ∃ v, e = .returned v ∧ Kd.R (Kd.int .u32) 88 w' w.heap.size (fun _ => True) v l ∧ Below w.heap.size w w' := by
  cases A with
  | none =>
    have hl : l = [] := by
      cases l with
      | nil => rfl
      | cons x r => obtain ⟨_, e, _⟩ := hC.2.2 (by simp); cases e
    subst hl
    show Calls _ _ #[.slice none 0 c] w _
    have hq := fun w => Lib.run_eql_slice_nil (P := Tryz.prog) w 29 88 none 0 c 0 0 Tryz.underlying29
    simp only [Option.isNone_none] at hq
    go_enter Tryz.func92, Tryz.ntmps92
    go_wp2
    go_ret
    exact ⟨_, rfl, Kd.R_nil _ _ _ _ _, Below.refl _ _⟩
  | some ad =>
    have hq := fun w => Lib.run_eql_slice_nil (P := Tryz.prog) w 29 88 (some ad) l.length c 0 0 Tryz.underlying29
    simp only [Option.isNone_some] at hq
    have HC := Aside0.mk hC
    have H8 := Aside0.mk h8
    clear hC h8
    go_enter Tryz.func92, Tryz.ntmps92
    go_wp2_with ((with_reducible refine gate_builtin (b := .append) (xs := #[.tmp 5, .tmp 6]) rfl ?_); at_builtin; refine Kd.R_append_rows (Kd.int .u32) (w0 := w) w.heap.size rfl (.tmp 5) (.tmp 6) 29 88 (.int .u32 0) 4 rfl Tryz.underlying29 info88 rfl (by decide) (by omega) (.slice (some ⟨w.heap.size, 0, none⟩) 0 0) [] l (some ad) l.length c (fun _ => True) (fun _ => False) rfl rfl ?aO (Kd.cB9 HC.out (bA9 (Below.refl _ _) _)) (fun _ _ h => h) (fun _ hk => hk.elim) (fun _ _ => trivial) ?aB ?aS ?aL ?_; (case aO => exact Kd.R_of_own (World.ownsRow_made w #[] 0 (Nat.le_refl _) (Nat.zero_le _) rfl) (fun _ _ => trivial)); (case aB => exact bA9 (Below.refl _ _) _); (case aS => simp); (case aL => have := H8.out; simp; omega); intro v' w9 ho hb hg hat; rw [List.nil_append] at ho; have HO := Aside0.mk ho; have HB := Aside0.mk hb; clear ho hb hg hat)
    go_ret
    exact ⟨_, rfl, HO.out, HB.out⟩
theorem trimL_len_le (l : List Int) : (trimL l).length ≤ l.length := by
  have h := congrArg List.length (trimL_take l)
  rw [List.length_take] at h
  omega
def nat_Trim.f (l0 : List Int) : Option (List Int) := if okN l0 = true then some (trimL l0) else none
set_option maxRecDepth 100000 in
set_option maxHeartbeats 4000000 in
theorem nat_Trim.calls (A0 : Option Addr) (c0 : Nat) (l0 : List Int) (r : List Int) (w : World) (hr0 : Kd.C (Kd.int .u32) w A0 l0.length l0) (hc0 : l0.length ≤ c0) (h : nat_Trim.f l0 = some r) :
    Calls Tryz.prog 56 #[.slice A0 l0.length c0] w fun e w' => ∃ v0_ : Value, e = .returned (v0_) ∧ Kd.R (Kd.int .u32) 88 w' w.heap.size (fun _ => True) v0_ r ∧ Below w.heap.size w w' := by
  unfold nat_Trim.f at h
  by_cases hg : okN l0 = true
  · rw [if_pos hg] at h
    obtain rfl := Option.some.inj h
    obtain ⟨n0, d0⟩ := okN_iff.1 hg
    have hm := trimL_len_le l0
    have TOP := fun W h => top_calls A0 c0 l0 W h hc0 (by omega)
    have CLO := fun W h => clone_calls A0 c0 (trimL l0) W h (by omega)
    have hCt := Kd.C_take hr0 hm
    rw [← trimL_take] at hCt
    obtain ⟨m, hmm⟩ : ∃ m, (trimL l0).length = m := ⟨_, rfl⟩
    obtain ⟨n, hnn⟩ : ∃ n, l0.length = n := ⟨_, rfl⟩
    rw [hmm] at TOP CLO hm hCt
    rw [hnn] at TOP hm hc0 n0 hr0 ⊢
    have p1 : (0 : Int) ≤ (m : Int) := by omega
    have p2 : (m : Int) ≤ (c0 : Int) := by omega
    have CC := Aside0.mk hr0
    have CT := Aside0.mk hCt
    clear hr0 hCt hg h d0 hmm hnn
    go_enter Tryz.func56, Tryz.ntmps56
    go_wp2_with (first | (go_at_call 93; refine (TOP _ CC.out).mono ?_; rintro e w1 ⟨rfl, ⟨q, rfl⟩⟩) | (go_at_call 92; refine (CLO _ (by (repeat (first | (with_reducible exact CT.out) | (with_reducible refine Kd.cN9 ?_ _) | (with_reducible refine Kd.cD9 ?_))))).mono ?_; rintro e w2 ⟨v, rfl, hR, hB⟩))
    all_goals
      go_ret
      exact ⟨_, rfl, hR, (bN9 (Below.refl _ _) _).trans hB⟩
  · rw [if_neg hg] at h; cases h
theorem boxed_to {W : World} {B : Nat} {t : TypeId} {v v' : Value} (h : Boxed W B t v) (e : v = v') : Boxed W B t v' := e ▸ h
def backs (n : Nat) : List (Fin n) := (List.finRange n).reverse
theorem backs_length (n : Nat) : (backs n).length = n := by simp [backs]
theorem backs_take (n j : Nat) (h : j < n) : (backs n).take (n - j) = (backs n).take (n - 1 - j) ++ [⟨j, h⟩] := by
  rw [show n - j = n - 1 - j + 1 by omega, List.take_succ_eq_append_getElem (by rw [backs_length]; omega)]
  congr 2
  apply Fin.ext
  simp [backs]
  omega
def BackKeeps (n₀ Bs : Nat) (W W' : World) : Prop := Below n₀ W W' ∧ ∀ t v, Boxed W Bs t v → Boxed W' Bs t v
theorem BackKeeps.refl (n₀ Bs : Nat) (W : World) : BackKeeps n₀ Bs W W := ⟨Below.refl _ _, fun _ _ h => h⟩
theorem BackKeeps.trans {n₀ Bs : Nat} {A B C : World} (h : BackKeeps n₀ Bs A B) (k : BackKeeps n₀ Bs B C) : BackKeeps n₀ Bs A C := ⟨h.1.trans k.1, fun t v hv => k.2 t v (h.2 t v hv)⟩
theorem backKeeps_b {n₀ Bs : Nat} {w : World} (hn : n₀ ≤ w.heap.size) (W : World) (l : Nat) (o o' : Obj) (hl : w.heap.size ≤ l) (h : W.heap[l]? = some o) (hc : o.isCells = false) (hk : o.isWalk = false) : BackKeeps n₀ Bs W (W.putObj l o') :=
  ⟨belowK_b hn W l o o' hl h hc hk, fun t v hv => hv.kept (grownBy_putObj' W l o') (fun e => by
    obtain rfl : Bs = l := by simpa using e
    rw [show W.heap[Bs]? = _ from hv] at h; cases h; cases hc)⟩
set_option maxRecDepth 100000 in
set_option maxHeartbeats 2000000 in
theorem down1_in (F : Fence) (n : Nat) (h7 : F.fn 101) (hro : F.round = none) (hn : 1 ≤ n) (l Bs N n0 : Nat) (hN : N ≤ 4611686018427387904) (J Jx : List (Fin N) → World → Prop)
    (hY : ∀ (pre : List (Fin N)) (x : Fin N) (W : World), J pre W → pre.length < N → YieldAt F (n - 1) Tryz.prog l #[.int .i64 (x.1 : Int)] W fun e W' =>
      (e = .returned (.bool true) ∧ J (pre ++ [x]) W' ∧ BackKeeps n0 Bs W W') ∨ (e = .returned (.bool false) ∧ Jx (pre ++ [x]) W'))
    (W : World) (hBs : Boxed W Bs 3 (.int .i64 (N : Int))) (h0 : J [] W) :
    CallsIn F n Tryz.prog 101 #[.func (.yield l) #[] #[], .pointer (some ⟨Bs, 0, none⟩)] W fun e W' => (∃ v, e = .returned v) ∧
      ((∃ ys, ys = backs N ∧ J ys W') ∨ (∃ pre, pre <+: backs N ∧ Jx pre W')) := by
  refine callsIn_of_wp Tryz.func101 rfl h7 ?_ hro
  simp only [Tryz.ntmps101, List.size_toArray, List.length_cons, List.length_nil, Nat.reduceAdd, Nat.reduceSub, Array.replicate_succ, Array.replicate_zero, List.push_toArray, List.append_toArray, List.nil_append, List.cons_append]
  have hc0 := hBs.cell
  gi_wp2
  gi_loopw [3] (fun v wr => ∃ i : Int, -1 ≤ i ∧ i < N ∧ v = .int .i64 i ∧ J ((backs N).take (((N : Int) - 1 - i).toNat)) wr ∧ BackKeeps n0 Bs W wr)
    (fun v _ => ((intOf v) + 1).toNat)
  case atStart => exact ⟨(N : Int) - 1, by omega, by omega, rfl, by rw [show ((N : Int) - 1 - ((N : Int) - 1)).toNat = 0 by omega]; exact h0, BackKeeps.refl _ _ _⟩
  case round =>
    obtain ⟨i, hi0, hi1, rfl, hJs, hkp⟩ := hrel
    by_cases hlt : 0 ≤ i
    · have hbx := (hkp.2 _ _ hBs).cell
      obtain ⟨j, rfl⟩ : ∃ j : Nat, i = j := ⟨i.toNat, by omega⟩
      have hj : j < N := by omega
      obtain ⟨fn, tmps, assign, body, hy, hR⟩ := hY _ (⟨j, hj⟩ : Fin N) wr hJs (by rw [List.length_take, backs_length]; omega)
      dsimp only at hy
      gi_wp2
      refine hR.mono ?_
      rintro e W3 (⟨rfl, hJ3, hk3⟩ | ⟨rfl, hJx3⟩)
      · gi_wp2
        go_roundw
        case rel => exact ⟨(j : Int) - 1, by omega, by omega, rfl, by rw [show ((N : Int) - 1 - ((j : Int) - 1)).toNat = N - j by omega, backs_take _ _ hj]; rw [show ((N : Int) - 1 - (j : Int)).toNat = N - 1 - j by omega] at hJ3; exact hJ3, hkp.trans hk3⟩
        case measure => simp [intOf]
      · gi_wp2
        refine bodyPost_ret (results_none rfl _ _ _) rfl ?_
        rw [show ((N : Int) - 1 - (j : Int)).toNat = N - 1 - j by omega, ← backs_take _ _ hj] at hJx3
        exact ⟨⟨_, rfl⟩, .inr ⟨_, List.take_prefix _ _, hJx3⟩⟩
    · obtain rfl : i = -1 := by omega
      have hd : decide ((0 : Int) ≤ -1) = false := by decide
      gi_wp2
      go_end0
      rw [show ((N : Int) - 1 - (-1)).toNat = N by omega, List.take_of_length_le (by rw [backs_length]; omega)] at hJs
      exact ⟨⟨_, rfl⟩, .inl hJs⟩
theorem down_stops (F : Fence) (n : Nat) (h7 : F.fn 101) (hro : F.round = none) (hn : 1 ≤ n) (Bs N n0 : Nat) (hN : N ≤ 4611686018427387904) (w : World) (hBs : Boxed w Bs 3 (.int .i64 (N : Int))) :
    SeqStopsK F n Tryz.prog 101 #[.pointer (some ⟨Bs, 0, none⟩)] (fun x : Fin N => #[Value.int .i64 (x.1 : Int)]) (BackKeeps n0 Bs) (fun ys => ys = backs N) (fun pre => pre <+: backs N) N w := fun l J Jx W hW _ _ hY hj => by
  have hb : Boxed W Bs 3 (.int .i64 (N : Int)) := (hW.block Bs hBs.lt).trans hBs
  exact down1_in F n h7 hro hn l Bs N n0 hN J Jx hY W hb hj
set_option maxRecDepth 100000 in
set_option maxHeartbeats 8000000 in
theorem down_calls (A : Option Addr) (la ca : Nat) (B : Option Addr) (lb cb b : Nat) (w : World) (h0 : w.cell? ⟨b, 0, none⟩ = some (.slice A la ca)) (h1 : w.cell? ⟨b, 1, none⟩ = some (.slice B lb cb)) (hb : b < w.heap.size) (hla : la ≤ 4611686018427387904) (hlb : lb ≤ 4611686018427387904) :
    Calls Tryz.prog 63 #[.slice (some ⟨b, 0, none⟩) 2 2] w fun e w' => e = .returned (.func (.func 101) #[] #[.pointer (some ⟨w.heap.size, 0, none⟩)]) ∧ Boxed w' w.heap.size 3 (.int .i64 ((max la lb : Nat) : Int)) ∧ Below w.heap.size w w' := by
  have H0 := Aside0.mk h0
  have H1 := Aside0.mk h1
  clear h0 h1
  go_enter Tryz.func63, Tryz.ntmps63
  go_wp2
  go_loopg [8] 3 (fun kq v8 w' => ∃ (i c : Nat), v8 = .int .i64 (i : Int) ∧ Aside0 (i + kq = 3 ∧ i ≤ 2 ∧ (i = 0 → c = 0) ∧ (i = 1 → c = la) ∧ (i = 2 → c = max la lb)) ∧ Aside0 (Boxed w' w.heap.size 3 (.int .i64 (c : Int))) ∧ Aside0 (Below w.heap.size w w'))
  case atStart => exact ⟨0, 0, rfl, ⟨by omega, by omega, fun _ => rfl, by omega, by omega⟩, ⟨Boxed.new w 3 (.int .i64 0)⟩, ⟨bA9 (Below.refl _ _) _⟩⟩
  case round =>
    obtain ⟨i, c, rfl, HI, HB, HL⟩ := hrel
    have h0 := (HL.out.cell (p := ⟨b, 0, none⟩) hb).trans H0.out
    have h1 := (HL.out.cell (p := ⟨b, 1, none⟩) hb).trans H1.out
    have hc := HB.out.cell
    have hf := HB.out.frozen
    obtain ⟨i1, i2, i3, i4, i5⟩ := HI.out
    cases gk with
    | zero => omega
    | succ k1 =>
      clear HI
      rcases (by omega : i = 0 ∨ i = 1 ∨ i = 2) with rfl | rfl | rfl
      · obtain rfl := i3 rfl
        clear i3 i4 i5 h1
        go_wp2
        all_goals
          go_roundg k1
          case measure => omega
          case rel => exact ⟨1, la, rfl, ⟨by omega, by omega, by omega, fun _ => rfl, by omega⟩, ⟨boxed_to (HB.out.set _) (by first | rfl | (congr 1; omega))⟩, ⟨HL.out.setCell (p := ⟨w.heap.size, 0, none⟩) (Nat.le_refl _) _⟩⟩
      · obtain rfl := i4 rfl
        clear i3 i4 i5 h0
        go_wp2
        all_goals
          go_roundg k1
          case measure => omega
          case rel => exact ⟨2, max c lb, rfl, ⟨by omega, by omega, by omega, by omega, fun _ => rfl⟩, ⟨boxed_to (HB.out.set _) (by first | rfl | (congr 1; omega))⟩, ⟨HL.out.setCell (p := ⟨w.heap.size, 0, none⟩) (Nat.le_refl _) _⟩⟩
      · obtain rfl := i5 rfl
        clear i3 i4 i5 h0 h1
        go_wp2
        go_ret
        exact ⟨rfl, HB.out, HL.out⟩
end Go.Proofs.YtibaoacjjcgjlaaGreatDoor.Print

namespace Go.Proofs.YtibaoacjjcgjlaaGreatDoor.Print
open Go.RowKit Go.Proofs.YtibaoacjjcgjlaaGreatDoorW.PrintWords Go.Proofs.YtibaoacjjcgjlaaGreatDoorW.PrintLast Go.Proofs.YtibaoacjjcgjlaaGreatDoorW.PrintMore
attribute [local go_sem] max2_int min2_int max_two min_two max_three min_three max_four min_four   -- for this text's walks alone
set_option linter.unusedVariables false
set_option linter.unusedSimpArgs false
def quo_Short.l0 : Nat → List Int → Int → List Int → Int → Int → Option (List Int × Int × Int)
 | 0, _, _, _, _, _ => none
 | k + 1, x0, x1, x7, x8, x9 => if x9 ≥ 0 then (if 0 ≤ x9 then (if x9 < (x0.length : Int) then (if (IntKind.u64.wrap (x1)) = 0 then (none) else (if x9 < (x7.length : Int) then (quo_Short.l0 k x0 x1 (x7.set (x9 : Int).toNat ((IntKind.u64.wrap (Int.tdiv (Go.bits .or .u64 (IntKind.u64.wrap (x8 * 4294967296)) (IntKind.u64.wrap (rd x0 x9))) (IntKind.u64.wrap (x1)))) % 4294967296)) (Int.tmod (Go.bits .or .u64 (IntKind.u64.wrap (x8 * 4294967296)) (IntKind.u64.wrap (rd x0 x9))) (IntKind.u64.wrap (x1))) (wrap64 (x9 - 1))) else (none))) else (none)) else (none)) else ((nat_Trim.f x7).bind fun t106 => (some (t106, (x8) % 4294967296, 0)))
def quo_Short.f (k : Nat) (l0 : List Int) (a1 : Int) : Option (List Int × Int × Int) := if a1 = 0 then (some (([] : List Int), 0, 17)) else (if 0 ≤ (l0.length : Int) then (if ((l0.length : Int) : Int).toNat ≤ 70368744177664 then (quo_Short.l0 k l0 a1 (List.replicate ((l0.length : Int) : Int).toNat 0) 0 (wrap64 ((l0.length : Int) - 1))) else (none)) else (none))
set_option maxHeartbeats 8000000 in
set_option maxRecDepth 100000 in
theorem quo_Short.calls (k : Nat) (A0 : Option Addr) (c0 : Nat) (l0 : List Int) (a1 : Int) (r1 : List Int) (r2 : Int) (r3 : Int) (w : World) (hr0 : Kd.C (Kd.int .u32) w A0 l0.length l0) (hc0 : l0.length ≤ c0) (h : quo_Short.f k l0 a1 = some (r1, r2, r3)) :
  Calls Tryz.prog 57 #[.slice A0 l0.length c0, .int .u32 a1] w fun e w' => ∃ v0_ : Value, e = .returned (.tuple #[v0_, .int .u32 r2, .int .i64 r3]) ∧ Kd.R (Kd.int .u32) 88 w' w.heap.size (fun _ => True) v0_ r1 ∧ Below w.heap.size w w' := by
 have HR0 := Aside0.mk hr0
 have HC0 := Aside0.mk hc0
 clear hr0 hc0
 have HB := Aside0.mk (Below.refl w.heap.size w)
 have H : (if a1 = 0 then (some (([] : List Int), 0, 17)) else (if 0 ≤ (l0.length : Int) then (if ((l0.length : Int) : Int).toNat ≤ 70368744177664 then (quo_Short.l0 k l0 a1 (List.replicate ((l0.length : Int) : Int).toNat 0) 0 (wrap64 ((l0.length : Int) - 1))) else (none)) else (none))) = some (r1, r2, r3) := h
 clear h
 by_cases c3 : a1 = 0
 ·rw [if_pos c3] at H
  have c3b0 : (a1 == 0) = true := beq_iff_eq.mpr c3
  have c3b1 : (a1 != 0) = false := bne_eq_false_iff_eq.mpr c3
  clear c3
  simp only [Option.some.injEq, Prod.mk.injEq] at H
  obtain ⟨rfl, rfl, rfl⟩ := H
  go_enter Tryz.func57, Tryz.ntmps57
  go_wp2
  go_ret3
  exact ⟨_, by first | rfl | (simp [eN9, eS9] <;> rfl) | (simp [*, eN9, eS9] <;> rfl), by first | exact Kd.R_nil _ _ _ _ _ | exact Kd.N_nil _ _ _ _ _ | exact Kd.V_nil _ _ _ _ _ | exact Kd.Q_nil _ _ _ _ _ | exact Kd.S_nil _ _ _ _ _, by repeat (first | (with_reducible first | exact HB.out | apply bA9 | apply bN9 | apply bD9) | exact HB.out)⟩
 ·rw [if_neg c3] at H
  have c3b0 : (a1 == 0) = false := beq_eq_false_iff_ne.mpr c3
  have c3b1 : (a1 != 0) = true := bne_iff_ne.mpr c3
  by_cases c4 : 0 ≤ (l0.length : Int)
  ·rw [if_pos c4] at H
   have c4b0 := eq_true c4
   try (have h_c4 := c4; rw [ByteArray.size_append] at h_c4; have c4b3 := eq_true h_c4; have c4b4 := eq_false (Nat.not_lt.2 h_c4); clear h_c4)
   have c4b1 : decide (0 ≤ (l0.length : Int)) = true := decide_eq_true c4
   clear c4
   by_cases c5 : ((l0.length : Int) : Int).toNat ≤ 70368744177664
   ·rw [if_pos c5] at H
    have c5b0 := eq_true c5
    try (have h_c5 := c5; rw [ByteArray.size_append] at h_c5; have c5b3 := eq_true h_c5; have c5b4 := eq_false (Nat.not_lt.2 h_c5); clear h_c5)
    have c5b1 : decide (((l0.length : Int) : Int).toNat ≤ 70368744177664) = true := decide_eq_true c5
    clear c5
    obtain ⟨y101, hy101⟩ : ∃ y_ : List Int, y_ = (List.replicate ((l0.length : Int) : Int).toNat 0) := ⟨_, rfl⟩
    replace H : (quo_Short.l0 k l0 a1 y101 0 (wrap64 ((l0.length : Int) - 1))) = some (r1, r2, r3) := by first | (rw [hy101]; with_reducible exact H) | (have H2_ := (Option.bind_some _ _).symm.trans H; rw [hy101]; with_reducible exact H2_) | (have H2_ := (Option.bind_some _ _).symm.trans H; with_reducible exact H2_) | with_reducible exact H | (rw [hy101]; exact H) | exact H
    have Ny101 := Aside0.mk hy101
    clear hy101
    have H' := Aside0.mk H
    clear H
    go_enter Tryz.func57, Tryz.ntmps57
    go_wp2_with (first | ((with_reducible refine gD9 (N := 14) rfl ?_); refine Kd.R_make (Kd.int .u32) _ 88 rfl (N := 14) rfl 29 _ _ rfl (l0.length : Int) rfl rfl Tryz.underlying29 (.int .u32 0) 4 info88 rfl (by decide) (by omega) 0 (ok := fun _ => True) (okp := fun _ => True) rfl (fun _ hk => hk) trivial (of_decide_eq_true (by first | (with_reducible assumption) | assumption)) (Nat.le_trans (Nat.mul_le_mul_right _ (of_decide_eq_true (by first | (with_reducible assumption) | assumption) : (l0.length : Int).toNat ≤ 70368744177664)) (by omega)) (Below.refl _ _) (Nat.le_refl _) ?_; intro v102 w6 ho7 hb hg_ hnew_; clear hg_ hnew_; (first | rw [← Ny101.out] at ho7 | (simp only [Int.reduceToNat] at ho7; rw [← Ny101.out] at ho7)); have n0_ := Aside0.mk (Kd.rL9 ho7 (bZ9 (by repeat (first | (with_reducible first | exact HB.out | apply bA9 | apply bN9 | apply bD9) | exact HB.out)))); have n1_ := Aside0.mk (bT9 (by repeat (first | (with_reducible first | exact HB.out | apply bA9 | apply bN9 | apply bD9) | exact HB.out)) hb); clear HB; have HO103 := n0_; have HB := n1_; clear n0_ n1_; clear hb ho7))
    go_loopg [8, 9] k (fun kq v8 v9 w' => ∃ (x7_1 : List Int) (x8_1 : Int) (x9_1 : Int), v8 = .int .u64 x8_1 ∧ v9 = .int .i64 x9_1 ∧ Aside0 (quo_Short.l0 kq l0 a1 x7_1 x8_1 x9_1 = some (r1, r2, r3)) ∧ Aside0 (kq ≤ k) ∧ Aside0 (Kd.R (Kd.int .u32) 88 w' w.heap.size (fun _ => True) v102 x7_1) ∧ Aside0 (Below w.heap.size w w'))
    case atStart => exact ⟨(y101), (0), (wrap64 ((l0.length : Int) - 1)), (by first | rfl | (simp; done) | (simp [*]; done)), (by first | rfl | (simp; done) | (simp [*]; done)), H', ⟨Nat.le_refl _⟩, ⟨by (with_reducible repeat (first | apply Kd.rA9 | apply Kd.rN9 | apply Kd.rD9)); exact HO103.out⟩, ⟨by repeat (first | (with_reducible first | exact HB.out | apply bA9 | apply bN9 | apply bD9) | exact HB.out)⟩⟩
    case round =>
     clear H'
     try clear p2
     try clear c3
     try clear c3b0
     try clear c3b1
     try clear c4
     try clear c4b0
     try clear c4b1
     try clear c5
     try clear c5b0
     try clear c5b1
     try clear p6
     obtain ⟨x7_1, x8_1, x9_1, rfl, rfl, HA, HK1, HO_7, HB⟩ := hrel
     cases gk with
     | zero => exact absurd HA.out (by simp [quo_Short.l0])
     | succ k1 =>
      have H := HA.out
      clear HA
      simp only [quo_Short.l0] at H
      by_cases c8 : x9_1 ≥ 0
      ·rw [if_pos c8] at H
       have c8b0 : decide (0 ≤ x9_1) = true := decide_eq_true c8
       clear c8
       by_cases c9 : 0 ≤ x9_1
       ·rw [if_pos c9] at H
        have c9b0 : decide (0 ≤ x9_1) = true := decide_eq_true c9
        clear c9
        by_cases c10 : x9_1 < (l0.length : Int)
        ·rw [if_pos c10] at H
         have c10b0 : decide (x9_1 < (l0.length : Int)) = true := decide_eq_true c10
         clear c10
         by_cases c11 : (IntKind.u64.wrap (a1)) = 0
         ·rw [if_pos c11] at H
          exact absurd H (by simp)
         ·rw [if_neg c11] at H
          have c11b0 : ((IntKind.u64.wrap (a1)) == 0) = false := beq_eq_false_iff_ne.mpr c11
          have c11b1 : ((IntKind.u64.wrap (a1)) != 0) = true := bne_iff_ne.mpr c11
          by_cases c12 : x9_1 < (x7_1.length : Int)
          ·rw [if_pos c12] at H
           have c12b0 : decide (x9_1 < (x7_1.length : Int)) = true := decide_eq_true c12
           clear c12
           obtain ⟨y105, hy105⟩ : ∃ y_ : List Int, y_ = (x7_1.set (x9_1 : Int).toNat ((IntKind.u64.wrap (Int.tdiv (Go.bits .or .u64 (IntKind.u64.wrap (x8_1 * 4294967296)) (IntKind.u64.wrap (rd l0 x9_1))) (IntKind.u64.wrap (a1)))) % 4294967296)) := ⟨_, rfl⟩
           replace H : (quo_Short.l0 k1 l0 a1 y105 (Int.tmod (Go.bits .or .u64 (IntKind.u64.wrap (x8_1 * 4294967296)) (IntKind.u64.wrap (rd l0 x9_1))) (IntKind.u64.wrap (a1))) (wrap64 (x9_1 - 1))) = some (r1, r2, r3) := by first | (rw [hy105]; with_reducible exact H) | (have H2_ := (Option.bind_some _ _).symm.trans H; rw [hy105]; with_reducible exact H2_) | (have H2_ := (Option.bind_some _ _).symm.trans H; with_reducible exact H2_) | with_reducible exact H | (rw [hy105]; exact H) | exact H
           have Ny105 := Aside0.mk hy105
           clear hy105
           have H' := Aside0.mk H
           clear H
           have p104 : 0 ≤ (x9_1 : Int) := of_decide_eq_true (by first | (with_reducible assumption) | assumption)
           have q104 : x9_1 < (l0.length : Int) := of_decide_eq_true (by first | (with_reducible assumption) | assumption)
           obtain ⟨ad104, e104, hx104_0⟩ := Kd.at_int HR0.out x9_1 p104 q104
           cases e104
           replace hx104_0 := (HB.out.cell (World.block_lt_of_cell? w _ hx104_0)).trans hx104_0
           replace p104 := eq_true p104
           replace q104 := eq_true q104
           have p13 : 0 ≤ (x9_1 : Int) := of_decide_eq_true (by first | (with_reducible assumption) | assumption)
           have q13 : (x9_1 : Int) < ((x7_1.length : Int) : Int) := of_decide_eq_true (by first | (with_reducible assumption) | assumption)
           obtain ⟨go13, co13, eo13, gb13, gl13, cl13, HG13⟩ := Kd.R_form HO_7.out (by omega)
           (first | cases eo13 | (injection eo13 with ea_ en_ ec_; (first | subst ea_ | (injection ea_ with ea_; subst ea_)); subst ec_; clear en_))
           have GB13 := Aside0.mk gb13
           have GG13 := Aside0.mk HG13
           clear gb13 gl13 HG13
           obtain ⟨hx13_0, hf13_0⟩ := Kd.R_celln 0 HO_7.out (x9_1 : Int) p13 q13
           replace p13 := eq_true p13
           replace q13 := eq_true q13
           have HP14 := Kd.R_putg HO_7.out (x9_1 : Int) ((IntKind.u64.wrap (Int.tdiv (Go.bits .or .u64 (IntKind.u64.wrap (x8_1 * 4294967296)) (IntKind.u64.wrap (rd l0 x9_1))) (IntKind.u64.wrap (a1)))) % 4294967296)
           go_wp2_with (first | ((with_reducible refine gate_store (t := 88) (p := 37) rfl ?_); refine store_event (t := 88) (p := 37) (v := ?vo_w15) (w1 := (wr.setCell ⟨go13, (x9_1 : Int).toNat, none⟩ (.int .u32 ((IntKind.u64.wrap (Int.tdiv (Go.bits .or .u64 (IntKind.u64.wrap (x8_1 * 4294967296)) (IntKind.u64.wrap (rd l0 x9_1))) (IntKind.u64.wrap (a1)))) % 4294967296)))) ?hg ?ho ?hn ?hr ?_; (case ho => rfl); (case hg => rfl); (case hn => rfl); (case hr => first | (go_simp; done) | (go_simp; rfl)); intro w15 hw; have hg : wr.grownBy w15 (some go13) := (by rw [hw]; exact HP14.2); have hp_ : Kd.R (Kd.int .u32) 88 w15 w.heap.size (fun _ => True) (.slice (some ⟨go13, 0, none⟩) x7_1.length co13) y105 := (by rw [hw, Ny105.out]; exact HP14.1); clear HP14; have n0_ := Aside0.mk (hp_); have n1_ := Aside0.mk ((by rw [hw]; exact bS9 (HB.out) GB13.out : Below w.heap.size w w15)); clear HO_7; clear HB; have HO_7 := n0_; have HB := n1_; clear n0_ n1_; clear hg hw hp_))
           go_roundg k1
           case measure => have := HK1.out; omega
           case rel => exact ⟨(y105), (Int.tmod (Go.bits .or .u64 (IntKind.u64.wrap (x8_1 * 4294967296)) (IntKind.u64.wrap (rd l0 x9_1))) (IntKind.u64.wrap (a1))), (wrap64 (x9_1 - 1)), (by first | rfl | (simp; done) | (simp [*]; done)), (by first | rfl | (simp; done) | (simp [*]; done)), H', ⟨by have := HK1.out; omega⟩, ⟨by (with_reducible repeat (first | apply Kd.rA9 | apply Kd.rN9 | apply Kd.rD9)); exact HO_7.out⟩, ⟨by repeat (first | (with_reducible first | exact HB.out | apply bA9 | apply bN9 | apply bD9) | exact HB.out)⟩⟩
          ·rw [if_neg c12] at H
           exact absurd H (by simp)
        ·rw [if_neg c10] at H
         exact absurd H (by simp)
       ·rw [if_neg c9] at H
        exact absurd H (by simp)
      ·rw [if_neg c8] at H
       have c8b0 : decide (0 ≤ x9_1) = false := decide_eq_false c8
       clear c8
       replace H := Option.bind_eq_some_iff.mp H
       obtain ⟨t106, A160, H⟩ := H
       replace H : (some (t106, (x8_1) % 4294967296, 0)) = some (r1, r2, r3) := H
       have A16 := Aside0.mk A160
       clear A160
       simp only [Option.some.injEq, Prod.mk.injEq] at H
       obtain ⟨rfl, rfl, rfl⟩ := H
       obtain ⟨Ao17, co17, eo17⟩ := Kd.rS9 HO_7.out
       subst eo17
       go_wp2_with (first | ((with_reducible refine gC9 (f := 56) rfl ?_); refine goesL_ (some 43) rfl rfl Tryz.func56 (by kernel_rfl) rfl #[.slice Ao17 x7_1.length co17] rfl (by (try simp only [List.map_toArray, List.map_cons, List.map_nil]); first | done | rfl | (simp only [List.length_drop, List.length_take]; rfl)) ?_; (with_reducible refine (nat_Trim.calls _ _ x7_1 t106 _ ?side1 ?side2 A16.out).mono ?_); (case side1 => repeat (first | exact (Kd.rR9 HO_7.out).2.2 | (with_reducible refine Kd.cA9 ?_ _) | (with_reducible refine Kd.cN9 ?_ _) | (with_reducible refine Kd.cD9 ?_))); (case side2 => exact (Kd.rR9 HO_7.out).2.1); rintro e w18 ⟨v107, rfl, ho0, hb⟩; refine ⟨_, rfl, ?_⟩; have n0_ := Aside0.mk (Kd.R_elder' (by (with_reducible repeat (first | apply Kd.rA9 | apply Kd.rN9 | apply Kd.rD9)); exact HO_7.out) (Kd.R_base ho0) hb); have n1_ := Aside0.mk (Kd.rL9 (Kd.R_new' ho0 (Kd.R_lt (by (with_reducible repeat (first | apply Kd.rA9 | apply Kd.rN9 | apply Kd.rD9)); exact HO_7.out))) (bZ9 (by repeat (first | (with_reducible first | exact HB.out | apply bA9 | apply bN9 | apply bD9) | exact HB.out)))); have n2_ := Aside0.mk (bT9 (by repeat (first | (with_reducible first | exact HB.out | apply bA9 | apply bN9 | apply bD9) | exact HB.out)) hb); clear HO_7; clear HB; have HO_7 := n0_; have HO108 := n1_; have HB := n2_; clear n0_ n1_ n2_; (try clear hb); (try clear hb2); (try clear hk); (try clear hi); (try clear ho0)))
       go_ret3
       exact ⟨_, by first | rfl | (simp [eN9, eS9] <;> rfl) | (simp [*, eN9, eS9] <;> rfl), by (with_reducible repeat (first | apply Kd.rA9 | apply Kd.rN9 | apply Kd.rD9)); exact Kd.R_mono HO108.out (fun _ hk => trivial), by repeat (first | (with_reducible first | exact HB.out | apply bA9 | apply bN9 | apply bD9) | exact HB.out)⟩
   ·rw [if_neg c5] at H
    exact absurd H (by simp)
  ·rw [if_neg c4] at H
   exact absurd H (by simp)
mutual
def quo_guess.l0 : Nat → List Int → List Int → Int → Int → Int → Option (Int)
 | 0, _, _, _, _, _ => none
 | k + 1, x0, x1, x5, x7, x8 => if (x7 / 4294967296) > 0 then (quo_guess.j1 k x0 x1 x5 x7 x8 true) else (if 0 ≤ (wrap64 (x5 - 2)) then (if (wrap64 (x5 - 2)) < (x1.length : Int) then (if (wrap64 (x5 - 2)) < (x0.length : Int) then (quo_guess.j1 k x0 x1 x5 x7 x8 (decide ((IntKind.u64.wrap (x7 * (IntKind.u64.wrap (rd x1 (wrap64 (x5 - 2)))))) > (Go.bits .or .u64 (IntKind.u64.wrap (x8 * 4294967296)) (IntKind.u64.wrap (rd x0 (wrap64 (x5 - 2)))))))) else (none)) else (none)) else (none))
def quo_guess.j1 : Nat → List Int → List Int → Int → Int → Int → Bool → Option (Int)
 | 0, _, _, _, _, _, _ => none
 | k + 1, x0, x1, x5, x7, x8, x62 => if x62 = true then (if 0 ≤ (wrap64 (x5 - 1)) then (if (wrap64 (x5 - 1)) < (x1.length : Int) then (if ((IntKind.u64.wrap (x8 + (IntKind.u64.wrap (rd x1 (wrap64 (x5 - 1)))))) / 4294967296) > 0 then (some (IntKind.u64.wrap (x7 - 1))) else (quo_guess.l0 k x0 x1 x5 (IntKind.u64.wrap (x7 - 1)) (IntKind.u64.wrap (x8 + (IntKind.u64.wrap (rd x1 (wrap64 (x5 - 1)))))))) else (none)) else (none)) else (some x7)
end
def quo_guess.f (k : Nat) (l0 : List Int) (l1 : List Int) : Option (Int) := if 0 ≤ (l1.length : Int) then (if (l1.length : Int) < (l0.length : Int) then (if 0 ≤ (wrap64 ((l1.length : Int) - 1)) then (if (wrap64 ((l1.length : Int) - 1)) < (l0.length : Int) then (if (wrap64 ((l1.length : Int) - 1)) < (l1.length : Int) then (if (IntKind.u64.wrap (rd l1 (wrap64 ((l1.length : Int) - 1)))) = 0 then (none) else (quo_guess.l0 k l0 l1 (l1.length : Int) (IntKind.u64.wrap (Int.tdiv (Go.bits .or .u64 (IntKind.u64.wrap ((IntKind.u64.wrap (rd l0 (l1.length : Int))) * 4294967296)) (IntKind.u64.wrap (rd l0 (wrap64 ((l1.length : Int) - 1))))) (IntKind.u64.wrap (rd l1 (wrap64 ((l1.length : Int) - 1)))))) (Int.tmod (Go.bits .or .u64 (IntKind.u64.wrap ((IntKind.u64.wrap (rd l0 (l1.length : Int))) * 4294967296)) (IntKind.u64.wrap (rd l0 (wrap64 ((l1.length : Int) - 1))))) (IntKind.u64.wrap (rd l1 (wrap64 ((l1.length : Int) - 1))))))) else (none)) else (none)) else (none)) else (none)) else (none)
set_option maxHeartbeats 8000000 in
set_option maxRecDepth 100000 in
theorem quo_guess.calls (k : Nat) (A0 : Option Addr) (c0 : Nat) (l0 : List Int) (A1 : Option Addr) (c1 : Nat) (l1 : List Int) (r : Int) (w : World) (hr0 : Kd.C (Kd.int .u32) w A0 l0.length l0) (hc0 : l0.length ≤ c0) (hr1 : Kd.C (Kd.int .u32) w A1 l1.length l1) (hc1 : l1.length ≤ c1) (h : quo_guess.f k l0 l1 = some r) :
  Calls Tryz.prog 141 #[.slice A0 l0.length c0, .slice A1 l1.length c1] w fun e w' => e = .returned (.int .u64 r) ∧ Drawn0 w w' := by
 have HR0 := Aside0.mk hr0
 have HC0 := Aside0.mk hc0
 clear hr0 hc0
 have HR1 := Aside0.mk hr1
 have HC1 := Aside0.mk hc1
 clear hr1 hc1
 have H : (if 0 ≤ (l1.length : Int) then (if (l1.length : Int) < (l0.length : Int) then (if 0 ≤ (wrap64 ((l1.length : Int) - 1)) then (if (wrap64 ((l1.length : Int) - 1)) < (l0.length : Int) then (if (wrap64 ((l1.length : Int) - 1)) < (l1.length : Int) then (if (IntKind.u64.wrap (rd l1 (wrap64 ((l1.length : Int) - 1)))) = 0 then (none) else (quo_guess.l0 k l0 l1 (l1.length : Int) (IntKind.u64.wrap (Int.tdiv (Go.bits .or .u64 (IntKind.u64.wrap ((IntKind.u64.wrap (rd l0 (l1.length : Int))) * 4294967296)) (IntKind.u64.wrap (rd l0 (wrap64 ((l1.length : Int) - 1))))) (IntKind.u64.wrap (rd l1 (wrap64 ((l1.length : Int) - 1)))))) (Int.tmod (Go.bits .or .u64 (IntKind.u64.wrap ((IntKind.u64.wrap (rd l0 (l1.length : Int))) * 4294967296)) (IntKind.u64.wrap (rd l0 (wrap64 ((l1.length : Int) - 1))))) (IntKind.u64.wrap (rd l1 (wrap64 ((l1.length : Int) - 1))))))) else (none)) else (none)) else (none)) else (none)) else (none)) = some r := h
 clear h
 by_cases c3 : 0 ≤ (l1.length : Int)
 ·rw [if_pos c3] at H
  have c3b0 : decide (0 ≤ (l1.length : Int)) = true := decide_eq_true c3
  have c3b1 : decide (0 ≤ l1.length) = true := decide_eq_true (by omega)
  clear c3
  by_cases c4 : (l1.length : Int) < (l0.length : Int)
  ·rw [if_pos c4] at H
   have c4b0 : decide ((l1.length : Int) < (l0.length : Int)) = true := decide_eq_true c4
   have c4b1 : decide (l1.length < l0.length) = true := decide_eq_true (Int.ofNat_lt.mp c4)
   clear c4
   obtain ⟨ji5, hji5⟩ : ∃ j_ : Int, (wrap64 ((l1.length : Int) - 1)) = j_ := ⟨_, rfl⟩
   replace H : (if 0 ≤ (ji5) then (if (ji5) < (l0.length : Int) then (if (ji5) < (l1.length : Int) then (if (IntKind.u64.wrap (rd l1 (ji5))) = 0 then (none) else (quo_guess.l0 k l0 l1 (l1.length : Int) (IntKind.u64.wrap (Int.tdiv (Go.bits .or .u64 (IntKind.u64.wrap ((IntKind.u64.wrap (rd l0 (l1.length : Int))) * 4294967296)) (IntKind.u64.wrap (rd l0 (ji5)))) (IntKind.u64.wrap (rd l1 (ji5))))) (Int.tmod (Go.bits .or .u64 (IntKind.u64.wrap ((IntKind.u64.wrap (rd l0 (l1.length : Int))) * 4294967296)) (IntKind.u64.wrap (rd l0 (ji5)))) (IntKind.u64.wrap (rd l1 (ji5)))))) else (none)) else (none)) else (none)) = some r := by first | (rw [hji5] at H; exact H) | (simp only [hji5] at H ⊢; exact H)
   have hji5w : (IntKind.i64.wrap ((l1.length : Int) - 1)) = ji5 := (i64_w _).trans hji5
   by_cases c6 : 0 ≤ (ji5)
   ·rw [if_pos c6] at H
    have c6b0 : decide (0 ≤ (ji5)) = true := decide_eq_true c6
    clear c6
    by_cases c7 : (ji5) < (l0.length : Int)
    ·rw [if_pos c7] at H
     have c7b0 : decide ((ji5) < (l0.length : Int)) = true := decide_eq_true c7
     clear c7
     by_cases c8 : (ji5) < (l1.length : Int)
     ·rw [if_pos c8] at H
      have c8b0 : decide ((ji5) < (l1.length : Int)) = true := decide_eq_true c8
      clear c8
      by_cases c9 : (IntKind.u64.wrap (rd l1 (ji5))) = 0
      ·rw [if_pos c9] at H
       exact absurd H (by simp)
      ·rw [if_neg c9] at H
       have c9b0 : ((IntKind.u64.wrap (rd l1 (ji5))) == 0) = false := beq_eq_false_iff_ne.mpr c9
       have c9b1 : ((IntKind.u64.wrap (rd l1 (ji5))) != 0) = true := bne_iff_ne.mpr c9
       have H' := Aside0.mk H
       clear H
       have p109 : 0 ≤ ((l1.length : Int) : Int) := of_decide_eq_true (by first | (with_reducible assumption) | assumption)
       have q109 : (l1.length : Int) < (l0.length : Int) := of_decide_eq_true (by first | (with_reducible assumption) | assumption)
       obtain ⟨ad109, e109, hx109_0⟩ := Kd.at_int HR0.out (l1.length : Int) p109 q109
       cases e109
       (try simp only [Go.IntWalk.toNatUp] at hx109_0)
       replace p109 := eq_true p109
       replace q109 := eq_true q109
       have p110 : 0 ≤ ((ji5) : Int) := of_decide_eq_true (by first | (with_reducible assumption) | assumption)
       have q110 : (ji5) < (l0.length : Int) := of_decide_eq_true (by first | (with_reducible assumption) | assumption)
       obtain ⟨ad110, e110, hx110_0⟩ := Kd.at_int HR0.out (ji5) p110 q110
       obtain rfl : ad109 = ad110 := (by injection e110)
       replace p110 := eq_true p110
       replace q110 := eq_true q110
       have p111 : 0 ≤ ((ji5) : Int) := of_decide_eq_true (by first | (with_reducible assumption) | assumption)
       have q111 : (ji5) < (l1.length : Int) := of_decide_eq_true (by first | (with_reducible assumption) | assumption)
       obtain ⟨ad111, e111, hx111_0⟩ := Kd.at_int HR1.out (ji5) p111 q111
       cases e111
       replace p111 := eq_true p111
       replace q111 := eq_true q111
       have p112 : 0 ≤ ((ji5) : Int) := of_decide_eq_true (by first | (with_reducible assumption) | assumption)
       have q112 : (ji5) < (l1.length : Int) := of_decide_eq_true (by first | (with_reducible assumption) | assumption)
       obtain ⟨ad112, e112, hx112_0⟩ := Kd.at_int HR1.out (ji5) p112 q112
       obtain rfl : ad111 = ad112 := (by injection e112)
       replace p112 := eq_true p112
       replace q112 := eq_true q112
       go_enter Tryz.func141, Tryz.ntmps141
       go_wp2_with fail
       try go_step3
       go_wp2
       try (go_step3; go_wp2)
       try (go_step3; go_wp2)
       repeat (go_quiet (fail); try go_wp2)
       try (go_step3; go_wp2)
       try (go_step3; go_wp2)
       go_loopg [7, 8] k (fun kq v7 v8 w' => ∃ (x7_1 : Int) (x8_1 : Int), v7 = .int .u64 x7_1 ∧ v8 = .int .u64 x8_1 ∧ Aside0 (quo_guess.l0 kq l0 l1 (l1.length : Int) x7_1 x8_1 = some r) ∧ Aside0 (kq ≤ k) ∧ Drawn0 w w')
       case atStart => exact ⟨(IntKind.u64.wrap (Int.tdiv (Go.bits .or .u64 (IntKind.u64.wrap ((IntKind.u64.wrap (rd l0 (l1.length : Int))) * 4294967296)) (IntKind.u64.wrap (rd l0 (ji5)))) (IntKind.u64.wrap (rd l1 (ji5))))), (Int.tmod (Go.bits .or .u64 (IntKind.u64.wrap ((IntKind.u64.wrap (rd l0 (l1.length : Int))) * 4294967296)) (IntKind.u64.wrap (rd l0 (ji5)))) (IntKind.u64.wrap (rd l1 (ji5)))), (by first | rfl | (simp; done) | (simp only [← hji5] <;> (first | rfl | simp)) | (simp [*]; done)), (by first | rfl | (simp; done) | (simp only [← hji5] <;> (first | rfl | simp)) | (simp [*]; done)), H', ⟨Nat.le_refl _⟩, by repeat (first | exact Drawn0.refl _ | apply Drawn0.step)⟩
       case round =>
        clear H'
        try clear c1
        try clear p1
        try clear q1
        try clear hx1
        try clear p2
        try clear c3
        try clear c3b0
        try clear c3b1
        try clear c4
        try clear c4b0
        try clear c4b1
        try clear c6
        try clear c6b0
        try clear p6
        try clear c7
        try clear c7b0
        try clear c8
        try clear c8b0
        try clear c9
        try clear c9b0
        try clear c9b1
        try clear hx109_0
        try clear hx110_0
        try clear hx111_0
        try clear hx112_0
        try clear p109
        try clear p110
        try clear p111
        try clear p112
        try clear q109
        try clear q110
        try clear q111
        try clear q112
        obtain ⟨x7_1, x8_1, rfl, rfl, HA, HK1, ⟨m1, rfl⟩⟩ := hrel
        cases gk with
        | zero => exact absurd HA.out (by simp [quo_guess.l0])
        | succ k1 =>
         have H := HA.out
         clear HA
         simp only [quo_guess.l0] at H
         have HC10 := Aside0.mk H
         clear H
         go_upto_region 4 with (fail)
         repeat (go_quiet (fail); go_upto_region 4 with (fail))
         go_cut [62] (fun v62 wc => ∃ (kq : Nat) (x62_9 : Bool), v62 = .bool x62_9 ∧ Aside0 (quo_guess.j1 kq l0 l1 (l1.length : Int) x7_1 x8_1 x62_9 = some r) ∧ Aside0 (kq ≤ k1) ∧ Drawn0 w wc)
         case first =>
          have H := HC10.out
          clear HC10
          by_cases c11 : (x7_1 / 4294967296) > 0
          ·rw [if_pos c11] at H
           have c11b0 : decide (0 < (x7_1 / 4294967296)) = true := decide_eq_true c11
           clear c11
           (first | rw [c11b0] | (simp only [i64_w, i32_w]; rw [c11b0]) | skip)
           have H' := Aside0.mk H
           clear H
           go_wp2
           try (go_step3; go_wp2)
           try (go_step3; go_wp2)
           repeat (go_quiet (fail); try go_wp2)
           try (go_step3; go_wp2)
           try (go_step3; go_wp2)
           go_meet
           case rel => exact ⟨_, (true), (by first | rfl | (simp; done) | (simp [*]; done)), H', ⟨by have := HK1.out; first | omega | exact Nat.le_refl _⟩, by repeat (first | exact Drawn0.refl _ | apply Drawn0.step)⟩
          ·rw [if_neg c11] at H
           have c11b0 : decide (0 < (x7_1 / 4294967296)) = false := decide_eq_false c11
           clear c11
           (first | rw [c11b0] | (simp only [i64_w, i32_w]; rw [c11b0]) | skip)
           obtain ⟨ji12, hji12⟩ : ∃ j_ : Int, (wrap64 ((l1.length : Int) - 2)) = j_ := ⟨_, rfl⟩
           replace H : (if 0 ≤ (ji12) then (if (ji12) < (l1.length : Int) then (if (ji12) < (l0.length : Int) then (quo_guess.j1 k1 l0 l1 (l1.length : Int) x7_1 x8_1 (decide ((IntKind.u64.wrap (x7_1 * (IntKind.u64.wrap (rd l1 (ji12))))) > (Go.bits .or .u64 (IntKind.u64.wrap (x8_1 * 4294967296)) (IntKind.u64.wrap (rd l0 (ji12))))))) else (none)) else (none)) else (none)) = some r := by first | (rw [hji12] at H; exact H) | (simp only [hji12] at H ⊢; exact H)
           have hji12w : (IntKind.i64.wrap ((l1.length : Int) - 2)) = ji12 := (i64_w _).trans hji12
           by_cases c13 : 0 ≤ (ji12)
           ·rw [if_pos c13] at H
            have c13b0 : decide (0 ≤ (ji12)) = true := decide_eq_true c13
            clear c13
            by_cases c14 : (ji12) < (l1.length : Int)
            ·rw [if_pos c14] at H
             have c14b0 : decide ((ji12) < (l1.length : Int)) = true := decide_eq_true c14
             clear c14
             by_cases c15 : (ji12) < (l0.length : Int)
             ·rw [if_pos c15] at H
              have c15b0 : decide ((ji12) < (l0.length : Int)) = true := decide_eq_true c15
              clear c15
              have H' := Aside0.mk H
              clear H
              have p113 : 0 ≤ ((ji12) : Int) := of_decide_eq_true (by first | (with_reducible assumption) | assumption)
              have q113 : (ji12) < (l1.length : Int) := of_decide_eq_true (by first | (with_reducible assumption) | assumption)
              obtain ⟨ad113, e113, hx113_0⟩ := Kd.at_int HR1.out (ji12) p113 q113
              obtain rfl : ad111 = ad113 := (by injection e113)
              replace p113 := eq_true p113
              replace q113 := eq_true q113
              have p114 : 0 ≤ ((ji12) : Int) := of_decide_eq_true (by first | (with_reducible assumption) | assumption)
              have q114 : (ji12) < (l0.length : Int) := of_decide_eq_true (by first | (with_reducible assumption) | assumption)
              obtain ⟨ad114, e114, hx114_0⟩ := Kd.at_int HR0.out (ji12) p114 q114
              obtain rfl : ad109 = ad114 := (by injection e114)
              replace p114 := eq_true p114
              replace q114 := eq_true q114
              go_wp2
              try (go_step3; go_wp2)
              try (go_step3; go_wp2)
              repeat (go_quiet (fail); try go_wp2)
              try (go_step3; go_wp2)
              try (go_step3; go_wp2)
              go_meet
              case rel => exact ⟨_, (decide ((IntKind.u64.wrap (x7_1 * (IntKind.u64.wrap (rd l1 (ji12))))) > (Go.bits .or .u64 (IntKind.u64.wrap (x8_1 * 4294967296)) (IntKind.u64.wrap (rd l0 (ji12)))))), (by first | rfl | (simp; done) | (simp only [← hji12] <;> (first | rfl | simp)) | (simp [*]; done)), H', ⟨by have := HK1.out; first | omega | exact Nat.le_refl _⟩, by repeat (first | exact Drawn0.refl _ | apply Drawn0.step)⟩
             ·rw [if_neg c15] at H
              exact absurd H (by simp)
            ·rw [if_neg c14] at H
             exact absurd H (by simp)
           ·rw [if_neg c13] at H
            exact absurd H (by simp)
         case rest =>
          clear HC10
          try clear c1
          try clear p1
          try clear q1
          try clear hx1
          try clear p2
          try clear c3
          try clear c3b0
          try clear c3b1
          try clear c4
          try clear c4b0
          try clear c4b1
          try clear c6
          try clear c6b0
          try clear p6
          try clear c7
          try clear c7b0
          try clear c8
          try clear c8b0
          try clear c9
          try clear c9b0
          try clear c9b1
          try clear p10
          try clear q10
          try clear hx10
          try clear c11
          try clear c11b0
          try clear p11
          try clear q11
          try clear hx11
          try clear c13
          try clear c13b0
          try clear c14
          try clear c14b0
          try clear c15
          try clear c15b0
          try clear hx109_0
          try clear hx110_0
          try clear hx111_0
          try clear hx112_0
          try clear hx113_0
          try clear hx114_0
          try clear p1
          try clear p109
          try clear p110
          try clear p111
          try clear p112
          try clear p113
          try clear p114
          try clear p2
          try clear p6
          try clear q1
          try clear q109
          try clear q110
          try clear q111
          try clear q112
          try clear q113
          try clear q114
          obtain ⟨kq, x62_9, rfl, HA, HJ9, ⟨mc9, rfl⟩⟩ := hcut
          cases kq with
          | zero => exact absurd HA.out (by simp [quo_guess.j1])
          | succ kj9 =>
           have H := HA.out
           clear HA
           simp only [quo_guess.j1] at H
           by_cases c16 : x62_9 = true
           ·subst c16
            have H1 : (if 0 ≤ (wrap64 ((l1.length : Int) - 1)) then (if (wrap64 ((l1.length : Int) - 1)) < (l1.length : Int) then (if ((IntKind.u64.wrap (x8_1 + (IntKind.u64.wrap (rd l1 (wrap64 ((l1.length : Int) - 1)))))) / 4294967296) > 0 then (some (IntKind.u64.wrap (x7_1 - 1))) else (quo_guess.l0 kj9 l0 l1 (l1.length : Int) (IntKind.u64.wrap (x7_1 - 1)) (IntKind.u64.wrap (x8_1 + (IntKind.u64.wrap (rd l1 (wrap64 ((l1.length : Int) - 1)))))))) else (none)) else (none)) = some r := by rw [if_pos rfl] at H; exact H
            clear H
            have H := H1
            clear H1
            obtain ⟨ji17, hji17⟩ : ∃ j_ : Int, (wrap64 ((l1.length : Int) - 1)) = j_ := ⟨_, rfl⟩
            replace H : (if 0 ≤ (ji17) then (if (ji17) < (l1.length : Int) then (if ((IntKind.u64.wrap (x8_1 + (IntKind.u64.wrap (rd l1 (ji17))))) / 4294967296) > 0 then (some (IntKind.u64.wrap (x7_1 - 1))) else (quo_guess.l0 kj9 l0 l1 (l1.length : Int) (IntKind.u64.wrap (x7_1 - 1)) (IntKind.u64.wrap (x8_1 + (IntKind.u64.wrap (rd l1 (ji17))))))) else (none)) else (none)) = some r := by first | (rw [hji17] at H; exact H) | (simp only [hji17] at H ⊢; exact H)
            have hji17w : (IntKind.i64.wrap ((l1.length : Int) - 1)) = ji17 := (i64_w _).trans hji17
            try clear hji5w
            by_cases c18 : 0 ≤ (ji17)
            ·rw [if_pos c18] at H
             have c18b0 : decide (0 ≤ (ji17)) = true := decide_eq_true c18
             clear c18
             by_cases c19 : (ji17) < (l1.length : Int)
             ·rw [if_pos c19] at H
              have c19b0 : decide ((ji17) < (l1.length : Int)) = true := decide_eq_true c19
              clear c19
              by_cases c20 : ((IntKind.u64.wrap (x8_1 + (IntKind.u64.wrap (rd l1 (ji17))))) / 4294967296) > 0
              ·rw [if_pos c20] at H
               have c20b0 : decide (0 < ((IntKind.u64.wrap (x8_1 + (IntKind.u64.wrap (rd l1 (ji17))))) / 4294967296)) = true := decide_eq_true c20
               clear c20
               obtain rfl := Option.some.inj H
               have p115 : 0 ≤ ((ji17) : Int) := of_decide_eq_true (by first | (with_reducible assumption) | assumption)
               have q115 : (ji17) < (l1.length : Int) := of_decide_eq_true (by first | (with_reducible assumption) | assumption)
               obtain ⟨ad115, e115, hx115_0⟩ := Kd.at_int HR1.out (ji17) p115 q115
               obtain rfl : ad111 = ad115 := (by injection e115)
               replace p115 := eq_true p115
               replace q115 := eq_true q115
               go_wp2
               try (go_step3; go_wp2)
               try (go_step3; go_wp2)
               repeat (go_quiet (fail); try go_wp2)
               try (go_step3; go_wp2)
               try (go_step3; go_wp2)
               try rw [Exit.noGoto_ret]
               go_ret
               exact ⟨by first | rfl | (simp; done) | (simp only [← hji5, ← hji17] <;> (first | rfl | simp)) | (simp [*]; done), by repeat (first | exact Drawn0.refl _ | apply Drawn0.step)⟩
              ·rw [if_neg c20] at H
               have c20b0 : decide (0 < ((IntKind.u64.wrap (x8_1 + (IntKind.u64.wrap (rd l1 (ji17))))) / 4294967296)) = false := decide_eq_false c20
               clear c20
               have H' := Aside0.mk H
               clear H
               have p115 : 0 ≤ ((ji17) : Int) := of_decide_eq_true (by first | (with_reducible assumption) | assumption)
               have q115 : (ji17) < (l1.length : Int) := of_decide_eq_true (by first | (with_reducible assumption) | assumption)
               obtain ⟨ad115, e115, hx115_0⟩ := Kd.at_int HR1.out (ji17) p115 q115
               obtain rfl : ad111 = ad115 := (by injection e115)
               replace p115 := eq_true p115
               replace q115 := eq_true q115
               go_wp2
               try (go_step3; go_wp2)
               try (go_step3; go_wp2)
               repeat (go_quiet (fail); try go_wp2)
               try (go_step3; go_wp2)
               try (go_step3; go_wp2)
               go_roundg kj9
               case measure => have := HK1.out; have := HJ9.out; omega
               case rel => exact ⟨(IntKind.u64.wrap (x7_1 - 1)), (IntKind.u64.wrap (x8_1 + (IntKind.u64.wrap (rd l1 (ji17))))), (by first | rfl | (simp; done) | (simp [*]; done)), (by first | rfl | (simp; done) | (simp only [← hji17] <;> (first | rfl | simp)) | (simp [*]; done)), H', ⟨by have := HK1.out; have := HJ9.out; omega⟩, by repeat (first | exact Drawn0.refl _ | apply Drawn0.step)⟩
             ·rw [if_neg c19] at H
              exact absurd H (by simp)
            ·rw [if_neg c18] at H
             exact absurd H (by simp)
           ·replace c16 := Bool.eq_false_iff.mpr c16
            subst c16
            have H1 : (some x7_1) = some r := by rw [if_neg (show ¬ (false = true) by decide)] at H; exact H
            clear H
            have H := H1
            clear H1
            obtain rfl := Option.some.inj H
            go_wp2
            try (go_step3; go_wp2)
            try (go_step3; go_wp2)
            repeat (go_quiet (fail); try go_wp2)
            try (go_step3; go_wp2)
            try (go_step3; go_wp2)
            try rw [Exit.noGoto_ret]
            go_ret
            exact ⟨by first | rfl | (simp; done) | (simp only [← hji5] <;> (first | rfl | simp)) | (simp [*]; done), by repeat (first | exact Drawn0.refl _ | apply Drawn0.step)⟩
     ·rw [if_neg c8] at H
      exact absurd H (by simp)
    ·rw [if_neg c7] at H
     exact absurd H (by simp)
   ·rw [if_neg c6] at H
    exact absurd H (by simp)
  ·rw [if_neg c4] at H
   exact absurd H (by simp)
 ·rw [if_neg c3] at H
  exact absurd H (by simp)
end Go.Proofs.YtibaoacjjcgjlaaGreatDoor.Print

namespace Go.Proofs.YtibaoacjjcgjlaaGreatDoor.Print
open Go.RowKit Go.Proofs.YtibaoacjjcgjlaaGreatDoorW.PrintWords Go.Proofs.YtibaoacjjcgjlaaGreatDoorW.PrintLast Go.Proofs.YtibaoacjjcgjlaaGreatDoorW.PrintMore Go.Proofs.YtibaoacjjcgjlaaGreatDoor.Base
set_option linter.unusedVariables false
set_option linter.unusedSimpArgs false
theorem boxed_far {W : World} {B : Nat} {t : TypeId} {v : Value} (h : Boxed W B t v) {p : Addr} (hp : B ≠ p.block) (u : Value) : Boxed (W.setCell p u) B t v := blk_far h hp u
theorem infoU32 : (Tryz.prog.info? 88).map (fun i => (i.zero, i.size, i.bytes)) = some (some (.int .u32 0), 1, 4) := by kernel_rfl
set_option maxRecDepth 100000 in
set_option maxHeartbeats 4000000 in
theorem put_calls (n0 Bo Bc : Nat) (x c : Nat) (hx : x < 18446744073709551616) (v : Value) (xs : List Int) (W : World) (hv : Boxed W Bo 29 v) (hrow : W.ownsRow n0 88 1 v xs.length (xs.map (Value.int .u32)))
    (hc : Boxed W Bc 62 (.int .u64 (c : Int))) (hBo : n0 ≤ Bo) (hBc : n0 ≤ Bc) (hn0 : n0 ≤ W.heap.size) (hne : Bo ≠ Bc) (hl : xs.length ≤ 1073741824) :
    Calls Tryz.prog 102 #[.int .u64 (x : Int), .pointer (some ⟨Bo, 0, none⟩), .pointer (some ⟨Bc, 0, none⟩)] W fun e W' => e = .returned (.tuple #[]) ∧ ∃ v', Boxed W' Bo 29 v' ∧
      W'.ownsRow n0 88 1 v' (xs ++ [((x % 4294967296 : Nat) : Int)]).length ((xs ++ [((x % 4294967296 : Nat) : Int)]).map (Value.int .u32)) ∧ Boxed W' Bc 62 (.int .u64 ((x / 4294967296 : Nat) : Int)) ∧ Below n0 W W' := by
  obtain ⟨i0, hi, hz0, hz1, hz2⟩ := info_parts infoU32
  have h1 := hv.cell
  have h2 := hv.frozen
  have h3 := hc.cell
  have h4 := hc.frozen
  go_enter Tryz.func102, Tryz.ntmps102
  have ex : IntKind.u32.wrap (x : Int) = ((x % 4294967296 : Nat) : Int) := by rw [IntKind.wrap_u32']; omega
  have hw : (Lit.int .u32 ((x % 4294967296 : Nat) : Int)).wf = true := by
    have := Nat.mod_lt x (show 0 < 4294967296 by decide)
    exact WalkArith.wf_u32 ⟨by omega, by omega⟩
  generalize hy : ((x % 4294967296 : Nat) : Int) = y at ex hw ⊢
  go_wp2_with (at_builtin; refine wpList_append_own _ rfl _ _ 29 rfl n0 88 i0 (.int .u32 0) 1 4 Tryz.underlying29 hi hz0 hz1 hz2 rfl (by decide) _ _ _ rfl (hrow.alloc _) ⟨W.heap.size, 0, none⟩ 1 1 [.int .u32 y] rfl rfl (cell_one_new _ _ _) (by simp [Value.oneCell']) (by unfold maxLen; omega) (by omega) (by simp; omega) ?_; intro v' w1 hown' hgrow _; obtain ⟨g', cap', rfl⟩ := ownsRow_succ hown'; obtain ⟨hv1, hv2, hr2, hk2, hb2⟩ := hv.appended (by decide) hrow hn0 hBo hown' hgrow; have hc1 := hv1.cell; have hf1 := hv1.frozen; have hcb := boxed_far (p := ⟨Bo, 0, none⟩) ((hc.alloc _).kept hgrow (hc.not_row (by decide) hrow)) (show Bc ≠ Bo from hne.symm) (.slice (some ⟨g', 0, none⟩) (xs.length + 1) cap'); have hc2 := hcb.cell; have hf2 := hcb.frozen)
  go_end0
  refine ⟨rfl, _, boxed_far hv2 hne _, ?_, ?_, hb2.setCell (p := ⟨Bc, 0, none⟩) hBc _⟩
  · have h := hr2.kept (grownBy_setCell' _ Bc (.int .u64 ((x / 4294967296 : Nat) : Int))) (.inr (hcb.not_row (by decide) hr2).symm)
    simpa using h
  · exact hcb.set _
def KeptFrom (base : Nat) (W W' : World) : Prop := W.heap.size ≤ W'.heap.size ∧ ∀ k, base ≤ k → k < W.heap.size → W'.heap[k]? = W.heap[k]?
theorem KeptFrom.boxed {base : Nat} {W W' : World} (h : KeptFrom base W W') {B : Nat} {t : TypeId} {v : Value} (hb : base ≤ B) (hB : Boxed W B t v) : Boxed W' B t v := (h.2 B hb hB.lt).trans hB
theorem KeptFrom.own {base : Nat} {W W' : World} (h : KeptFrom base W W') {n0 n size : Nat} {e : TypeId} {v : Value} {xs : List Value} (hb : base ≤ n0) (hr : W.ownsRow n0 e size v n xs) : W'.ownsRow n0 e size v n xs :=
  own_move hr fun k hk => h.2 k (Nat.le_trans hb (own_base hr k hk)) (own_lt hr k hk)
structure AtOk (g : Nat) (lb : Array Value) (n base : Nat) (f : Nat → Nat) (J : Nat → World → Prop) : Prop where
  eg : ∀ args w, (callFunc g args).run Tryz.prog w = .ok (.enter g args) w
  call : ∀ i W, i < n → J i W → base ≤ W.heap.size → Calls Tryz.prog g (#[.int .i64 (i : Int)] ++ lb) W fun e W' => e = .returned (.int .u64 ((f i : Nat) : Int)) ∧ J (i + 1) W' ∧ KeptFrom base W W'
  keep : ∀ i W W', J i W → Below base W W' → J i W'
  small : ∀ i, f i ≤ 4 * (4294967296 - 1)
theorem putB_step (f : Nat → Nat) (i : Nat) : (putB 4294967296 f (i + 1)).1 = (putB 4294967296 f i).1 ++ [(((f i + (putB 4294967296 f i).2) % 4294967296 : Nat) : Int)] ∧ (putB 4294967296 f (i + 1)).2 = (f i + (putB 4294967296 f i).2) / 4294967296 := ⟨rfl, rfl⟩
set_option maxRecDepth 100000 in
set_option maxHeartbeats 16000000 in
theorem gather_calls (g : Nat) (lb : Array Value) (n : Nat) (f : Nat → Nat) (J : Nat → World → Prop) (w : World) (hat : AtOk g lb n w.heap.size f J) (hJ : J 0 w) (hn : n ≤ 4194304) :
    Calls Tryz.prog 65 #[.int .i64 (n : Int), .func (.func g) #[] lb] w fun e W' => ∃ v, e = .returned v ∧ Kd.R (Kd.int .u32) 88 W' w.heap.size (fun _ => True) v (digB 4294967296 (sumB 4294967296 f n)) ∧ J n W' := by
  have eg := hat.eg
  have HAT := Aside0.mk hat
  have HJ := Aside0.mk hJ
  have HN := Aside0.mk hn
  clear hat hJ hn
  go_enter Tryz.func65, Tryz.ntmps65
  go_wp2
  go_loopw [11] (fun v11 wr => ∃ i : Nat, i ≤ n ∧ v11 = .int .i64 (i : Int) ∧ Aside0 (J i wr) ∧ Aside0 (w.heap.size + 1 < wr.heap.size) ∧ Aside0 (∃ v, Boxed wr w.heap.size 29 v ∧ wr.ownsRow w.heap.size 88 1 v (putB 4294967296 f i).1.length ((putB 4294967296 f i).1.map (Value.int .u32))) ∧ Aside0 (Boxed wr (w.heap.size + 1) 62 (.int .u64 ((putB 4294967296 f i).2 : Int)))) (fun v11 _ => n - (intOf v11).toNat)
  case atStart =>
    have bO := Boxed.new w 29 (.slice none 0 0)
    have bC := Boxed.new (w.alloc (.cells #[.slice none 0 0] 29)) 62 (.int .u64 0)
    rw [World.size_alloc] at bC
    refine ⟨0, Nat.zero_le _, rfl, ⟨?_⟩, ⟨?_⟩, ⟨_, ?_, World.ownsRow_nil _ _ _ _⟩, ⟨?_⟩⟩
    · exact HAT.out.keep _ _ _ HJ.out (by repeat (first | exact Below.refl _ _ | apply bA9))
    · simp
    · exact bO.alloc _
    · exact bC
  case round =>
    obtain ⟨i, hi, rfl, HJi, HS, HV, HC⟩ := hrel
    by_cases hlt : i < n
    · have hd : decide ((i : Int) < (n : Int)) = true := decide_eq_true (by omega)
      have hcc := HC.out.cell
      obtain ⟨v, hv, hrow⟩ := HV.out
      have hcall := fun W hJ hs => HAT.out.call i W hlt hJ hs
      obtain ⟨c, hc⟩ : ∃ c, (putB 4294967296 f i).2 = c := ⟨_, rfl⟩
      obtain ⟨xs, hxs⟩ : ∃ xs, (putB 4294967296 f i).1 = xs := ⟨_, rfl⟩
      obtain ⟨x, hx⟩ : ∃ x, f i + c = x := ⟨_, rfl⟩
      have hc4 : c ≤ 4 := by rw [← hc]; exact putB_carry (by decide) HAT.out.small i
      have hfi := HAT.out.small i
      have hw : IntKind.u64.wrap ((f i : Int) + (c : Int)) = (x : Int) := by rw [IntKind.wrap_u64]; omega
      have hxl : xs.length ≤ 1073741824 := by rw [← hxs, putB_len]; have := HN.out; omega
      have hBC := HC.out
      rw [hc] at hBC hcc
      rw [hxs] at hrow
      have BV := Aside0.mk hv
      have BC := Aside0.mk hBC
      have ROW := Aside0.mk hrow
      have PUT := Aside0.mk (put_calls w.heap.size w.heap.size (w.heap.size + 1) x c (by omega) v xs)
      clear hv hBC hrow hfi
      go_wp2_with fail
      go_region_with (first | (go_at_fn g; refine (hcall _ ?_ ?_).mono ?_; (exact HAT.out.keep _ _ _ HJi.out (by repeat (first | exact Below.refl _ _ | apply bD9 | apply bN9))); (have := HS.out; simp; omega); rintro e W1 ⟨rfl, hJ1, hk1⟩; have hcW := (hk1.boxed (Nat.le_succ _) BC.out).cell) | (go_at_call 102; refine (PUT.out _ (hk1.boxed (Nat.le_refl _) BV.out) (hk1.own (Nat.le_refl _) ROW.out) (hk1.boxed (Nat.le_succ _) BC.out) (Nat.le_refl _) (Nat.le_succ _) ?_ (by omega) hxl).mono ?_; (have := HS.out; have := hk1.1; simp at *; omega); rintro e W2 ⟨rfl, v2, hv2, hr2, hc2, hb2⟩))
      all_goals
        go_wp2
        go_roundw
        case rel => exact ⟨i + 1, by omega, by (have := HN.out; rw [show wrap64 ((i : Int) + 1) = (i : Int) + 1 from (by unfold wrap64; omega)]; rfl), ⟨HAT.out.keep _ _ _ hJ1 hb2⟩, ⟨by have := HS.out; have := hk1.1; have := hb2.size; simp at *; omega⟩, ⟨v2, hv2, by rw [(putB_step f i).1, hc, hx, hxs]; exact hr2⟩, ⟨by rw [(putB_step f i).2, hc, hx]; exact hc2⟩⟩
        case measure => have := HN.out; rw [show wrap64 ((i : Int) + 1) = (i : Int) + 1 from (by unfold wrap64; omega)]; simp [intOf]; omega
    · obtain rfl : i = n := by omega
      have hd : decide ((i : Int) < (i : Int)) = false := decide_eq_false (by omega)
      obtain ⟨c, hc⟩ : ∃ c, (putB 4294967296 f i).2 = c := ⟨_, rfl⟩
      obtain ⟨xs, hxs⟩ : ∃ xs, (putB 4294967296 f i).1 = xs := ⟨_, rfl⟩
      have hc4 : c ≤ 4 := by rw [← hc]; exact putB_carry (by decide) HAT.out.small i
      have HX := Aside0.mk (show xs.length ≤ 4194304 by rw [← hxs, putB_len]; exact HN.out)
      rw [hxs] at HV
      rw [hc] at HC
      go_wp2
      go_loopg [] 2 (fun kq w' => ∃ (t : List Int) (c2 : Nat), Aside0 (DigB 4294967296 t ∧ valB 4294967296 t + 4294967296 ^ t.length * c2 = c ∧ t.length ≤ 1 ∧ c2 ≤ 4 ∧ kq ≠ 0 ∧ (kq ≤ 1 → c2 = 0) ∧ (2 ≤ kq → t = []) ∧ kq ≤ 2) ∧ Aside0 (J i w') ∧ Aside0 (w.heap.size + 1 < w'.heap.size) ∧ Aside0 (∃ v, Boxed w' w.heap.size 29 v ∧ w'.ownsRow w.heap.size 88 1 v (xs ++ t).length ((xs ++ t).map (Value.int .u32))) ∧ Aside0 (Boxed w' (w.heap.size + 1) 62 (.int .u64 (c2 : Int))))
      case atStart => exact ⟨[], c, ⟨DigB.nil _, by simp [valB], by simp, hc4, by decide, fun h => absurd h (by decide), fun _ => rfl, Nat.le_refl _⟩, HJi, HS, ⟨by simpa using HV.out⟩, HC⟩
      case round =>
        obtain ⟨t, c2, HT, HJ2, HS2, HV2, HC2⟩ := hrel
        have hcc := HC2.out.cell
        by_cases h0 : 0 < c2
        · have hd0 : decide (0 < (c2 : Int)) = true := decide_eq_true (by omega)
          obtain ⟨v, hv, hrow⟩ := HV2.out
          have PUT := Aside0.mk (put_calls w.heap.size w.heap.size (w.heap.size + 1) c2 c2 (by have := HT.out.2.2.2.1; omega) v (xs ++ t) wr hv hrow HC2.out (Nat.le_refl _) (Nat.le_succ _) (by have := HS2.out; omega) (by omega) (by have := HX.out; have := HT.out.2.2.1; simp; omega))
          clear hv hrow
          cases gk with
          | zero => exact absurd rfl HT.out.2.2.2.2.1
          | succ k1 =>
            have hk : 1 ≤ k1 := by
              rcases Nat.lt_or_ge k1 1 with h | h
              · have := HT.out.2.2.2.2.2.1 (by omega); omega
              · exact h
            obtain rfl := HT.out.2.2.2.2.2.2.1 (by omega)
            obtain rfl : c2 = c := by have := HT.out.2.1; simpa [valB] using this
            have e1 : c2 % 4294967296 = c2 := Nat.mod_eq_of_lt (by omega)
            have e2 : c2 / 4294967296 = 0 := Nat.div_eq_of_lt (by omega)
            have E1 := Aside0.mk e1
            have E2 := Aside0.mk e2
            clear e1 e2
            go_wp2_with (go_at_call 102; refine PUT.out.mono ?_; rintro e W2 ⟨rfl, v2, hv2, hr2, hc2, hb2⟩; have R2 := Aside0.mk hr2; have V2 := Aside0.mk hv2; have C2 := Aside0.mk hc2; have B2 := Aside0.mk hb2; clear hr2 hv2 hc2 hb2)
            go_roundg k1
            case measure => omega
            case rel =>
              refine ⟨[(c2 : Int)], 0, ⟨DigB.cons (by omega) (by omega) (DigB.nil _), by simp [valB], by simp, by omega, by omega, fun _ => rfl, fun h => ?_, ?_⟩, ⟨HAT.out.keep _ _ _ HJ2.out B2.out⟩, ⟨Nat.lt_of_lt_of_le HS2.out B2.out.size⟩, ⟨v2, V2.out, ?_⟩, ⟨?_⟩⟩
              · have := HT.out.2.2.2.2.2.2.2; omega
              · have := HT.out.2.2.2.2.2.2.2; omega
              · have h := R2.out
                rw [E1.out] at h
                simpa using h
              · have h := C2.out
                rw [E2.out] at h
                exact h
        · obtain rfl : c2 = 0 := by omega
          have hd0 : decide (0 < ((0 : Nat) : Int)) = false := decide_eq_false (by omega)
          obtain ⟨v, hv, hrow⟩ := HV2.out
          have hR : Kd.R (Kd.int .u32) 88 wr w.heap.size (fun _ => True) v (xs ++ t) := Kd.R_of_own hrow (fun _ _ => trivial)
          obtain ⟨A, c0, rfl, hle, hC⟩ := Kd.R_reads hR
          have hvc := hv.cell
          have hvf := hv.frozen
          have hTl : (xs ++ t).length ≤ 4194305 := by have := HX.out; have := HT.out.2.2.1; simp; omega
          have ht2 : (trimL (xs ++ t)).length ≤ (xs ++ t).length := by have h := congrArg List.length (trimL_take (xs ++ t)); rw [List.length_take] at h; omega
          have TL := Aside0.mk hTl
          have RR := Aside0.mk hR
          have TOP := fun W h => top_calls A c0 (xs ++ t) W h hle (by omega)
          have CC := Aside0.mk hC
          clear hrow hv hC hR
          obtain ⟨m, hm⟩ : ∃ m, (trimL (xs ++ t)).length = m := ⟨_, rfl⟩
          obtain ⟨L, hL⟩ : ∃ L, (xs ++ t).length = L := ⟨_, rfl⟩
          rw [hm] at TOP ht2
          rw [hL] at TOP ht2 hvc hle hTl
          have LL := Aside0.mk hL
          have MM := Aside0.mk hm
          have p1 : (0 : Int) ≤ (m : Int) := by omega
          have p2 : (m : Int) ≤ (c0 : Int) := by omega
          have p3 : (m : Int) ≤ (L : Int) := by omega
          rw [hL] at CC
          clear hL hm
          go_wp2
          go_region_held3 (fun w' => w'.cell? ⟨w.heap.size, 0, none⟩ = some (.slice A L c0)) (first | assumption | go_keep) (first | (go_at_call 93; refine (TOP _ ?_).mono ?_; (repeat (first | (with_reducible exact CC.out) | (with_reducible refine Kd.cN9 ?_ _) | (with_reducible refine Kd.cD9 ?_))); rintro e w' ⟨rfl, ⟨q, rfl⟩⟩))
          all_goals
            go_wp2
            go_ret
            have hb : ∀ q, Below w.heap.size wr (wr.drewN q) := fun q => bN9 (Below.refl _ _) q
            refine ⟨_, rfl, ?_, HAT.out.keep _ _ _ HJ2.out (by repeat (first | exact Below.refl _ _ | apply bD9 | apply bN9))⟩
            have hv : valB 4294967296 t = (putB 4294967296 f i).2 := by have := HT.out.2.1; rw [hc]; simpa using this
            have hg := gathered (B := 4294967296) (by decide) (f := f) (n := i) HT.out.1 hv
            rw [hxs] at hg
            rw [← hg, trimL_take, MM.out]
            have hR := RR.out
            rw [LL.out] at hR
            repeat (first | (with_reducible refine Kd.rN9 ?_ _) | (with_reducible refine Kd.rD9 ?_))
            exact Kd.R_take hR (by rw [LL.out]; omega)
end Go.Proofs.YtibaoacjjcgjlaaGreatDoor.Print
