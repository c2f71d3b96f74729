/- Proved here: DigitsUnlike, the card of the law: two naturals, and two rationals, have the same text just if they are the same. Without a condition. Written by wip/tools/claimtexts.py: these texts, one behind another, without what this claim does not use: Qu1, PuRefA, A7, A8, PuRefB, PuRefC, PuOrder, PuNats, A9, A10, PuRats, PureDigitsUnlike, HRow, LawDigitsUnlike. -/
import Derived.Test.YthppjdmkinbccaaGreatDoorMgUnlike2
import Derived.Test.YthppjdmkinbccaaGreatDoorMgUnlike5
import Derived.Test.YthppjdmkinbccaaGreatDoorMgUnlike7
import Derived.Test.YthppjdmkinbccaaGreatDoorMgUnlike4
import Derived.Test.YthppjdmkinbccaaGreatDoorMgUnlike9
import Derived.Test.YthppjdmkinbccaaGreatDoorMgUnlike3
import Derived.Test.YthppjdmkinbccaaGreatDoorMgUnlike8
import Derived.Test.YthppjdmkinbccaaGreatDoorMgUnlike6
import Derived.Lib.SmallJoins
import Derived.ProofKit
import Derived.OpenShut
import Derived.ShutString
import Derived.ChangeOld
import Derived.SizedLaws
import Derived.Test.YthppjdmkinbccaaGreatDoorMgUnlike1
import Derived.Test.YthppjdmkinbccaaGreatDoorCards
import Derived.Test.YthppjdmkinbccaaGreatDoorTie
import Derived.WalkKit
import Derived.Below
import Derived.Lay
import Derived.Deep.DeepHandedRow
import Derived.Deep.DeepWitnessRowRef
import Derived.Lib.LaidTab
import Derived.Stop.LaidErr
namespace Go.Proofs.YthppjdmkinbccaaGreatDoor.Print
open Go.RowKit Go.Proofs.YthppjdmkinbccaaGreatDoorW.PrintWords Go.Proofs.YthppjdmkinbccaaGreatDoorW.PrintLast Go.Proofs.YthppjdmkinbccaaGreatDoorW.PrintMore
attribute [local go_sem] max2_int min2_int max_two min_two max_three min_three max_four min_four   -- for this text's walks alone
set_option linter.unusedVariables false
set_option linter.unusedSimpArgs false
def fluxionlaw04_DigitsUnlike.j0 : Nat → Bool → Bool → List Int → List Int → Bool → List Int → List Int → Option (Bool)
 | 0, _, _, _, _, _, _, _ => none
 | k + 1, x26, x102000, x102001, x102002, x103000, x103001, x103002 => if x26 = true then ((kn9.f k).bind fun t103 => (some t103)) else ((digits_Rat.f k x102000 x102001 x102002).bind fun t104 => ((digits_Rat.f k x103000 x103001 x103002).bind fun t105 => ((fluxionref03_Same.f k x102000 x102001 x102002 x103000 x103001 x103002).bind fun t106 => (if ((t104.toList == t105.toList) == t106) = true then ((digits_Nat.f x102001).bind fun t107 => ((digits_Nat.f x103001).bind fun t108 => ((r1Of.f k x102001).bind fun t109 => ((r1Of.f k x103001).bind fun t112 => ((r1Cmp.f k t109 t112).bind fun t115 => (if ((t107.toList == t108.toList) == (t115 == 0)) = true then ((kn9.f k).bind fun t116 => (some t116)) else (none))))))) else (none)))))
def fluxionlaw04_DigitsUnlike.f (k : Nat) (a0_0 : Bool) (l0_1 : List Int) (l0_2 : List Int) (a1_0 : Bool) (l1_1 : List Int) (l1_2 : List Int) : Option (Bool) := if (l0_1.length : Int) > 8 then (fluxionlaw04_DigitsUnlike.j0 k true a0_0 l0_1 l0_2 a1_0 l1_1 l1_2) else (if (l0_2.length : Int) > 8 then (fluxionlaw04_DigitsUnlike.j0 k true a0_0 l0_1 l0_2 a1_0 l1_1 l1_2) else (if (l1_1.length : Int) > 8 then (fluxionlaw04_DigitsUnlike.j0 k true a0_0 l0_1 l0_2 a1_0 l1_1 l1_2) else (fluxionlaw04_DigitsUnlike.j0 k (decide ((l1_2.length : Int) > 8)) a0_0 l0_1 l0_2 a1_0 l1_1 l1_2)))
def fluxionlaw04_DigitsUnlike.T3 : Bool × List (List Nat × List Nat) := (true, [([], []), ([0], [0]), ([], []), ([2, 1], [2]), ([1, 3], [1, 3]), ([], []), ([], []), ([5, 6, 3], [5, 6]), ([4, 7], [4, 7]), ([8, 7], [8]), ([9], [9]), ([10, 9], [9, 10]), ([11, 9, 9], [9, 11]), ([9], [9]), ([13, 9], [9, 13]), ([14, 12, 9], [9, 14]), ([12, 15, 9], [9, 12, 15]), ([9], [9]), ([17, 9], [9, 17]), ([18, 15, 9], [9, 18]), ([9], [9]), ([20, 9], [9, 20]), ([21, 19, 9], [9, 21]), ([19, 22, 22, 9], [9, 19, 22]), ([23, 9], [9, 23]), ([16, 24, 9], [9, 16, 24]), ([9, 25], [9, 25]), ([26, 23], [26]), ([27, 27], [27]), ([27, 28], [27, 28]), ([29, 28, 0, 1, 2, 3, 4, 5, 6, 7, 8, 9, 10, 11, 12, 13, 14, 15, 16, 17, 18, 19, 20, 21, 22, 23, 24, 25, 26, 27, 28, 29], [29])])
def fluxionlaw04_DigitsUnlike.B3 : List Nat := [0, 1, 0, 7, 15, 0, 0, 111, 255, 511, 1023, 2047, 4095, 1023, 9215, 32767, 65535, 1023, 132095, 458751, 1023, 1049599, 4128767, 8323071, 16711679, 33554431, 67108863, 134217727, 268435455, 536870911, 1073741823]
theorem fluxionlaw04_DigitsUnlike.tab3 : rtab .any (opsOf Tryz.f7 3) = fluxionlaw04_DigitsUnlike.T3 := by kernel_rfl
theorem fluxionlaw04_DigitsUnlike.bits3 : waitsOk fluxionlaw04_DigitsUnlike.T3.2 fluxionlaw04_DigitsUnlike.B3 = true := by kernel_rfl
set_option maxHeartbeats 8000000 in
set_option maxRecDepth 100000 in
theorem fluxionlaw04_DigitsUnlike.calls (k : Nat) (a0_0 : Bool) (A0_1 : Option Addr) (c0_1 : Nat) (l0_1 : List Int) (A0_2 : Option Addr) (c0_2 : Nat) (l0_2 : List Int) (a1_0 : Bool) (A1_1 : Option Addr) (c1_1 : Nat) (l1_1 : List Int) (A1_2 : Option Addr) (c1_2 : Nat) (l1_2 : List Int) (r : Bool) (w : World) (ht : PowTab w) (hr0_1 : Kd.C (Kd.int .u32) w A0_1 l0_1.length l0_1) (hc0_1 : l0_1.length ≤ c0_1) (hr0_2 : Kd.C (Kd.int .u32) w A0_2 l0_2.length l0_2) (hc0_2 : l0_2.length ≤ c0_2) (hr1_1 : Kd.C (Kd.int .u32) w A1_1 l1_1.length l1_1) (hc1_1 : l1_1.length ≤ c1_1) (hr1_2 : Kd.C (Kd.int .u32) w A1_2 l1_2.length l1_2) (hc1_2 : l1_2.length ≤ c1_2) (h : fluxionlaw04_DigitsUnlike.f k a0_0 l0_1 l0_2 a1_0 l1_1 l1_2 = some r) :
  Calls Tryz.prog 7 #[.agg #[.bool a0_0, .slice A0_1 l0_1.length c0_1, .slice A0_2 l0_2.length c0_2], .agg #[.bool a1_0, .slice A1_1 l1_1.length c1_1, .slice A1_2 l1_2.length c1_2]] w fun e w' => e = .returned (.bool r) ∧ Below w.heap.size w w' := by
 have HT := Aside0.mk ht
 clear ht
 have hu35 := Tryz.underlying35
 have HR0_1 := Aside0.mk hr0_1
 have HC0_1 := Aside0.mk hc0_1
 clear hr0_1 hc0_1
 have HR0_2 := Aside0.mk hr0_2
 have HC0_2 := Aside0.mk hc0_2
 clear hr0_2 hc0_2
 have HR1_1 := Aside0.mk hr1_1
 have HC1_1 := Aside0.mk hc1_1
 clear hr1_1 hc1_1
 have HR1_2 := Aside0.mk hr1_2
 have HC1_2 := Aside0.mk hc1_2
 clear hr1_2 hc1_2
 have HB := Aside0.mk (Below.refl w.heap.size w)
 have H : (if (l0_1.length : Int) > 8 then (fluxionlaw04_DigitsUnlike.j0 k true a0_0 l0_1 l0_2 a1_0 l1_1 l1_2) else (if (l0_2.length : Int) > 8 then (fluxionlaw04_DigitsUnlike.j0 k true a0_0 l0_1 l0_2 a1_0 l1_1 l1_2) else (if (l1_1.length : Int) > 8 then (fluxionlaw04_DigitsUnlike.j0 k true a0_0 l0_1 l0_2 a1_0 l1_1 l1_2) else (fluxionlaw04_DigitsUnlike.j0 k (decide ((l1_2.length : Int) > 8)) a0_0 l0_1 l0_2 a1_0 l1_1 l1_2)))) = some r := h
 clear h
 have HC3 := Aside0.mk H
 clear H
 go_enter Tryz.func7, Tryz.ntmps7
 go_upto_region 1 with (first | ((with_reducible refine gD9 (N := 2) rfl ?_); (try (refine gate_guard (by rfl) ?_; dsimp only)); refine bE9 ?hg (N := 2) ?hd (cs := #[.bool a0_0, .slice A0_1 l0_1.length c0_1, .slice A0_2 l0_2.length c0_2]) (t := 35) ?hr ?_; (case hd => rfl); (case hg => rfl); (case hr => first | (go_simp; done) | (go_simp; rfl)); intro gb101 hg w4 hbox hb; have n0_ := Aside0.mk (bT9 (by repeat (first | (with_reducible first | exact HB.out | apply bA9 | apply bN9 | apply bD9) | exact HB.out)) hb); have n1_ := Aside0.mk (hbox); have n2_ := Aside0.mk ((by rw [hg]; exact (bZ9 (by repeat (first | (with_reducible first | exact HB.out | apply bA9 | apply bN9 | apply bD9) | exact HB.out))) : w.heap.size ≤ gb101)); have n3_ := Aside0.mk ((by rw [hg]; exact (bZ9 (by repeat (first | (with_reducible first | exact HB.out | apply bA9 | apply bN9 | apply bD9) | exact HB.out))) : w.heap.size ≤ gb101)); clear HB; have HB := n0_; have BK101 := n1_; have GW101 := n2_; have GE101 := n3_; clear n0_ n1_ n2_ n3_; clear hb hbox hg) | ((with_reducible refine gD9 (N := 3) rfl ?_); (try (refine gate_guard (by rfl) ?_; dsimp only)); refine bE9 ?hg (N := 3) ?hd (cs := #[.bool a1_0, .slice A1_1 l1_1.length c1_1, .slice A1_2 l1_2.length c1_2]) (t := 35) ?hr ?_; (case hd => rfl); (case hg => rfl); (case hr => first | (go_simp; done) | (go_simp; rfl)); intro gb102 hg w5 hbox hb; have n0_ := Aside0.mk (kB9 (g := gb101) (o := .cells #[.bool a0_0, .slice A0_1 l0_1.length c0_1, .slice A0_2 l0_2.length c0_2] 35 (0, 0)) (by (with_reducible repeat (first | refine kN9 ?_ _ | refine kD9 ?_ | refine kA9 ?_ _)); exact BK101.out) hb); have n1_ := Aside0.mk (bT9 (by repeat (first | (with_reducible first | exact HB.out | apply bA9 | apply bN9 | apply bD9 | refine bS9 ?_ GE101.out) | exact HB.out)) hb); have n2_ := Aside0.mk (hbox); have n3_ := Aside0.mk ((by rw [hg]; exact (bZ9 (by repeat (first | (with_reducible first | exact HB.out | apply bA9 | apply bN9 | apply bD9 | refine bS9 ?_ GE101.out) | exact HB.out))) : w.heap.size ≤ gb102)); have n4_ := Aside0.mk ((by rw [hg]; exact (bZ9 (by repeat (first | (with_reducible first | exact HB.out | apply bA9 | apply bN9 | apply bD9 | refine bS9 ?_ GE101.out) | exact HB.out))) : w.heap.size ≤ gb102)); have n5_ := Aside0.mk ((by rw [hg]; exact Nat.ne_of_lt (blk_lt (g := gb101) (o := .cells #[.bool a0_0, .slice A0_1 l0_1.length c0_1, .slice A0_2 l0_2.length c0_2] 35 (0, 0)) (by (with_reducible repeat (first | refine kN9 ?_ _ | refine kD9 ?_ | refine kA9 ?_ _)); exact BK101.out)) : gb101 ≠ gb102)); have n6_ := Aside0.mk ((by rw [hg]; exact Nat.ne_of_gt (blk_lt (g := gb101) (o := .cells #[.bool a0_0, .slice A0_1 l0_1.length c0_1, .slice A0_2 l0_2.length c0_2] 35 (0, 0)) (by (with_reducible repeat (first | refine kN9 ?_ _ | refine kD9 ?_ | refine kA9 ?_ _)); exact BK101.out)) : gb102 ≠ gb101)); clear BK101; clear HB; have BK101 := n0_; have HB := n1_; have BK102 := n2_; have GW102 := n3_; have GE102 := n4_; have NB101_102 := n5_; have NB102_101 := n6_; clear n0_ n1_ n2_ n3_ n4_ n5_ n6_; clear hb hbox hg))
 (try simp only [Act.put, List.setIfInBounds_toArray, List.set_cons_zero, List.set_cons_succ])
 go_cut [26] (fun v26 wc => ∃ (kq : Nat) (x26_2 : Bool), v26 = .bool x26_2 ∧ Aside0 (fluxionlaw04_DigitsUnlike.j0 kq x26_2 a0_0 l0_1 l0_2 a1_0 l1_1 l1_2 = some r) ∧ Aside0 (kq ≤ k) ∧ Aside0 (wc.heap[gb101]? = some (.cells #[.bool a0_0, (.slice A0_1 l0_1.length c0_1), (.slice A0_2 l0_2.length c0_2)] 35 (0, 0))) ∧ Aside0 (wc.heap[gb102]? = some (.cells #[.bool a1_0, (.slice A1_1 l1_1.length c1_1), (.slice A1_2 l1_2.length c1_2)] 35 (0, 0))) ∧ Aside0 (Below w.heap.size w wc))
 case first =>
  have H := HC3.out
  clear HC3
  by_cases c6 : (l0_1.length : Int) > 8
  ·rw [if_pos c6] at H
   have c6b0 : decide (8 < (l0_1.length : Int)) = true := decide_eq_true c6
   have c6b1 : decide (8 < l0_1.length) = true := decide_eq_true (by omega)
   clear c6
   (first | rw [c6b0] | (simp only [i64_w, i32_w]; rw [c6b0]) | skip)
   have H' := Aside0.mk H
   clear H
   have hnb7 := NB101_102.out
   have hnc7 := NB102_101.out
   have hcz8_0 : w5.cell? ⟨gb101, 0, none⟩ = some (.bool a0_0) := (kC9 BK101.out 0).trans rfl
   have hcz8_1 : w5.cell? ⟨gb101, 1, none⟩ = some (.slice A0_1 l0_1.length c0_1) := (kC9 BK101.out 1).trans rfl
   have hcz8_2 : w5.cell? ⟨gb101, 2, none⟩ = some (.slice A0_2 l0_2.length c0_2) := (kC9 BK101.out 2).trans rfl
   have hfz8_0 := kF9 BK101.out 0
   have hfz8_1 := kF9 BK101.out 1
   have hfz8_2 := kF9 BK101.out 2
   go_wp2
   go_meet
   case rel => exact ⟨_, (true), (by first | rfl | (simp; done) | (simp [*]; done)), H', ⟨by first | omega | exact Nat.le_refl _⟩, ⟨by (with_reducible repeat (first | refine kN9 ?_ _ | refine kD9 ?_ | refine kA9 ?_ _)); exact BK101.out⟩, ⟨by (with_reducible repeat (first | refine kN9 ?_ _ | refine kD9 ?_ | refine kA9 ?_ _)); exact BK102.out⟩, ⟨by repeat (first | (with_reducible first | exact HB.out | apply bA9 | apply bN9 | apply bD9 | refine bS9 ?_ GE101.out | refine bS9 ?_ GE102.out) | exact HB.out)⟩⟩
  ·rw [if_neg c6] at H
   have c6b0 : decide (8 < (l0_1.length : Int)) = false := decide_eq_false c6
   have c6b1 : decide (8 < l0_1.length) = false := decide_eq_false (by omega)
   clear c6
   (first | rw [c6b0] | (simp only [i64_w, i32_w]; rw [c6b0]) | skip)
   by_cases c9 : (l0_2.length : Int) > 8
   ·rw [if_pos c9] at H
    have c9b0 : decide (8 < (l0_2.length : Int)) = true := decide_eq_true c9
    have c9b1 : decide (8 < l0_2.length) = true := decide_eq_true (by omega)
    clear c9
    have H' := Aside0.mk H
    clear H
    have hnb10 := NB101_102.out
    have hnc10 := NB102_101.out
    have hcz11_0 : w5.cell? ⟨gb101, 0, none⟩ = some (.bool a0_0) := (kC9 BK101.out 0).trans rfl
    have hcz11_1 : w5.cell? ⟨gb101, 1, none⟩ = some (.slice A0_1 l0_1.length c0_1) := (kC9 BK101.out 1).trans rfl
    have hcz11_2 : w5.cell? ⟨gb101, 2, none⟩ = some (.slice A0_2 l0_2.length c0_2) := (kC9 BK101.out 2).trans rfl
    have hfz11_0 := kF9 BK101.out 0
    have hfz11_1 := kF9 BK101.out 1
    have hfz11_2 := kF9 BK101.out 2
    go_wp2
    go_meet
    case rel => exact ⟨_, (true), (by first | rfl | (simp; done) | (simp [*]; done)), H', ⟨by first | omega | exact Nat.le_refl _⟩, ⟨by (with_reducible repeat (first | refine kN9 ?_ _ | refine kD9 ?_ | refine kA9 ?_ _)); exact BK101.out⟩, ⟨by (with_reducible repeat (first | refine kN9 ?_ _ | refine kD9 ?_ | refine kA9 ?_ _)); exact BK102.out⟩, ⟨by repeat (first | (with_reducible first | exact HB.out | apply bA9 | apply bN9 | apply bD9 | refine bS9 ?_ GE101.out | refine bS9 ?_ GE102.out) | exact HB.out)⟩⟩
   ·rw [if_neg c9] at H
    have c9b0 : decide (8 < (l0_2.length : Int)) = false := decide_eq_false c9
    have c9b1 : decide (8 < l0_2.length) = false := decide_eq_false (by omega)
    clear c9
    by_cases c12 : (l1_1.length : Int) > 8
    ·rw [if_pos c12] at H
     have c12b0 : decide (8 < (l1_1.length : Int)) = true := decide_eq_true c12
     have c12b1 : decide (8 < l1_1.length) = true := decide_eq_true (by omega)
     clear c12
     have H' := Aside0.mk H
     clear H
     have hnb13 := NB101_102.out
     have hnc13 := NB102_101.out
     have hcz14_0 : w5.cell? ⟨gb101, 0, none⟩ = some (.bool a0_0) := (kC9 BK101.out 0).trans rfl
     have hcz14_1 : w5.cell? ⟨gb101, 1, none⟩ = some (.slice A0_1 l0_1.length c0_1) := (kC9 BK101.out 1).trans rfl
     have hcz14_2 : w5.cell? ⟨gb101, 2, none⟩ = some (.slice A0_2 l0_2.length c0_2) := (kC9 BK101.out 2).trans rfl
     have hfz14_0 := kF9 BK101.out 0
     have hfz14_1 := kF9 BK101.out 1
     have hfz14_2 := kF9 BK101.out 2
     have hcz15_0 : w5.cell? ⟨gb102, 0, none⟩ = some (.bool a1_0) := (kC9 BK102.out 0).trans rfl
     have hcz15_1 : w5.cell? ⟨gb102, 1, none⟩ = some (.slice A1_1 l1_1.length c1_1) := (kC9 BK102.out 1).trans rfl
     have hcz15_2 : w5.cell? ⟨gb102, 2, none⟩ = some (.slice A1_2 l1_2.length c1_2) := (kC9 BK102.out 2).trans rfl
     have hfz15_0 := kF9 BK102.out 0
     have hfz15_1 := kF9 BK102.out 1
     have hfz15_2 := kF9 BK102.out 2
     go_wp2
     go_meet
     case rel => exact ⟨_, (true), (by first | rfl | (simp; done) | (simp [*]; done)), H', ⟨by first | omega | exact Nat.le_refl _⟩, ⟨by (with_reducible repeat (first | refine kN9 ?_ _ | refine kD9 ?_ | refine kA9 ?_ _)); exact BK101.out⟩, ⟨by (with_reducible repeat (first | refine kN9 ?_ _ | refine kD9 ?_ | refine kA9 ?_ _)); exact BK102.out⟩, ⟨by repeat (first | (with_reducible first | exact HB.out | apply bA9 | apply bN9 | apply bD9 | refine bS9 ?_ GE101.out | refine bS9 ?_ GE102.out) | exact HB.out)⟩⟩
    ·rw [if_neg c12] at H
     have c12b0 : decide (8 < (l1_1.length : Int)) = false := decide_eq_false c12
     have c12b1 : decide (8 < l1_1.length) = false := decide_eq_false (by omega)
     clear c12
     have H' := Aside0.mk H
     clear H
     have hnb16 := NB101_102.out
     have hnc16 := NB102_101.out
     have hcz17_0 : w5.cell? ⟨gb101, 0, none⟩ = some (.bool a0_0) := (kC9 BK101.out 0).trans rfl
     have hcz17_1 : w5.cell? ⟨gb101, 1, none⟩ = some (.slice A0_1 l0_1.length c0_1) := (kC9 BK101.out 1).trans rfl
     have hcz17_2 : w5.cell? ⟨gb101, 2, none⟩ = some (.slice A0_2 l0_2.length c0_2) := (kC9 BK101.out 2).trans rfl
     have hfz17_0 := kF9 BK101.out 0
     have hfz17_1 := kF9 BK101.out 1
     have hfz17_2 := kF9 BK101.out 2
     have hcz18_0 : w5.cell? ⟨gb102, 0, none⟩ = some (.bool a1_0) := (kC9 BK102.out 0).trans rfl
     have hcz18_1 : w5.cell? ⟨gb102, 1, none⟩ = some (.slice A1_1 l1_1.length c1_1) := (kC9 BK102.out 1).trans rfl
     have hcz18_2 : w5.cell? ⟨gb102, 2, none⟩ = some (.slice A1_2 l1_2.length c1_2) := (kC9 BK102.out 2).trans rfl
     have hfz18_0 := kF9 BK102.out 0
     have hfz18_1 := kF9 BK102.out 1
     have hfz18_2 := kF9 BK102.out 2
     go_wp2
     go_meet
     case rel => exact ⟨_, (decide ((l1_2.length : Int) > 8)), (by first | rfl | (simp; done) | (simp [*]; done)), H', ⟨by first | omega | exact Nat.le_refl _⟩, ⟨by (with_reducible repeat (first | refine kN9 ?_ _ | refine kD9 ?_ | refine kA9 ?_ _)); exact BK101.out⟩, ⟨by (with_reducible repeat (first | refine kN9 ?_ _ | refine kD9 ?_ | refine kA9 ?_ _)); exact BK102.out⟩, ⟨by repeat (first | (with_reducible first | exact HB.out | apply bA9 | apply bN9 | apply bD9 | refine bS9 ?_ GE101.out | refine bS9 ?_ GE102.out) | exact HB.out)⟩⟩
 case rest =>
  clear HC3
  try clear c1
  try clear p2
  try clear c6
  try clear c6b0
  try clear c6b1
  try clear c7
  try clear c9
  try clear c9b0
  try clear c9b1
  try clear c10
  try clear c12
  try clear c12b0
  try clear c12b1
  try clear c13
  try clear c16
  try clear hcz11_0
  try clear hcz11_1
  try clear hcz11_2
  try clear hcz14_0
  try clear hcz14_1
  try clear hcz14_2
  try clear hcz15_0
  try clear hcz15_1
  try clear hcz15_2
  try clear hcz17_0
  try clear hcz17_1
  try clear hcz17_2
  try clear hcz18_0
  try clear hcz18_1
  try clear hcz18_2
  try clear hcz8_0
  try clear hcz8_1
  try clear hcz8_2
  try clear hfz11_0
  try clear hfz11_1
  try clear hfz11_2
  try clear hfz14_0
  try clear hfz14_1
  try clear hfz14_2
  try clear hfz15_0
  try clear hfz15_1
  try clear hfz15_2
  try clear hfz17_0
  try clear hfz17_1
  try clear hfz17_2
  try clear hfz18_0
  try clear hfz18_1
  try clear hfz18_2
  try clear hfz8_0
  try clear hfz8_1
  try clear hfz8_2
  obtain ⟨kq, x26_2, rfl, HA, HJ2, BK101, BK102, HB⟩ := hcut
  cases kq with
  | zero => exact absurd HA.out (by simp [fluxionlaw04_DigitsUnlike.j0])
  | succ kj2 =>
   have H := HA.out
   clear HA
   simp only [fluxionlaw04_DigitsUnlike.j0] at H
   by_cases c19 : x26_2 = true
   ·subst c19
    have H1 : ((kn9.f kj2).bind fun t103 => (some t103)) = some r := by rw [if_pos rfl] at H; exact H
    clear H
    have H := H1
    clear H1
    replace H := Option.bind_eq_some_iff.mp H
    obtain ⟨t103, A200, H⟩ := H
    replace H : (some t103) = some r := H
    have A20 := Aside0.mk A200
    clear A200
    obtain rfl := Option.some.inj H
    go_wp2_with (first | ((with_reducible refine gC9 (f := 15) rfl ?_); refine goesL_ (some 27) rfl rfl Tryz.func15 (by kernel_rfl) rfl #[] rfl (by (try simp only [List.map_toArray, List.map_cons, List.map_nil]); first | done | rfl | (simp only [List.length_drop, List.length_take]; rfl)) ?_; (with_reducible refine (kn9.calls kj2  t103 _ (PowTab.below HT.out (by repeat (first | (with_reducible first | exact HB.out | apply bA9 | apply bN9 | apply bD9 | refine bS9 ?_ GE101.out | refine bS9 ?_ GE102.out) | exact HB.out))) A20.out).mono ?_); rintro e w21 ⟨rfl, hb⟩; refine ⟨_, rfl, ?_⟩; have n0_ := Aside0.mk (kB9 (g := gb101) (o := .cells #[.bool a0_0, .slice A0_1 l0_1.length c0_1, .slice A0_2 l0_2.length c0_2] 35 (0, 0)) (by (with_reducible repeat (first | refine kN9 ?_ _ | refine kD9 ?_ | refine kA9 ?_ _)); exact BK101.out) hb); have n1_ := Aside0.mk (kB9 (g := gb102) (o := .cells #[.bool a1_0, .slice A1_1 l1_1.length c1_1, .slice A1_2 l1_2.length c1_2] 35 (0, 0)) (by (with_reducible repeat (first | refine kN9 ?_ _ | refine kD9 ?_ | refine kA9 ?_ _)); exact BK102.out) hb); have n2_ := Aside0.mk (bT9 (by repeat (first | (with_reducible first | exact HB.out | apply bA9 | apply bN9 | apply bD9 | refine bS9 ?_ GE101.out | refine bS9 ?_ GE102.out) | exact HB.out)) hb); clear BK101; clear BK102; clear HB; have BK101 := n0_; have BK102 := n1_; have HB := n2_; clear n0_ n1_ n2_; (try clear hb); (try clear hb2); (try clear hk); (try clear hi)))
    go_ret
    exact ⟨by first | rfl | (simp [eN9, eS9] <;> rfl) | (simp [*, eN9, eS9] <;> rfl), by repeat (first | (with_reducible first | exact HB.out | apply bA9 | apply bN9 | apply bD9 | refine bS9 ?_ GE101.out | refine bS9 ?_ GE102.out) | exact HB.out)⟩
   ·replace c19 := Bool.eq_false_iff.mpr c19
    subst c19
    have H1 : ((digits_Rat.f kj2 a0_0 l0_1 l0_2).bind fun t104 => ((digits_Rat.f kj2 a1_0 l1_1 l1_2).bind fun t105 => ((fluxionref03_Same.f kj2 a0_0 l0_1 l0_2 a1_0 l1_1 l1_2).bind fun t106 => (if ((t104.toList == t105.toList) == t106) = true then ((digits_Nat.f l0_1).bind fun t107 => ((digits_Nat.f l1_1).bind fun t108 => ((r1Of.f kj2 l0_1).bind fun t109 => ((r1Of.f kj2 l1_1).bind fun t112 => ((r1Cmp.f kj2 t109 t112).bind fun t115 => (if ((t107.toList == t108.toList) == (t115 == 0)) = true then ((kn9.f kj2).bind fun t116 => (some t116)) else (none))))))) else (none))))) = some r := by rw [if_neg (show ¬ (false = true) by decide)] at H; exact H
    clear H
    have H := H1
    clear H1
    replace H := Option.bind_eq_some_iff.mp H
    obtain ⟨t104, A220, H⟩ := H
    (try dsimp only at H)
    have A22 := Aside0.mk A220
    clear A220
    replace H := Option.bind_eq_some_iff.mp H
    obtain ⟨t105, A230, H⟩ := H
    (try dsimp only at H)
    have A23 := Aside0.mk A230
    clear A230
    replace H := Option.bind_eq_some_iff.mp H
    obtain ⟨t106, A240, H⟩ := H
    (try dsimp only at H)
    have A24 := Aside0.mk A240
    clear A240
    by_cases c25 : ((t104.toList == t105.toList) == t106) = true
    ·rw [if_pos c25] at H
     have c25b0 : ((t104.toList == t105.toList) == t106) = true := c25
     (try (have c25b1 : decide ((t104.toList == t105.toList) = t106) = true := by simpa using c25))
     (try (have c25b2 : ((t104.toList == t105.toList) == t106) = true := by simpa using c25))
     clear c25
     replace H := Option.bind_eq_some_iff.mp H
     obtain ⟨t107, A260, H⟩ := H
     (try dsimp only at H)
     have A26 := Aside0.mk A260
     clear A260
     replace H := Option.bind_eq_some_iff.mp H
     obtain ⟨t108, A270, H⟩ := H
     (try dsimp only at H)
     have A27 := Aside0.mk A270
     clear A270
     replace H := Option.bind_eq_some_iff.mp H
     obtain ⟨t109, A280, H⟩ := H
     (try dsimp only at H)
     have A28 := Aside0.mk A280
     clear A280
     replace H := Option.bind_eq_some_iff.mp H
     obtain ⟨t112, A290, H⟩ := H
     (try dsimp only at H)
     have A29 := Aside0.mk A290
     clear A290
     replace H := Option.bind_eq_some_iff.mp H
     obtain ⟨t115, A300, H⟩ := H
     (try dsimp only at H)
     have A30 := Aside0.mk A300
     clear A300
     by_cases c31 : ((t107.toList == t108.toList) == (t115 == 0)) = true
     ·rw [if_pos c31] at H
      have c31b0 : ((t107.toList == t108.toList) == (t115 == 0)) = true := c31
      (try (have c31b1 : decide ((t107.toList == t108.toList) = (t115 == 0)) = true := by simpa using c31))
      (try (have c31b2 : ((t107.toList == t108.toList) == (t115 == 0)) = true := by simpa using c31))
      clear c31
      replace H := Option.bind_eq_some_iff.mp H
      obtain ⟨t116, A320, H⟩ := H
      replace H : (some t116) = some r := H
      have A32 := Aside0.mk A320
      clear A320
      obtain rfl := Option.some.inj H
      try go_wp2
      have n0_ := Aside0.mk (kD9 BK101.out)
      have n1_ := Aside0.mk (kD9 BK102.out)
      have n2_ := Aside0.mk (bD9 HB.out)
      clear BK101
      clear BK102
      clear HB
      have BK101 := n0_
      have BK102 := n1_
      have HB := n2_
      clear n0_ n1_ n2_
      refine start_ (n := 31) (S := fun w' => w'.cell? ⟨gb101, 0, none⟩ = some (.bool a0_0) ∧ w'.cell? ⟨gb101, 1, none⟩ = some (.slice A0_1 l0_1.length c0_1) ∧ w'.cell? ⟨gb101, 2, none⟩ = some (.slice A0_2 l0_2.length c0_2) ∧ w'.cell? ⟨gb102, 0, none⟩ = some (.bool a1_0) ∧ w'.cell? ⟨gb102, 1, none⟩ = some (.slice A1_1 l1_1.length c1_1) ∧ w'.cell? ⟨gb102, 2, none⟩ = some (.slice A1_2 l1_2.length c1_2)) (ds := []) #[false, false, false, false, false, false, false, false, false, false, false, false, false, false, false, false, false, false, false, false, false, false, false, false, false, false, false, false, false, false, false] (by kernel_rfl) rfl rfl ⟨(kC9 BK101.out 0).trans rfl, (kC9 BK101.out 1).trans rfl, (kC9 BK101.out 2).trans rfl, (kC9 BK102.out 0).trans rfl, (kC9 BK102.out 1).trans rfl, (kC9 BK102.out 2).trans rfl⟩ (fun hHeld => ?_); refine with_tabW fluxionlaw04_DigitsUnlike.tab3 fluxionlaw04_DigitsUnlike.bits3 (fun HT_ HW_ => ?_)
      generalize wc.drew = w33 at BK101 BK102 HB hHeld ⊢
      refine take_ (i := 0) (N := some 28) (v := ?_) (a' := ?_) #[true, false, false, false, false, false, false, false, false, false, false, false, false, false, false, false, false, false, false, false, false, false, false, false, false, false, false, false, false, false, false] rfl rfl (take_ofW HT_.out HW_.out (by kernel_rfl)) (fun _ _ _ h => h) (Or.inl ⟨by rfl, ?_⟩) hHeld ?_ ?_
      rotate_left
      ·rintro w' ⟨s0, s1, s2, s3, s4, s5⟩
       go_simp
       with_reducible rfl
      rotate_left
      ·simp only [Act.put, List.setIfInBounds_toArray, List.set_cons_zero, List.set_cons_succ, i64_w, i32_w]
       rfl
      refine take_ (i := 2) (N := some 30) (v := ?_) (a' := ?_) #[true, false, true, false, false, false, false, false, false, false, false, false, false, false, false, false, false, false, false, false, false, false, false, false, false, false, false, false, false, false, false] rfl rfl (take_ofW HT_.out HW_.out (by kernel_rfl)) (fun _ _ _ h => h) (Or.inl ⟨by rfl, ?_⟩) hHeld ?_ ?_
      rotate_left
      ·rintro w' ⟨s0, s1, s2, s3, s4, s5⟩
       go_simp
       with_reducible rfl
      rotate_left
      ·simp only [Act.put, List.setIfInBounds_toArray, List.set_cons_zero, List.set_cons_succ, i64_w, i32_w]
       rfl
      refine take_ (i := 5) (N := some 33) (v := ?_) (a' := ?_) #[true, false, true, false, false, true, false, false, false, false, false, false, false, false, false, false, false, false, false, false, false, false, false, false, false, false, false, false, false, false, false] rfl rfl (take_ofW HT_.out HW_.out (by kernel_rfl)) (fun _ _ _ h => h) (Or.inl ⟨by rfl, ?_⟩) hHeld ?_ ?_
      rotate_left
      ·rintro w' ⟨s0, s1, s2, s3, s4, s5⟩
       go_simp
       with_reducible rfl
      rotate_left
      ·simp only [Act.put, List.setIfInBounds_toArray, List.set_cons_zero, List.set_cons_succ, i64_w, i32_w]
       rfl
      refine take_ (i := 6) (N := some 34) (v := ?_) (a' := ?_) #[true, false, true, false, false, true, true, false, false, false, false, false, false, false, false, false, false, false, false, false, false, false, false, false, false, false, false, false, false, false, false] rfl rfl (take_ofW HT_.out HW_.out (by kernel_rfl)) (fun _ _ _ h => h) (Or.inl ⟨by rfl, ?_⟩) hHeld ?_ ?_
      rotate_left
      ·rintro w' ⟨s0, s1, s2, s3, s4, s5⟩
       go_simp
       with_reducible rfl
      rotate_left
      ·simp only [Act.put, List.setIfInBounds_toArray, List.set_cons_zero, List.set_cons_succ, i64_w, i32_w]
       rfl
      refine one_ (i := 1) (N := some 29) #[true, true, true, false, false, true, true, false, false, false, false, false, false, false, false, false, false, false, false, false, false, false, false, false, false, false, false, false, false, false, false] rfl rfl (one_of HT_.out (by kernel_rfl)) (by decide) (fun K hK => ?_)
      refine goes_ Tryz.func16 (by kernel_rfl) rfl #[.agg #[.bool a0_0, .slice A0_1 l0_1.length c0_1, .slice A0_2 l0_2.length c0_2]] (by rfl) rfl rfl (by (try simp only [List.map_toArray, List.map_cons, List.map_nil]); first | done | rfl | (simp only [List.length_drop, List.length_take]; rfl)) ?_
      with_reducible refine (digits_Rat.calls kj2 a0_0 _ _ l0_1 _ _ l0_2 t104 _ (PowTab.below HT.out (by repeat (first | (with_reducible first | exact HB.out | apply bA9 | apply bN9 | apply bD9 | refine bS9 ?_ GE101.out | refine bS9 ?_ GE102.out) | exact HB.out))) ?side1 ?side2 ?side3 ?side4 A22.out).mono ?_
      (case side1 => repeat (first | exact (Kd.cB9 HR0_1.out HB.out) | (with_reducible refine Kd.cA9 ?_ _) | (with_reducible refine Kd.cN9 ?_ _) | (with_reducible refine Kd.cD9 ?_)))
      (case side2 => exact HC0_1.out)
      (case side3 => repeat (first | exact (Kd.cB9 HR0_2.out HB.out) | (with_reducible refine Kd.cA9 ?_ _) | (with_reducible refine Kd.cN9 ?_ _) | (with_reducible refine Kd.cD9 ?_)))
      (case side4 => exact HC0_2.out)
      rintro e w34 ⟨rfl, hb⟩
      refine ⟨_, rfl, ?_⟩
      have n0_ := Aside0.mk (kB9 (g := gb101) (o := .cells #[.bool a0_0, .slice A0_1 l0_1.length c0_1, .slice A0_2 l0_2.length c0_2] 35 (0, 0)) (by (with_reducible repeat (first | refine kN9 ?_ _ | refine kD9 ?_ | refine kA9 ?_ _)); exact BK101.out) hb)
      have n1_ := Aside0.mk (kB9 (g := gb102) (o := .cells #[.bool a1_0, .slice A1_1 l1_1.length c1_1, .slice A1_2 l1_2.length c1_2] 35 (0, 0)) (by (with_reducible repeat (first | refine kN9 ?_ _ | refine kD9 ?_ | refine kA9 ?_ _)); exact BK102.out) hb)
      have n2_ := Aside0.mk (bT9 (by repeat (first | (with_reducible first | exact HB.out | apply bA9 | apply bN9 | apply bD9 | refine bS9 ?_ GE101.out | refine bS9 ?_ GE102.out) | exact HB.out)) hb)
      clear BK101
      clear BK102
      clear HB
      have BK101 := n0_
      have BK102 := n1_
      have HB := n2_
      clear n0_ n1_ n2_
      (try clear hb)
      (try clear hb2)
      (try clear hk)
      (try clear hi)
      refine hK.out _ _ ⟨(kC9 BK101.out 0).trans rfl, (kC9 BK101.out 1).trans rfl, (kC9 BK101.out 2).trans rfl, (kC9 BK102.out 0).trans rfl, (kC9 BK102.out 1).trans rfl, (kC9 BK102.out 2).trans rfl⟩ (fun hHeld => ?_)
      clear hK K
      refine norm_ (a' := ?_) ?_ ?_
      rotate_left
      ·show Act.put _ (some 29) _ = _
       simp only [Act.put, List.setIfInBounds_toArray, List.set_cons_zero, List.set_cons_succ, i64_w, i32_w]
       rfl
      refine one_ (i := 3) (N := some 31) #[true, true, true, true, false, true, true, false, false, false, false, false, false, false, false, false, false, false, false, false, false, false, false, false, false, false, false, false, false, false, false] rfl rfl (one_of HT_.out (by kernel_rfl)) (by decide) (fun K hK => ?_)
      refine goes_ Tryz.func16 (by kernel_rfl) rfl #[.agg #[.bool a1_0, .slice A1_1 l1_1.length c1_1, .slice A1_2 l1_2.length c1_2]] (by rfl) rfl rfl (by (try simp only [List.map_toArray, List.map_cons, List.map_nil]); first | done | rfl | (simp only [List.length_drop, List.length_take]; rfl)) ?_
      with_reducible refine (digits_Rat.calls kj2 a1_0 _ _ l1_1 _ _ l1_2 t105 _ (PowTab.below HT.out (by repeat (first | (with_reducible first | exact HB.out | apply bA9 | apply bN9 | apply bD9 | refine bS9 ?_ GE101.out | refine bS9 ?_ GE102.out) | exact HB.out))) ?side1 ?side2 ?side3 ?side4 A23.out).mono ?_
      (case side1 => repeat (first | exact (Kd.cB9 HR1_1.out HB.out) | (with_reducible refine Kd.cA9 ?_ _) | (with_reducible refine Kd.cN9 ?_ _) | (with_reducible refine Kd.cD9 ?_)))
      (case side2 => exact HC1_1.out)
      (case side3 => repeat (first | exact (Kd.cB9 HR1_2.out HB.out) | (with_reducible refine Kd.cA9 ?_ _) | (with_reducible refine Kd.cN9 ?_ _) | (with_reducible refine Kd.cD9 ?_)))
      (case side4 => exact HC1_2.out)
      rintro e w35 ⟨rfl, hb⟩
      refine ⟨_, rfl, ?_⟩
      have n0_ := Aside0.mk (kB9 (g := gb101) (o := .cells #[.bool a0_0, .slice A0_1 l0_1.length c0_1, .slice A0_2 l0_2.length c0_2] 35 (0, 0)) (by (with_reducible repeat (first | refine kN9 ?_ _ | refine kD9 ?_ | refine kA9 ?_ _)); exact BK101.out) hb)
      have n1_ := Aside0.mk (kB9 (g := gb102) (o := .cells #[.bool a1_0, .slice A1_1 l1_1.length c1_1, .slice A1_2 l1_2.length c1_2] 35 (0, 0)) (by (with_reducible repeat (first | refine kN9 ?_ _ | refine kD9 ?_ | refine kA9 ?_ _)); exact BK102.out) hb)
      have n2_ := Aside0.mk (bT9 (by repeat (first | (with_reducible first | exact HB.out | apply bA9 | apply bN9 | apply bD9 | refine bS9 ?_ GE101.out | refine bS9 ?_ GE102.out) | exact HB.out)) hb)
      clear BK101
      clear BK102
      clear HB
      have BK101 := n0_
      have BK102 := n1_
      have HB := n2_
      clear n0_ n1_ n2_
      (try clear hb)
      (try clear hb2)
      (try clear hk)
      (try clear hi)
      refine hK.out _ _ ⟨(kC9 BK101.out 0).trans rfl, (kC9 BK101.out 1).trans rfl, (kC9 BK101.out 2).trans rfl, (kC9 BK102.out 0).trans rfl, (kC9 BK102.out 1).trans rfl, (kC9 BK102.out 2).trans rfl⟩ (fun hHeld => ?_)
      clear hK K
      refine norm_ (a' := ?_) ?_ ?_
      rotate_left
      ·show Act.put _ (some 31) _ = _
       simp only [Act.put, List.setIfInBounds_toArray, List.set_cons_zero, List.set_cons_succ, i64_w, i32_w]
       rfl
      refine pure_ (i := 4) (N := some 32) (v := ?_) (a' := ?_) #[true, true, true, true, true, true, true, false, false, false, false, false, false, false, false, false, false, false, false, false, false, false, false, false, false, false, false, false, false, false, false] rfl rfl (any_of HT_.out (by kernel_rfl)) (fun _ _ _ h => h) (Or.inl ⟨by rfl, ?_⟩) ?_ ?_
      rotate_left
      ·intro w'
       go_simp
       with_reducible rfl
      rotate_left
      ·simp only [Act.put, List.setIfInBounds_toArray, List.set_cons_zero, List.set_cons_succ, i64_w, i32_w]
       rfl
      refine one_ (i := 7) (N := some 35) #[true, true, true, true, true, true, true, true, false, false, false, false, false, false, false, false, false, false, false, false, false, false, false, false, false, false, false, false, false, false, false] rfl rfl (one_of HT_.out (by kernel_rfl)) (by decide) (fun K hK => ?_)
      refine goes_ Tryz.func26 (by kernel_rfl) rfl #[.agg #[.bool a0_0, .slice A0_1 l0_1.length c0_1, .slice A0_2 l0_2.length c0_2], .agg #[.bool a1_0, .slice A1_1 l1_1.length c1_1, .slice A1_2 l1_2.length c1_2]] (by rfl) rfl rfl (by (try simp only [List.map_toArray, List.map_cons, List.map_nil]); first | done | rfl | (simp only [List.length_drop, List.length_take]; rfl)) ?_
      with_reducible refine (fluxionref03_Same.calls kj2 a0_0 _ _ l0_1 _ _ l0_2 a1_0 _ _ l1_1 _ _ l1_2 t106 _ ?side1 ?side2 ?side3 ?side4 ?side5 ?side6 ?side7 ?side8 A24.out).mono ?_
      (case side1 => repeat (first | exact (Kd.cB9 HR0_1.out HB.out) | (with_reducible refine Kd.cA9 ?_ _) | (with_reducible refine Kd.cN9 ?_ _) | (with_reducible refine Kd.cD9 ?_)))
      (case side2 => exact HC0_1.out)
      (case side3 => repeat (first | exact (Kd.cB9 HR0_2.out HB.out) | (with_reducible refine Kd.cA9 ?_ _) | (with_reducible refine Kd.cN9 ?_ _) | (with_reducible refine Kd.cD9 ?_)))
      (case side4 => exact HC0_2.out)
      (case side5 => repeat (first | exact (Kd.cB9 HR1_1.out HB.out) | (with_reducible refine Kd.cA9 ?_ _) | (with_reducible refine Kd.cN9 ?_ _) | (with_reducible refine Kd.cD9 ?_)))
      (case side6 => exact HC1_1.out)
      (case side7 => repeat (first | exact (Kd.cB9 HR1_2.out HB.out) | (with_reducible refine Kd.cA9 ?_ _) | (with_reducible refine Kd.cN9 ?_ _) | (with_reducible refine Kd.cD9 ?_)))
      (case side8 => exact HC1_2.out)
      rintro e w36 ⟨rfl, hb⟩
      refine ⟨_, rfl, ?_⟩
      have n0_ := Aside0.mk (kB9 (g := gb101) (o := .cells #[.bool a0_0, .slice A0_1 l0_1.length c0_1, .slice A0_2 l0_2.length c0_2] 35 (0, 0)) (by (with_reducible repeat (first | refine kN9 ?_ _ | refine kD9 ?_ | refine kA9 ?_ _)); exact BK101.out) hb)
      have n1_ := Aside0.mk (kB9 (g := gb102) (o := .cells #[.bool a1_0, .slice A1_1 l1_1.length c1_1, .slice A1_2 l1_2.length c1_2] 35 (0, 0)) (by (with_reducible repeat (first | refine kN9 ?_ _ | refine kD9 ?_ | refine kA9 ?_ _)); exact BK102.out) hb)
      have n2_ := Aside0.mk (bT9 (by repeat (first | (with_reducible first | exact HB.out | apply bA9 | apply bN9 | apply bD9 | refine bS9 ?_ GE101.out | refine bS9 ?_ GE102.out) | exact HB.out)) hb)
      clear BK101
      clear BK102
      clear HB
      have BK101 := n0_
      have BK102 := n1_
      have HB := n2_
      clear n0_ n1_ n2_
      (try clear hb)
      (try clear hb2)
      (try clear hk)
      (try clear hi)
      refine hK.out _ _ ⟨(kC9 BK101.out 0).trans rfl, (kC9 BK101.out 1).trans rfl, (kC9 BK101.out 2).trans rfl, (kC9 BK102.out 0).trans rfl, (kC9 BK102.out 1).trans rfl, (kC9 BK102.out 2).trans rfl⟩ (fun hHeld => ?_)
      clear hK K
      refine norm_ (a' := ?_) ?_ ?_
      rotate_left
      ·show Act.put _ (some 35) _ = _
       simp only [Act.put, List.setIfInBounds_toArray, List.set_cons_zero, List.set_cons_succ, i64_w, i32_w]
       rfl
      refine pure_ (i := 8) (N := some 36) (v := ?_) (a' := ?_) #[true, true, true, true, true, true, true, true, true, false, false, false, false, false, false, false, false, false, false, false, false, false, false, false, false, false, false, false, false, false, false] rfl rfl (any_of HT_.out (by kernel_rfl)) (fun _ _ _ h => h) (Or.inl ⟨by rfl, ?_⟩) ?_ ?_
      rotate_left
      ·intro w'
       go_simp
       with_reducible rfl
      rotate_left
      ·simp only [Act.put, List.setIfInBounds_toArray, List.set_cons_zero, List.set_cons_succ, i64_w, i32_w]
       rfl
      refine pure_ (i := 9) (N := some 37) (v := ?_) (a' := ?_) #[true, true, true, true, true, true, true, true, true, true, false, false, false, false, false, false, false, false, false, false, false, false, false, false, false, false, false, false, false, false, false] rfl rfl (any_of HT_.out (by kernel_rfl)) (fun _ _ _ h => h) (Or.inl ⟨by rfl, ?_⟩) ?_ ?_
      rotate_left
      ·intro w'
       go_simp
       with_reducible rfl
      rotate_left
      ·simp only [Act.put, List.setIfInBounds_toArray, List.set_cons_zero, List.set_cons_succ, i64_w, i32_w]
       rfl
      refine pure_ (i := 10) (N := some 38) (v := ?_) (a' := ?_) #[true, true, true, true, true, true, true, true, true, true, true, false, false, false, false, false, false, false, false, false, false, false, false, false, false, false, false, false, false, false, false] rfl rfl (any_of HT_.out (by kernel_rfl)) (fun _ _ _ h => h) (Or.inl ⟨by rfl, ?_⟩) ?_ ?_
      rotate_left
      ·intro w'
       go_simp
       with_reducible rfl
      rotate_left
      ·simp only [Act.put, List.setIfInBounds_toArray, List.set_cons_zero, List.set_cons_succ, i64_w, i32_w]
       rfl
      refine pure_ (i := 13) (N := some 41) (v := ?_) (a' := ?_) #[true, true, true, true, true, true, true, true, true, true, true, false, false, true, false, false, false, false, false, false, false, false, false, false, false, false, false, false, false, false, false] rfl rfl (any_of HT_.out (by kernel_rfl)) (fun _ _ _ h => h) (Or.inl ⟨by rfl, ?_⟩) ?_ ?_
      rotate_left
      ·intro w'
       go_simp
       with_reducible rfl
      rotate_left
      ·simp only [Act.put, List.setIfInBounds_toArray, List.set_cons_zero, List.set_cons_succ, i64_w, i32_w]
       rfl
      refine pure_ (i := 17) (N := some 45) (v := ?_) (a' := ?_) #[true, true, true, true, true, true, true, true, true, true, true, false, false, true, false, false, false, true, false, false, false, false, false, false, false, false, false, false, false, false, false] rfl rfl (any_of HT_.out (by kernel_rfl)) (fun _ _ _ h => h) (Or.inl ⟨by rfl, ?_⟩) ?_ ?_
      rotate_left
      ·intro w'
       go_simp
       with_reducible rfl
      rotate_left
      ·simp only [Act.put, List.setIfInBounds_toArray, List.set_cons_zero, List.set_cons_succ, i64_w, i32_w]
       rfl
      refine pure_ (i := 20) (N := some 48) (v := ?_) (a' := ?_) #[true, true, true, true, true, true, true, true, true, true, true, false, false, true, false, false, false, true, false, false, true, false, false, false, false, false, false, false, false, false, false] rfl rfl (any_of HT_.out (by kernel_rfl)) (fun _ _ _ h => h) (Or.inl ⟨by rfl, ?_⟩) ?_ ?_
      rotate_left
      ·intro w'
       go_simp
       with_reducible rfl
      rotate_left
      ·simp only [Act.put, List.setIfInBounds_toArray, List.set_cons_zero, List.set_cons_succ, i64_w, i32_w]
       rfl
      refine take_ (i := 11) (N := some 39) (v := ?_) (a' := ?_) #[true, true, true, true, true, true, true, true, true, true, true, true, false, true, false, false, false, true, false, false, true, false, false, false, false, false, false, false, false, false, false] rfl rfl (take_ofW HT_.out HW_.out (by kernel_rfl)) (fun _ _ _ h => h) (Or.inl ⟨by rfl, ?_⟩) hHeld ?_ ?_
      rotate_left
      ·rintro w' ⟨s0, s1, s2, s3, s4, s5⟩
       go_simp
       with_reducible rfl
      rotate_left
      ·simp only [Act.put, List.setIfInBounds_toArray, List.set_cons_zero, List.set_cons_succ, i64_w, i32_w]
       rfl
      refine take_ (i := 14) (N := some 42) (v := ?_) (a' := ?_) #[true, true, true, true, true, true, true, true, true, true, true, true, false, true, true, false, false, true, false, false, true, false, false, false, false, false, false, false, false, false, false] rfl rfl (take_ofW HT_.out HW_.out (by kernel_rfl)) (fun _ _ _ h => h) (Or.inl ⟨by rfl, ?_⟩) hHeld ?_ ?_
      rotate_left
      ·rintro w' ⟨s0, s1, s2, s3, s4, s5⟩
       go_simp
       with_reducible rfl
      rotate_left
      ·simp only [Act.put, List.setIfInBounds_toArray, List.set_cons_zero, List.set_cons_succ, i64_w, i32_w]
       rfl
      refine take_ (i := 18) (N := some 46) (v := ?_) (a' := ?_) #[true, true, true, true, true, true, true, true, true, true, true, true, false, true, true, false, false, true, true, false, true, false, false, false, false, false, false, false, false, false, false] rfl rfl (take_ofW HT_.out HW_.out (by kernel_rfl)) (fun _ _ _ h => h) (Or.inl ⟨by rfl, ?_⟩) hHeld ?_ ?_
      rotate_left
      ·rintro w' ⟨s0, s1, s2, s3, s4, s5⟩
       go_simp
       with_reducible rfl
      rotate_left
      ·simp only [Act.put, List.setIfInBounds_toArray, List.set_cons_zero, List.set_cons_succ, i64_w, i32_w]
       rfl
      refine take_ (i := 21) (N := some 49) (v := ?_) (a' := ?_) #[true, true, true, true, true, true, true, true, true, true, true, true, false, true, true, false, false, true, true, false, true, true, false, false, false, false, false, false, false, false, false] rfl rfl (take_ofW HT_.out HW_.out (by kernel_rfl)) (fun _ _ _ h => h) (Or.inl ⟨by rfl, ?_⟩) hHeld ?_ ?_
      rotate_left
      ·rintro w' ⟨s0, s1, s2, s3, s4, s5⟩
       go_simp
       with_reducible rfl
      rotate_left
      ·simp only [Act.put, List.setIfInBounds_toArray, List.set_cons_zero, List.set_cons_succ, i64_w, i32_w]
       rfl
      refine one_ (i := 12) (N := some 40) #[true, true, true, true, true, true, true, true, true, true, true, true, true, true, true, false, false, true, true, false, true, true, false, false, false, false, false, false, false, false, false] rfl rfl (one_of HT_.out (by kernel_rfl)) (by decide) (fun K hK => ?_)
      refine goes_ Tryz.func23 (by kernel_rfl) rfl #[.slice A0_1 l0_1.length c0_1] (by rfl) rfl rfl (by (try simp only [List.map_toArray, List.map_cons, List.map_nil]); first | done | rfl | (simp only [List.length_drop, List.length_take]; rfl)) ?_
      with_reducible refine (digits_Nat.calls _ _ l0_1 t107 _ (PowTab.below HT.out (by repeat (first | (with_reducible first | exact HB.out | apply bA9 | apply bN9 | apply bD9 | refine bS9 ?_ GE101.out | refine bS9 ?_ GE102.out) | exact HB.out))) ?side1 ?side2 A26.out).mono ?_
      (case side1 => repeat (first | exact (Kd.cB9 HR0_1.out HB.out) | (with_reducible refine Kd.cA9 ?_ _) | (with_reducible refine Kd.cN9 ?_ _) | (with_reducible refine Kd.cD9 ?_)))
      (case side2 => exact HC0_1.out)
      rintro e w37 ⟨rfl, hb⟩
      refine ⟨_, rfl, ?_⟩
      have n0_ := Aside0.mk (kB9 (g := gb101) (o := .cells #[.bool a0_0, .slice A0_1 l0_1.length c0_1, .slice A0_2 l0_2.length c0_2] 35 (0, 0)) (by (with_reducible repeat (first | refine kN9 ?_ _ | refine kD9 ?_ | refine kA9 ?_ _)); exact BK101.out) hb)
      have n1_ := Aside0.mk (kB9 (g := gb102) (o := .cells #[.bool a1_0, .slice A1_1 l1_1.length c1_1, .slice A1_2 l1_2.length c1_2] 35 (0, 0)) (by (with_reducible repeat (first | refine kN9 ?_ _ | refine kD9 ?_ | refine kA9 ?_ _)); exact BK102.out) hb)
      have n2_ := Aside0.mk (bT9 (by repeat (first | (with_reducible first | exact HB.out | apply bA9 | apply bN9 | apply bD9 | refine bS9 ?_ GE101.out | refine bS9 ?_ GE102.out) | exact HB.out)) hb)
      clear BK101
      clear BK102
      clear HB
      have BK101 := n0_
      have BK102 := n1_
      have HB := n2_
      clear n0_ n1_ n2_
      (try clear hb)
      (try clear hb2)
      (try clear hk)
      (try clear hi)
      refine hK.out _ _ ⟨(kC9 BK101.out 0).trans rfl, (kC9 BK101.out 1).trans rfl, (kC9 BK101.out 2).trans rfl, (kC9 BK102.out 0).trans rfl, (kC9 BK102.out 1).trans rfl, (kC9 BK102.out 2).trans rfl⟩ (fun hHeld => ?_)
      clear hK K
      refine norm_ (a' := ?_) ?_ ?_
      rotate_left
      ·show Act.put _ (some 40) _ = _
       simp only [Act.put, List.setIfInBounds_toArray, List.set_cons_zero, List.set_cons_succ, i64_w, i32_w]
       rfl
      refine one_ (i := 15) (N := some 43) #[true, true, true, true, true, true, true, true, true, true, true, true, true, true, true, true, false, true, true, false, true, true, false, false, false, false, false, false, false, false, false] rfl rfl (one_of HT_.out (by kernel_rfl)) (by decide) (fun K hK => ?_)
      refine goes_ Tryz.func23 (by kernel_rfl) rfl #[.slice A1_1 l1_1.length c1_1] (by rfl) rfl rfl (by (try simp only [List.map_toArray, List.map_cons, List.map_nil]); first | done | rfl | (simp only [List.length_drop, List.length_take]; rfl)) ?_
      with_reducible refine (digits_Nat.calls _ _ l1_1 t108 _ (PowTab.below HT.out (by repeat (first | (with_reducible first | exact HB.out | apply bA9 | apply bN9 | apply bD9 | refine bS9 ?_ GE101.out | refine bS9 ?_ GE102.out) | exact HB.out))) ?side1 ?side2 A27.out).mono ?_
      (case side1 => repeat (first | exact (Kd.cB9 HR1_1.out HB.out) | (with_reducible refine Kd.cA9 ?_ _) | (with_reducible refine Kd.cN9 ?_ _) | (with_reducible refine Kd.cD9 ?_)))
      (case side2 => exact HC1_1.out)
      rintro e w38 ⟨rfl, hb⟩
      refine ⟨_, rfl, ?_⟩
      have n0_ := Aside0.mk (kB9 (g := gb101) (o := .cells #[.bool a0_0, .slice A0_1 l0_1.length c0_1, .slice A0_2 l0_2.length c0_2] 35 (0, 0)) (by (with_reducible repeat (first | refine kN9 ?_ _ | refine kD9 ?_ | refine kA9 ?_ _)); exact BK101.out) hb)
      have n1_ := Aside0.mk (kB9 (g := gb102) (o := .cells #[.bool a1_0, .slice A1_1 l1_1.length c1_1, .slice A1_2 l1_2.length c1_2] 35 (0, 0)) (by (with_reducible repeat (first | refine kN9 ?_ _ | refine kD9 ?_ | refine kA9 ?_ _)); exact BK102.out) hb)
      have n2_ := Aside0.mk (bT9 (by repeat (first | (with_reducible first | exact HB.out | apply bA9 | apply bN9 | apply bD9 | refine bS9 ?_ GE101.out | refine bS9 ?_ GE102.out) | exact HB.out)) hb)
      clear BK101
      clear BK102
      clear HB
      have BK101 := n0_
      have BK102 := n1_
      have HB := n2_
      clear n0_ n1_ n2_
      (try clear hb)
      (try clear hb2)
      (try clear hk)
      (try clear hi)
      refine hK.out _ _ ⟨(kC9 BK101.out 0).trans rfl, (kC9 BK101.out 1).trans rfl, (kC9 BK101.out 2).trans rfl, (kC9 BK102.out 0).trans rfl, (kC9 BK102.out 1).trans rfl, (kC9 BK102.out 2).trans rfl⟩ (fun hHeld => ?_)
      clear hK K
      refine norm_ (a' := ?_) ?_ ?_
      rotate_left
      ·show Act.put _ (some 43) _ = _
       simp only [Act.put, List.setIfInBounds_toArray, List.set_cons_zero, List.set_cons_succ, i64_w, i32_w]
       rfl
      refine pure_ (i := 16) (N := some 44) (v := ?_) (a' := ?_) #[true, true, true, true, true, true, true, true, true, true, true, true, true, true, true, true, true, true, true, false, true, true, false, false, false, false, false, false, false, false, false] rfl rfl (any_of HT_.out (by kernel_rfl)) (fun _ _ _ h => h) (Or.inl ⟨by rfl, ?_⟩) ?_ ?_
      rotate_left
      ·intro w'
       go_simp
       with_reducible rfl
      rotate_left
      ·simp only [Act.put, List.setIfInBounds_toArray, List.set_cons_zero, List.set_cons_succ, i64_w, i32_w]
       rfl
      refine one_ (i := 19) (N := some 47) #[true, true, true, true, true, true, true, true, true, true, true, true, true, true, true, true, true, true, true, true, true, true, false, false, false, false, false, false, false, false, false] rfl rfl (one_of HT_.out (by kernel_rfl)) (by decide) (fun K hK => ?_)
      refine goes_ Tryz.func25 (by kernel_rfl) rfl #[.slice A0_1 l0_1.length c0_1] (by rfl) rfl rfl (by (try simp only [List.map_toArray, List.map_cons, List.map_nil]); first | done | rfl | (simp only [List.length_drop, List.length_take]; rfl)) ?_
      with_reducible refine (r1Of.calls kj2 _ _ l0_1 t109 _ ?side1 ?side2 A28.out).mono ?_
      (case side1 => repeat (first | exact (Kd.cB9 HR0_1.out HB.out) | (with_reducible refine Kd.cA9 ?_ _) | (with_reducible refine Kd.cN9 ?_ _) | (with_reducible refine Kd.cD9 ?_)))
      (case side2 => exact HC0_1.out)
      rintro e w39 ⟨v110, rfl, ho0, hb⟩
      refine ⟨_, rfl, ?_⟩
      have n0_ := Aside0.mk (Kd.rL9 ho0 (bZ9 (by repeat (first | (with_reducible first | exact HB.out | apply bA9 | apply bN9 | apply bD9 | refine bS9 ?_ GE101.out | refine bS9 ?_ GE102.out) | exact HB.out))))
      have n1_ := Aside0.mk (kB9 (g := gb101) (o := .cells #[.bool a0_0, .slice A0_1 l0_1.length c0_1, .slice A0_2 l0_2.length c0_2] 35 (0, 0)) (by (with_reducible repeat (first | refine kN9 ?_ _ | refine kD9 ?_ | refine kA9 ?_ _)); exact BK101.out) hb)
      have n2_ := Aside0.mk (kB9 (g := gb102) (o := .cells #[.bool a1_0, .slice A1_1 l1_1.length c1_1, .slice A1_2 l1_2.length c1_2] 35 (0, 0)) (by (with_reducible repeat (first | refine kN9 ?_ _ | refine kD9 ?_ | refine kA9 ?_ _)); exact BK102.out) hb)
      have n3_ := Aside0.mk (bT9 (by repeat (first | (with_reducible first | exact HB.out | apply bA9 | apply bN9 | apply bD9 | refine bS9 ?_ GE101.out | refine bS9 ?_ GE102.out) | exact HB.out)) hb)
      clear BK101
      clear BK102
      clear HB
      have HO111 := n0_
      have BK101 := n1_
      have BK102 := n2_
      have HB := n3_
      clear n0_ n1_ n2_ n3_
      (try clear hb)
      (try clear hb2)
      (try clear hk)
      (try clear hi)
      (try clear ho0)
      refine hK.out _ _ ⟨(kC9 BK101.out 0).trans rfl, (kC9 BK101.out 1).trans rfl, (kC9 BK101.out 2).trans rfl, (kC9 BK102.out 0).trans rfl, (kC9 BK102.out 1).trans rfl, (kC9 BK102.out 2).trans rfl⟩ (fun hHeld => ?_)
      clear hK K
      refine norm_ (a' := ?_) ?_ ?_
      rotate_left
      ·show Act.put _ (some 47) _ = _
       simp only [Act.put, List.setIfInBounds_toArray, List.set_cons_zero, List.set_cons_succ, i64_w, i32_w]
       rfl
      refine one_ (i := 22) (N := some 50) #[true, true, true, true, true, true, true, true, true, true, true, true, true, true, true, true, true, true, true, true, true, true, true, false, false, false, false, false, false, false, false] rfl rfl (one_of HT_.out (by kernel_rfl)) (by decide) (fun K hK => ?_)
      refine goes_ Tryz.func25 (by kernel_rfl) rfl #[.slice A1_1 l1_1.length c1_1] (by rfl) rfl rfl (by (try simp only [List.map_toArray, List.map_cons, List.map_nil]); first | done | rfl | (simp only [List.length_drop, List.length_take]; rfl)) ?_
      with_reducible refine (r1Of.calls kj2 _ _ l1_1 t112 _ ?side1 ?side2 A29.out).mono ?_
      (case side1 => repeat (first | exact (Kd.cB9 HR1_1.out HB.out) | (with_reducible refine Kd.cA9 ?_ _) | (with_reducible refine Kd.cN9 ?_ _) | (with_reducible refine Kd.cD9 ?_)))
      (case side2 => exact HC1_1.out)
      rintro e w40 ⟨v113, rfl, ho0, hb⟩
      refine ⟨_, rfl, ?_⟩
      have n0_ := Aside0.mk (Kd.R_elder' (by (with_reducible repeat (first | apply Kd.rA9 | apply Kd.rN9 | apply Kd.rD9)); exact HO111.out) (Kd.R_base ho0) hb)
      have n1_ := Aside0.mk (Kd.rL9 (Kd.R_new' ho0 (Kd.R_lt (by (with_reducible repeat (first | apply Kd.rA9 | apply Kd.rN9 | apply Kd.rD9)); exact HO111.out))) (bZ9 (by repeat (first | (with_reducible first | exact HB.out | apply bA9 | apply bN9 | apply bD9 | refine bS9 ?_ GE101.out | refine bS9 ?_ GE102.out) | exact HB.out))))
      have n2_ := Aside0.mk (kB9 (g := gb101) (o := .cells #[.bool a0_0, .slice A0_1 l0_1.length c0_1, .slice A0_2 l0_2.length c0_2] 35 (0, 0)) (by (with_reducible repeat (first | refine kN9 ?_ _ | refine kD9 ?_ | refine kA9 ?_ _)); exact BK101.out) hb)
      have n3_ := Aside0.mk (kB9 (g := gb102) (o := .cells #[.bool a1_0, .slice A1_1 l1_1.length c1_1, .slice A1_2 l1_2.length c1_2] 35 (0, 0)) (by (with_reducible repeat (first | refine kN9 ?_ _ | refine kD9 ?_ | refine kA9 ?_ _)); exact BK102.out) hb)
      have n4_ := Aside0.mk (bT9 (by repeat (first | (with_reducible first | exact HB.out | apply bA9 | apply bN9 | apply bD9 | refine bS9 ?_ GE101.out | refine bS9 ?_ GE102.out) | exact HB.out)) hb)
      clear HO111
      clear BK101
      clear BK102
      clear HB
      have HO111 := n0_
      have HO114 := n1_
      have BK101 := n2_
      have BK102 := n3_
      have HB := n4_
      clear n0_ n1_ n2_ n3_ n4_
      (try clear hb)
      (try clear hb2)
      (try clear hk)
      (try clear hi)
      (try clear ho0)
      obtain ⟨Ao41, co41, eo41⟩ := Kd.rS9 HO111.out
      (first | subst eo41 | (injection eo41 with f1_ f2_ f3_; have f4_ := f1_.symm; have f5_ := f3_.symm; clear f1_ f2_ f3_; subst f4_; subst f5_))
      obtain ⟨Ao42, co42, eo42⟩ := Kd.rS9 HO114.out
      (first | subst eo42 | (injection eo42 with f1_ f2_ f3_; have f4_ := f1_.symm; have f5_ := f3_.symm; clear f1_ f2_ f3_; subst f4_; subst f5_))
      refine hK.out _ _ ⟨(kC9 BK101.out 0).trans rfl, (kC9 BK101.out 1).trans rfl, (kC9 BK101.out 2).trans rfl, (kC9 BK102.out 0).trans rfl, (kC9 BK102.out 1).trans rfl, (kC9 BK102.out 2).trans rfl⟩ (fun hHeld => ?_)
      clear hK K
      refine norm_ (a' := ?_) ?_ ?_
      rotate_left
      ·show Act.put _ (some 50) _ = _
       simp only [Act.put, List.setIfInBounds_toArray, List.set_cons_zero, List.set_cons_succ, i64_w, i32_w]
       rfl
      refine one_ (i := 23) (N := some 51) #[true, true, true, true, true, true, true, true, true, true, true, true, true, true, true, true, true, true, true, true, true, true, true, true, false, false, false, false, false, false, false] rfl rfl (one_of HT_.out (by kernel_rfl)) (by decide) (fun K hK => ?_)
      refine goes_ Tryz.func27 (by kernel_rfl) rfl #[.slice Ao41 t109.length co41, .slice Ao42 t112.length co42] (by rfl) rfl rfl (by (try simp only [List.map_toArray, List.map_cons, List.map_nil]); first | done | rfl | (simp only [List.length_drop, List.length_take]; rfl)) ?_
      with_reducible refine (r1Cmp.calls kj2 _ _ t109 _ _ t112 t115 _ ?side1 ?side2 ?side3 ?side4 A30.out).mono ?_
      (case side1 => repeat (first | exact (Kd.rR9 HO111.out).2.2 | (with_reducible refine Kd.cA9 ?_ _) | (with_reducible refine Kd.cN9 ?_ _) | (with_reducible refine Kd.cD9 ?_)))
      (case side2 => exact (Kd.rR9 HO111.out).2.1)
      (case side3 => repeat (first | exact (Kd.rR9 HO114.out).2.2 | (with_reducible refine Kd.cA9 ?_ _) | (with_reducible refine Kd.cN9 ?_ _) | (with_reducible refine Kd.cD9 ?_)))
      (case side4 => exact (Kd.rR9 HO114.out).2.1)
      rintro e w' ⟨rfl, ⟨nd, rfl⟩⟩
      refine ⟨_, rfl, ?_⟩
      refine hK.out _ _ ⟨(kC9 BK101.out 0).trans rfl, (kC9 BK101.out 1).trans rfl, (kC9 BK101.out 2).trans rfl, (kC9 BK102.out 0).trans rfl, (kC9 BK102.out 1).trans rfl, (kC9 BK102.out 2).trans rfl⟩ (fun hHeld => ?_)
      clear hK K
      refine norm_ (a' := ?_) ?_ ?_
      rotate_left
      ·show Act.put _ (some 51) _ = _
       simp only [Act.put, List.setIfInBounds_toArray, List.set_cons_zero, List.set_cons_succ, i64_w, i32_w]
       rfl
      refine pure_ (i := 24) (N := some 52) (v := ?_) (a' := ?_) #[true, true, true, true, true, true, true, true, true, true, true, true, true, true, true, true, true, true, true, true, true, true, true, true, true, false, false, false, false, false, false] rfl rfl (any_of HT_.out (by kernel_rfl)) (fun _ _ _ h => h) (Or.inl ⟨by rfl, ?_⟩) ?_ ?_
      rotate_left
      ·intro w'
       go_simp
       with_reducible rfl
      rotate_left
      ·simp only [Act.put, List.setIfInBounds_toArray, List.set_cons_zero, List.set_cons_succ, i64_w, i32_w]
       rfl
      refine pure_ (i := 25) (N := some 53) (v := ?_) (a' := ?_) #[true, true, true, true, true, true, true, true, true, true, true, true, true, true, true, true, true, true, true, true, true, true, true, true, true, true, false, false, false, false, false] rfl rfl (any_of HT_.out (by kernel_rfl)) (fun _ _ _ h => h) (Or.inl ⟨by rfl, ?_⟩) ?_ ?_
      rotate_left
      ·intro w'
       go_simp
       with_reducible rfl
      rotate_left
      ·simp only [Act.put, List.setIfInBounds_toArray, List.set_cons_zero, List.set_cons_succ, i64_w, i32_w]
       rfl
      refine pure_ (i := 26) (N := some 54) (v := ?_) (a' := ?_) #[true, true, true, true, true, true, true, true, true, true, true, true, true, true, true, true, true, true, true, true, true, true, true, true, true, true, true, false, false, false, false] rfl rfl (any_of HT_.out (by kernel_rfl)) (fun _ _ _ h => h) (Or.inl ⟨by rfl, ?_⟩) ?_ ?_
      rotate_left
      ·intro w'
       go_simp
       with_reducible rfl
      rotate_left
      ·simp only [Act.put, List.setIfInBounds_toArray, List.set_cons_zero, List.set_cons_succ, i64_w, i32_w]
       rfl
      refine pure_ (i := 27) (N := some 55) (v := ?_) (a' := ?_) #[true, true, true, true, true, true, true, true, true, true, true, true, true, true, true, true, true, true, true, true, true, true, true, true, true, true, true, true, false, false, false] rfl rfl (any_of HT_.out (by kernel_rfl)) (fun _ _ _ h => h) (Or.inl ⟨by rfl, ?_⟩) ?_ ?_
      rotate_left
      ·intro w'
       go_simp
       with_reducible rfl
      rotate_left
      ·simp only [Act.put, List.setIfInBounds_toArray, List.set_cons_zero, List.set_cons_succ, i64_w, i32_w]
       rfl
      refine one_ (i := 28) (N := some 56) #[true, true, true, true, true, true, true, true, true, true, true, true, true, true, true, true, true, true, true, true, true, true, true, true, true, true, true, true, true, false, false] rfl rfl (one_of HT_.out (by kernel_rfl)) (by decide) (fun K hK => ?_)
      refine goes_ Tryz.func15 (by kernel_rfl) rfl #[] (by rfl) rfl rfl (by (try simp only [List.map_toArray, List.map_cons, List.map_nil]); first | done | rfl | (simp only [List.length_drop, List.length_take]; rfl)) ?_
      with_reducible refine (kn9.calls kj2  t116 _ (PowTab.below HT.out (by repeat (first | (with_reducible first | exact HB.out | apply bA9 | apply bN9 | apply bD9 | refine bS9 ?_ GE101.out | refine bS9 ?_ GE102.out) | exact HB.out))) A32.out).mono ?_
      rintro e w43 ⟨rfl, hb⟩
      refine ⟨_, rfl, ?_⟩
      have n0_ := Aside0.mk (Kd.rB9 (by (with_reducible repeat (first | apply Kd.rA9 | apply Kd.rN9 | apply Kd.rD9)); exact HO111.out) hb)
      have n1_ := Aside0.mk (Kd.rB9 (by (with_reducible repeat (first | apply Kd.rA9 | apply Kd.rN9 | apply Kd.rD9)); exact HO114.out) hb)
      have n2_ := Aside0.mk (kB9 (g := gb101) (o := .cells #[.bool a0_0, .slice A0_1 l0_1.length c0_1, .slice A0_2 l0_2.length c0_2] 35 (0, 0)) (by (with_reducible repeat (first | refine kN9 ?_ _ | refine kD9 ?_ | refine kA9 ?_ _)); exact BK101.out) hb)
      have n3_ := Aside0.mk (kB9 (g := gb102) (o := .cells #[.bool a1_0, .slice A1_1 l1_1.length c1_1, .slice A1_2 l1_2.length c1_2] 35 (0, 0)) (by (with_reducible repeat (first | refine kN9 ?_ _ | refine kD9 ?_ | refine kA9 ?_ _)); exact BK102.out) hb)
      have n4_ := Aside0.mk (bT9 (by repeat (first | (with_reducible first | exact HB.out | apply bA9 | apply bN9 | apply bD9 | refine bS9 ?_ GE101.out | refine bS9 ?_ GE102.out) | exact HB.out)) hb)
      clear HO111
      clear HO114
      clear BK101
      clear BK102
      clear HB
      have HO111 := n0_
      have HO114 := n1_
      have BK101 := n2_
      have BK102 := n3_
      have HB := n4_
      clear n0_ n1_ n2_ n3_ n4_
      (try clear hb)
      (try clear hb2)
      (try clear hk)
      (try clear hi)
      refine hK.out _ _ ⟨(kC9 BK101.out 0).trans rfl, (kC9 BK101.out 1).trans rfl, (kC9 BK101.out 2).trans rfl, (kC9 BK102.out 0).trans rfl, (kC9 BK102.out 1).trans rfl, (kC9 BK102.out 2).trans rfl⟩ (fun hHeld => ?_)
      clear hK K
      refine norm_ (a' := ?_) ?_ ?_
      rotate_left
      ·show Act.put _ (some 56) _ = _
       simp only [Act.put, List.setIfInBounds_toArray, List.set_cons_zero, List.set_cons_succ, i64_w, i32_w]
       rfl
      refine pure_ (i := 29) (N := some 57) (v := ?_) (a' := ?_) #[true, true, true, true, true, true, true, true, true, true, true, true, true, true, true, true, true, true, true, true, true, true, true, true, true, true, true, true, true, true, false] rfl rfl (any_of HT_.out (by kernel_rfl)) (fun _ _ _ h => h) (Or.inl ⟨by rfl, ?_⟩) ?_ ?_
      rotate_left
      ·intro w'
       go_simp
       with_reducible rfl
      rotate_left
      ·simp only [Act.put, List.setIfInBounds_toArray, List.set_cons_zero, List.set_cons_succ, i64_w, i32_w]
       rfl
      refine pure_ (i := 30) (N := some 4) (v := ?_) (a' := ?_) #[true, true, true, true, true, true, true, true, true, true, true, true, true, true, true, true, true, true, true, true, true, true, true, true, true, true, true, true, true, true, true] rfl rfl (any_of HT_.out (by kernel_rfl)) (fun _ _ _ h => h) (Or.inl ⟨by rfl, ?_⟩) ?_ ?_
      rotate_left
      ·intro w'
       go_simp
       with_reducible rfl
      rotate_left
      ·simp only [Act.put, List.setIfInBounds_toArray, List.set_cons_zero, List.set_cons_succ, i64_w, i32_w]
       rfl
      refine done_ (done_of HT_.out (by kernel_rfl)) ?_
      try go_wp2
      go_ret
      exact ⟨by first | rfl | (simp [eN9, eS9] <;> rfl) | (simp [*, eN9, eS9] <;> rfl), by repeat (first | (with_reducible first | exact HB.out | apply bA9 | apply bN9 | apply bD9 | refine bS9 ?_ GE101.out | refine bS9 ?_ GE102.out) | exact HB.out)⟩
     ·rw [if_neg c31] at H
      exact absurd H (by simp)
    ·rw [if_neg c25] at H
     exact absurd H (by simp)
end Go.Proofs.YthppjdmkinbccaaGreatDoor.Print

namespace Go.Proofs.YthppjdmkinbccaaGreatDoor.Ref
open Go.RowKit Go.Proofs.YthppjdmkinbccaaGreatDoorW.PrintWords Go.Proofs.YthppjdmkinbccaaGreatDoorW.PrintLast Go.Proofs.YthppjdmkinbccaaGreatDoor.Print Go.Proofs.YthppjdmkinbccaaGreatDoor.Base
set_option linter.unusedVariables false
set_option linter.unusedSimpArgs false
theorem w64 {x : Int} (h0 : -9223372036854775808 ≤ x) (h1 : x ≤ 9223372036854775807) : wrap64 x = x := by
  unfold wrap64; omega
theorem w64n {n : Nat} (h : n ≤ 9223372036854775807) : wrap64 (n : Int) = (n : Int) := w64 (by omega) (by omega)
theorem tdiv_nat (a b : Nat) : Int.tdiv (a : Int) (b : Int) = ((a / b : Nat) : Int) := rfl
theorem tmod_nat (a b : Nat) : Int.tmod (a : Int) (b : Int) = ((a % b : Nat) : Int) := rfl
theorem rd_limb {B : Nat} {l : List Int} (h : DigB B l) (i : Nat) : rd l (i : Int) = ((limbN l i : Nat) : Int) := by
  unfold rd limbN
  rw [Int.toNat_natCast, Int.toNat_of_nonneg]
  rcases Nat.lt_or_ge i l.length with c | c
  · have := h l[i] (List.getElem_mem c)
    simp [c]; omega
  · simp [List.getElem?_eq_none c]
theorem digit_f {B : Nat} {l : List Int} (h : DigB B l) (i : Nat) : r1d.f l (i : Int) = some ((limbN l i : Nat) : Int) := by
  unfold r1d.f
  by_cases c : i < l.length
  · rw [if_pos (by omega), if_pos (by omega), rd_limb h]
  · rw [if_neg (by omega), limbN_out (by omega)]; rfl
theorem top_pos {B : Nat} {l : List Int} (g : GoodB B l) {m : Nat} (h : m + 1 = l.length) : 0 < limbN l m := by
  have hl : l ≠ [] := fun e => by rw [e] at h; simp at h
  have hg : l.getLast hl ≠ 0 := fun c => g.can (by rw [List.getLast?_eq_some_getLast hl, c])
  have hd := g.dig _ (List.getLast_mem hl)
  have e : l.getD m 0 = l.getLast hl := by
    rw [List.getLast_eq_getElem]
    simp [show m = l.length - 1 by omega, show l.length - 1 < l.length by omega]
  unfold limbN; rw [e]; omega
theorem sumB_mul {B d : Nat} {g : Nat → Nat} : ∀ n, sumB B (fun i => g i * d) n = sumB B g n * d
  | 0 => by simp [sumB]
  | n + 1 => by rw [sumB, sumB, sumB_mul n, Nat.add_mul, Nat.mul_assoc]
theorem digB_step {B v : Nat} (hB : 2 ≤ B) (hv : 0 < v) : digB B v = ((v % B : Nat) : Int) :: digB B (v / B) := by
  have hm := Nat.mod_lt v (show 0 < B by omega)
  refine GoodB.inj (digB_good B hB v) ⟨DigB.cons (by omega) (by omega) (digB_good B hB _).dig, fun c => ?_⟩ ?_
  · cases hr : digB B (v / B) with
    | nil =>
      rw [hr] at c
      have h1 : ((v % B : Nat) : Int) = 0 := by simpa using c
      have h2 : v / B = 0 := by have := digB_val B hB (v / B); rw [hr] at this; exact this.symm
      have := Nat.mod_add_div v B
      rw [h2] at this; omega
    | cons e s =>
      rw [hr, List.getLast?_cons_cons, ← hr] at c
      exact (digB_good B hB _).can c
  · rw [digB_val B hB, valB_cons, digB_val B hB, Int.toNat_natCast, Nat.mod_add_div]
theorem digB_nil (v : Nat) : digB 10000 v = [] ↔ v = 0 :=
  ⟨fun h => by have := digB_val 10000 (by decide) v; rw [h] at this; exact this.symm, fun h => by rw [h]; exact digB_zero _ (by decide)⟩
theorem T_good (v : Nat) : GoodB 10000 (digB 10000 v) := digB_good _ (by decide) v
theorem T_val (v : Nat) : valB 10000 (digB 10000 v) = v := digB_val _ (by decide) v
theorem limb_lt {l : List Int} (h : DigB 10000 l) (i : Nat) : limbN l i < 10000 := limbN_lt (by decide) h i
theorem T_len {x n : Nat} (h : x < 4294967296 ^ n) : (digB 10000 x).length ≤ 3 * n := by
  refine digB_len (by decide) (Nat.lt_of_lt_of_le h ?_)
  rw [Nat.pow_mul]
  exact Nat.pow_le_pow_left (by decide) n
theorem T_len_le {x y : Nat} (h : x ≤ y) : (digB 10000 x).length ≤ (digB 10000 y).length := by
  refine digB_len (by decide) (Nat.lt_of_le_of_lt h ?_)
  have := valB_lt 10000 _ (T_good y).dig
  rwa [T_val] at this
def addF (a b : List Int) (i : Nat) : Nat := limbN a i + limbN b i
theorem addF_small {a b : List Int} (da : DigB 10000 a) (db : DigB 10000 b) (i : Nat) : addF a b i ≤ 2 * (10000 - 1) := by
  have := limb_lt da i; have := limb_lt db i; unfold addF; omega
theorem add_stop {a b : List Int} (ga : GoodB 10000 a) (gb : GoodB 10000 b) (i : Nat) (h1 : a.length ≤ i) (h2 : b.length ≤ i) (h3 : (putB 10000 (addF a b) i).2 = 0)
    (inv : i = 0 ∨ i - 1 < a.length ∨ i - 1 < b.length ∨ 0 < (putB 10000 (addF a b) (i - 1)).2) : (putB 10000 (addF a b) i).1 = digB 10000 (valB 10000 a + valB 10000 b) := by
  obtain ⟨e, d⟩ := putB_spec (B := 10000) (by decide) (f := addF a b) i
  rw [h3, Nat.mul_zero, Nat.add_zero] at e
  have es : sumB 10000 (addF a b) i = valB 10000 a + valB 10000 b := by
    show sumB 10000 (fun j => limbN a j + limbN b j) i = _
    rw [sumB_add, sumB_limb a i h1, sumB_limb b i h2]
  rw [← es, ← e]
  refine GoodB.eq (by decide) ⟨d, ?_⟩
  cases i with
  | zero => simp [putB]
  | succ m =>
    rw [Nat.add_sub_cancel] at inv
    have c2 : (putB 10000 (addF a b) (m + 1)).2 = (addF a b m + (putB 10000 (addF a b) m).2) / 10000 := rfl
    have c1 : (putB 10000 (addF a b) (m + 1)).1 = (putB 10000 (addF a b) m).1 ++ [(((addF a b m + (putB 10000 (addF a b) m).2) % 10000 : Nat) : Int)] := rfl
    rw [c2] at h3
    have hp : 0 < addF a b m + (putB 10000 (addF a b) m).2 := by
      rcases inv with h | h | h | h
      · omega
      · have := top_pos ga (m := m) (by omega); unfold addF; omega
      · have := top_pos gb (m := m) (by omega); unfold addF; omega
      · omega
    rw [c1]
    intro c
    have : (((addF a b m + (putB 10000 (addF a b) m).2) % 10000 : Nat) : Int) = 0 := by simpa using c
    omega
theorem add_loop {a b : List Int} (ga : GoodB 10000 a) (gb : GoodB 10000 b) (la : a.length ≤ 1000000) (lb : b.length ≤ 1000000) : ∀ (m i : Nat), i + m = max a.length b.length + 1 →
    (i = 0 ∨ i - 1 < a.length ∨ i - 1 < b.length ∨ 0 < (putB 10000 (addF a b) (i - 1)).2) →
    Ev (fun k => r1Add.l0 k a b (putB 10000 (addF a b) i).1 (((putB 10000 (addF a b) i).2 : Nat) : Int) (i : Int)) (digB 10000 (valB 10000 a + valB 10000 b)) := by
  have stop : ∀ i : Nat, i ≤ 1000001 → ¬ (i < a.length ∨ i < b.length ∨ 0 < (putB 10000 (addF a b) i).2) → (i = 0 ∨ i - 1 < a.length ∨ i - 1 < b.length ∨ 0 < (putB 10000 (addF a b) (i - 1)).2) →
      Ev (fun k => r1Add.l0 k a b (putB 10000 (addF a b) i).1 (((putB 10000 (addF a b) i).2 : Nat) : Int) (i : Int)) (digB 10000 (valB 10000 a + valB 10000 b)) := by
    intro i hi hc inv
    have h3 : (putB 10000 (addF a b) i).2 = 0 := by omega
    have e := add_stop ga gb i (by omega) (by omega) h3 inv
    refine Ev.step (fun k => ?_) (Ev.step (g := fun k => r1Add.j1 k a b (putB 10000 (addF a b) i).1 (((putB 10000 (addF a b) i).2 : Nat) : Int) (i : Int) false) (f := fun _ => some (putB 10000 (addF a b) i).1) (fun k => ?_) (e ▸ Ev.now _))
    · simp only [r1Add.l0]
      rw [if_neg (by omega), if_neg (by omega), decide_eq_false (by omega)]
    · simp only [r1Add.j1]
      rw [if_neg (by decide)]
  intro m
  induction m with
  | zero =>
    intro i hi inv
    have hb := putB_carry (B := 10000) (by decide) (K := 2) (addF_small ga.dig gb.dig) (i - 1)
    have hi1 : i = (i - 1) + 1 := by omega
    have h0 : (putB 10000 (addF a b) i).2 = 0 := by
      rw [hi1]
      show (addF a b (i - 1) + (putB 10000 (addF a b) (i - 1)).2) / 10000 = 0
      have : addF a b (i - 1) = 0 := by unfold addF; rw [limbN_out (by omega), limbN_out (by omega)]
      omega
    exact stop i (by omega) (by omega) inv
  | succ m ih =>
    intro i hi inv
    by_cases hc : i < a.length ∨ i < b.length ∨ 0 < (putB 10000 (addF a b) i).2
    · have hn := ih (i + 1) (by omega) (by rw [Nat.add_sub_cancel]; omega)
      have hcar := putB_carry (B := 10000) (by decide) (K := 2) (addF_small ga.dig gb.dig) i
      have h1 := limb_lt ga.dig i
      have h2 := limb_lt gb.dig i
      refine Ev.step (fun k => ?_) (Ev.step (g := fun k => r1Add.j1 k a b (putB 10000 (addF a b) i).1 (((putB 10000 (addF a b) i).2 : Nat) : Int) (i : Int) true) (fun k => ?_) hn)
      · simp only [r1Add.l0]
        by_cases c1 : i < a.length
        · rw [if_pos (by omega)]
        · rw [if_neg (by omega)]
          by_cases c2 : i < b.length
          · rw [if_pos (by omega)]
          · rw [if_neg (by omega), decide_eq_true (by omega)]
      · simp only [r1Add.j1]
        rw [if_pos trivial, digit_f ga.dig, digit_f gb.dig, Option.bind_some, Option.bind_some, if_pos (by rw [putB_len]; omega)]
        have ea : addF a b i = limbN a i + limbN b i := rfl
        have e1 : wrap64 (wrap64 (((limbN a i : Nat) : Int) + ((limbN b i : Nat) : Int)) + (((putB 10000 (addF a b) i).2 : Nat) : Int)) = ((addF a b i + (putB 10000 (addF a b) i).2 : Nat) : Int) := by
          rw [← Int.natCast_add, w64n (by omega), ← Int.natCast_add, w64n (by omega)]; rfl
        rw [e1, show (10000 : Int) = ((10000 : Nat) : Int) from rfl, tdiv_nat, tmod_nat, w64n (by omega), w64 (by omega) (by omega)]
        rfl
    · exact stop i (by omega) hc inv
theorem add_ev {x y : Nat} (hx : (digB 10000 x).length ≤ 1000000) (hy : (digB 10000 y).length ≤ 1000000) : Ev (fun k => r1Add.f k (digB 10000 x) (digB 10000 y)) (digB 10000 (x + y)) := by
  have h := add_loop (T_good x) (T_good y) hx hy (max (digB 10000 x).length (digB 10000 y).length + 1) 0 (by omega) (Or.inl rfl)
  rw [T_val, T_val] at h
  exact h
theorem take_snoc {l : List Int} {i : Nat} (h : i < l.length) : l.take (i + 1) = l.take i ++ [rd l (i : Int)] := by
  rw [List.take_succ_eq_append_getElem h]; simp [rd, h]
theorem trim_loop (l : List Int) (hl : l.length ≤ 4611686018427387904) : ∀ i : Nat, i ≤ l.length → Ev (fun k => r1t.l0 k l (i : Int)) (trimL (l.take i))
  | 0, _ => by
    refine Ev.step (f := fun _ => some []) (fun k => ?_) (Ev.now _)
    simp only [r1t.l0]
    rw [if_neg (by omega), if_pos (by omega), if_pos (by omega)]; rfl
  | i + 1, hi => by
    have hw : wrap64 (((i + 1 : Nat) : Int) - 1) = (i : Int) := by rw [w64 (by omega) (by omega)]; omega
    rw [take_snoc (by omega)]
    by_cases h0 : rd l (i : Int) = 0
    · rw [h0, trimL_snoc_zero]
      refine Ev.step (fun k => ?_) (trim_loop l hl i (by omega))
      simp only [r1t.l0]
      rw [hw, if_pos (by omega), if_pos (by omega), if_pos (by omega), if_pos h0]
    · rw [trimL_snoc _ _ h0]
      refine Ev.step (f := fun _ => some (l.take (i + 1))) (fun k => ?_) (by rw [take_snoc (by omega)]; exact Ev.now _)
      simp only [r1t.l0]
      rw [hw, if_pos (by omega), if_pos (by omega), if_pos (by omega), if_neg h0, if_pos (by omega), if_pos (by omega)]; rfl
theorem trim_ev {l : List Int} (hd : DigB 10000 l) (hl : l.length ≤ 4611686018427387904) : Ev (fun k => r1t.f k l) (digB 10000 (valB 10000 l)) := by
  have h := trim_loop l hl l.length (by omega)
  rw [List.take_length, trimL_eq (by decide) hd] at h
  exact h
def timesF (a : List Int) (d : Nat) (i : Nat) : Nat := limbN a i * d
theorem times_carry {a : List Int} (da : DigB 10000 a) (d i : Nat) : (putB 10000 (timesF a d) i).2 ≤ d := by
  refine putB_carry (by decide) (fun j => ?_) i
  have := limb_lt da j
  unfold timesF
  rw [Nat.mul_comm]
  exact Nat.mul_le_mul_left _ (by omega)
theorem times_out {a : List Int} (da : DigB 10000 a) (d : Nat) : ∀ t, (putB 10000 (timesF a d) (a.length + t)).2 ≤ d / 10000 ^ t
  | 0 => by simpa using times_carry da d a.length
  | t + 1 => by
    have ih := times_out da d t
    show (timesF a d (a.length + t) + (putB 10000 (timesF a d) (a.length + t)).2) / 10000 ≤ _
    rw [show timesF a d (a.length + t) = 0 by unfold timesF; rw [limbN_out (by omega), Nat.zero_mul], Nat.zero_add, Nat.pow_succ, ← Nat.div_div_eq_div_mul]
    exact Nat.div_le_div_right ih
theorem times_loop {a : List Int} (da : DigB 10000 a) (la : a.length ≤ 1000000) {d : Nat} (hd : d ≤ 4294967296) : ∀ (m i : Nat), i + m = a.length + 3 →
    Ev (fun k => r1Times.l0 k a (d : Int) (putB 10000 (timesF a d) i).1 (((putB 10000 (timesF a d) i).2 : Nat) : Int) (i : Int)) (digB 10000 (valB 10000 a * d)) := by
  have stop : ∀ i : Nat, i ≤ 1000003 → a.length ≤ i → (putB 10000 (timesF a d) i).2 = 0 →
      Ev (fun k => r1Times.l0 k a (d : Int) (putB 10000 (timesF a d) i).1 (((putB 10000 (timesF a d) i).2 : Nat) : Int) (i : Int)) (digB 10000 (valB 10000 a * d)) := by
    intro i hi hl h3
    obtain ⟨e, g⟩ := putB_spec (B := 10000) (by decide) (f := timesF a d) i
    rw [h3, Nat.mul_zero, Nat.add_zero] at e
    have es : sumB 10000 (timesF a d) i = valB 10000 a * d := by
      show sumB 10000 (fun j => limbN a j * d) i = _
      rw [sumB_mul, sumB_limb a i hl]
    have ht := trim_ev g (by rw [putB_len]; omega)
    rw [e, es] at ht
    refine Ev.step (fun k => ?_) (Ev.bind ht (f := fun _ t => some t) (Ev.now _))
    simp only [r1Times.l0]
    rw [if_neg (by omega), if_neg (by omega)]
  intro m
  induction m with
  | zero =>
    intro i hi
    have := times_out da d 3
    rw [show a.length + 3 = i by omega] at this
    exact stop i (by omega) (by omega) (by omega)
  | succ m ih =>
    intro i hi
    have hn := ih (i + 1) (by omega)
    have hcar := times_carry da d i
    have h1 := limb_lt da i
    have hp : timesF a d i ≤ 9999 * 4294967296 := by unfold timesF; exact Nat.mul_le_mul (by omega) hd
    have e1 : wrap64 (wrap64 (((limbN a i : Nat) : Int) * (d : Int)) + (((putB 10000 (timesF a d) i).2 : Nat) : Int)) = ((timesF a d i + (putB 10000 (timesF a d) i).2 : Nat) : Int) := by
      rw [← Int.natCast_mul]
      show wrap64 (wrap64 ((timesF a d i : Nat) : Int) + _) = _
      rw [w64n (by omega), ← Int.natCast_add, w64n (by omega)]
    have e2 : ∀ k, (if (putB 10000 (timesF a d) i).1.length < 17592186044416 then r1Times.l0 k a (d : Int) ((putB 10000 (timesF a d) i).1 ++ [Int.tmod (wrap64 (wrap64 (((limbN a i : Nat) : Int) * (d : Int)) + (((putB 10000 (timesF a d) i).2 : Nat) : Int))) 10000]) (wrap64 (Int.tdiv (wrap64 (wrap64 (((limbN a i : Nat) : Int) * (d : Int)) + (((putB 10000 (timesF a d) i).2 : Nat) : Int))) 10000)) (wrap64 ((i : Int) + 1)) else none) =
        r1Times.l0 k a (d : Int) (putB 10000 (timesF a d) (i + 1)).1 (((putB 10000 (timesF a d) (i + 1)).2 : Nat) : Int) ((i + 1 : Nat) : Int) := by
      intro k
      rw [if_pos (by rw [putB_len]; omega), e1, show (10000 : Int) = ((10000 : Nat) : Int) from rfl, tdiv_nat, tmod_nat, w64n (by omega), w64 (by omega) (by omega)]
      rfl
    by_cases c1 : i < a.length
    · refine Ev.step (fun k => ?_) hn
      simp only [r1Times.l0]
      rw [if_pos (by omega), digit_f da, Option.bind_some, e2]
    · by_cases c2 : 0 < (putB 10000 (timesF a d) i).2
      · refine Ev.step (fun k => ?_) hn
        simp only [r1Times.l0]
        rw [if_neg (by omega), if_pos (by omega), digit_f da, Option.bind_some, e2]
      · exact stop i (by omega) (by omega) (by omega)
theorem times_ev {x d : Nat} (hx : (digB 10000 x).length ≤ 1000000) (hd : d ≤ 4294967296) : Ev (fun k => r1Times.f k (digB 10000 x) (d : Int)) (digB 10000 (x * d)) := by
  have h := times_loop (T_good x).dig hx hd ((digB 10000 x).length + 3) 0 (by omega)
  rw [T_val] at h
  exact h
theorem times_lit {x : Nat} (hx : (digB 10000 x).length ≤ 1000000) : Ev (fun k => r1Times.f k (digB 10000 x) 65536) (digB 10000 (x * 65536)) := by
  have h := times_ev (d := 65536) hx (by decide)
  rw [show ((65536 : Nat) : Int) = 65536 from rfl] at h
  exact h
theorem small_loop : ∀ (m v : Nat) (acc : List Int), v < 10000 ^ m → v ≤ 9223372036854775807 → acc.length + m ≤ 1000000 → Ev (fun k => r1Sm.l0 k (v : Int) acc) (acc ++ digB 10000 v)
  | 0, v, acc, h, _, _ => by
    obtain rfl : v = 0 := by simpa using h
    rw [digB_zero _ (by decide), List.append_nil]
    refine Ev.step (f := fun _ => some acc) (fun k => ?_) (Ev.now _)
    simp only [r1Sm.l0]; rw [if_neg (by omega)]
  | m + 1, v, acc, h, h63, hl => by
    by_cases h0 : v = 0
    · subst h0
      rw [digB_zero _ (by decide), List.append_nil]
      refine Ev.step (f := fun _ => some acc) (fun k => ?_) (Ev.now _)
      simp only [r1Sm.l0]; rw [if_neg (by omega)]
    · have ih := small_loop m (v / 10000) (acc ++ [((v % 10000 : Nat) : Int)]) (Nat.div_lt_of_lt_mul (by rw [Nat.pow_succ, Nat.mul_comm] at h; exact h)) (by omega) (by simp; omega)
      rw [List.append_assoc, List.singleton_append, ← digB_step (by decide) (by omega)] at ih
      refine Ev.step (fun k => ?_) ih
      simp only [r1Sm.l0]
      rw [if_pos (by omega), if_pos (by omega), show (10000 : Int) = ((10000 : Nat) : Int) from rfl, tdiv_nat, tmod_nat, w64n (by omega)]
theorem small_ev {v : Nat} (h : v < 1000000000000) : Ev (fun k => r1Sm.f k (v : Int)) (digB 10000 v) := by
  have := small_loop 3 v [] (by omega) (by omega) (by simp)
  exact this
theorem valB_drop {B : Nat} {l : List Int} {j : Nat} (h : j < l.length) : valB B (l.drop j) = limbN l j + B * valB B (l.drop (j + 1)) := by
  rw [List.drop_eq_getElem_cons h, valB_cons]
  simp [limbN, h]
theorem of_loop {l : List Int} (hd : DigB 4294967296 l) (hl : l.length ≤ 100000) : ∀ i : Nat, i ≤ l.length → Ev (fun k => r1Of.l0 k l (digB 10000 (valB 4294967296 (l.drop i))) ((i : Int) - 1)) (digB 10000 (valB 4294967296 l))
  | 0, _ => by
    refine Ev.step (f := fun _ => some (digB 10000 (valB 4294967296 l))) (fun k => ?_) (Ev.now _)
    simp only [r1Of.l0]; rw [if_neg (by omega)]; rfl
  | j + 1, hj => by
    have ih := of_loop hd hl j (by omega)
    rw [valB_drop (B := 4294967296) (j := j) (by omega)] at ih
    have hX := valB_lt 4294967296 _ (hd.drop (j + 1))
    rw [List.length_drop] at hX
    generalize valB 4294967296 (l.drop (j + 1)) = X at hX ih ⊢
    have l1 := T_len hX
    have hX1 : X * 65536 < 4294967296 ^ (l.length - (j + 1) + 1) := by
      rw [Nat.pow_succ]
      exact Nat.lt_of_lt_of_le (Nat.mul_lt_mul_of_pos_right hX (by decide)) (Nat.mul_le_mul_left _ (by decide))
    have l2 := T_len hX1
    have hX2 : X * 65536 * 65536 < 4294967296 ^ (l.length - (j + 1) + 1) := by
      rw [Nat.pow_succ, Nat.mul_assoc]
      exact Nat.mul_lt_mul_of_pos_right hX (by decide)
    have l3 := T_len hX2
    have hw := limbN_lt (by decide) hd j
    have l4 := T_len (x := limbN l j) (n := 1) (by rw [Nat.pow_one]; exact hw)
    have e3 : X * 65536 * 65536 + limbN l j = limbN l j + 4294967296 * X := by omega
    obtain ⟨X1, x1⟩ : ∃ X1, X * 65536 = X1 := ⟨_, rfl⟩
    rw [x1] at e3 l2 l3
    obtain ⟨X2, x2⟩ : ∃ X2, X1 * 65536 = X2 := ⟨_, rfl⟩
    rw [x2] at e3 l3
    have t1 := times_lit (x := X) (by omega)
    rw [x1] at t1
    have t2 := times_lit (x := X1) (by omega)
    rw [x2] at t2
    rw [← e3] at ih
    have s3 := Ev.bind (f := fun k t => r1Of.l0 k l t ((j : Int) - 1)) (add_ev (x := X2) (y := limbN l j) (by omega) (by omega)) ih
    have s2 := Ev.bind (f := fun k t => (r1Add.f k (digB 10000 X2) t).bind fun u => r1Of.l0 k l u ((j : Int) - 1)) (small_ev (v := limbN l j) (by omega)) s3
    have s1 := Ev.bind (f := fun k t => (r1Sm.f k ((limbN l j : Nat) : Int)).bind fun v => (r1Add.f k t v).bind fun u => r1Of.l0 k l u ((j : Int) - 1)) t2 s2
    have s0 := Ev.bind (f := fun k s => (r1Times.f k s 65536).bind fun t => (r1Sm.f k ((limbN l j : Nat) : Int)).bind fun v => (r1Add.f k t v).bind fun u => r1Of.l0 k l u ((j : Int) - 1)) t1 s1
    have p0 : (0 : Int) ≤ (j : Int) := by omega
    have p1 : (j : Int) < (l.length : Int) := by omega
    have p2 : wrap64 ((j : Int) - 1) = (j : Int) - 1 := w64 (by omega) (by omega)
    have p3 : wrap64 ((limbN l j : Nat) : Int) = ((limbN l j : Nat) : Int) := w64n (by omega)
    have p4 : ((j + 1 : Nat) : Int) - 1 = (j : Int) := by omega
    refine Ev.step (fun k => ?_) s0
    simp only [r1Of.l0, p4, ge_iff_le, if_pos p0, if_pos p1, rd_limb hd, p2, p3]
theorem of_ev {l : List Int} (hd : DigB 4294967296 l) (hl : l.length ≤ 100000) : Ev (fun k => r1Of.f k l) (digB 10000 (valB 4294967296 l)) := by
  have h := of_loop hd hl l.length (by omega)
  rw [List.drop_length, show valB 4294967296 [] = 0 from rfl, digB_zero _ (by decide)] at h
  refine Ev.congr (fun k => ?_) h
  unfold r1Of.f
  rw [w64 (by omega) (by omega)]
theorem cmp_loop {a b : List Int} (da : DigB 10000 a) (db : DigB 10000 b) (hl : a.length = b.length) (h9 : a.length ≤ 4611686018427387904) : ∀ i : Nat, i ≤ a.length → (∀ j, i ≤ j → j < a.length → limbN a j = limbN b j) →
    Ev (fun k => r1Cmp.l0 k a b ((i : Int) - 1)) (cmpN (valB 10000 a) (valB 10000 b))
  | 0, _, he => by
    have e : valB 10000 a = valB 10000 b := by
      rw [← sumB_limb a a.length (by omega), ← sumB_limb b a.length (by omega)]
      exact sumB_congr (fun j hj => he j (by omega) hj)
    refine Ev.step (f := fun _ => some (cmpN (valB 10000 a) (valB 10000 b))) (fun k => ?_) (Ev.now _)
    simp only [r1Cmp.l0]
    rw [if_neg (by omega), e]; unfold cmpN; simp
  | j + 1, hj, he => by
    have hlt : ∀ {x y : List Int}, DigB 10000 x → DigB 10000 y → x.length = a.length → y.length = a.length → (∀ t, j + 1 ≤ t → t < a.length → limbN x t = limbN y t) → limbN x j < limbN y j → valB 10000 x < valB 10000 y := by
      intro x y dx dy lx ly hxy hc
      rw [← sumB_limb x a.length (by omega), ← sumB_limb y a.length (by omega)]
      exact sum_lt (by decide) (limb_lt dx) a.length j (by omega) (fun t ht h2 => hxy t (by omega) h2) hc
    have pre : ∀ k, r1Cmp.l0 (k + 1) a b (((j + 1 : Nat) : Int) - 1) = if ((limbN a j : Nat) : Int) < ((limbN b j : Nat) : Int) then some (-1) else if ((limbN a j : Nat) : Int) > ((limbN b j : Nat) : Int) then some 1 else r1Cmp.l0 k a b ((j : Int) - 1) := by
      intro k
      simp only [r1Cmp.l0]
      rw [show ((j + 1 : Nat) : Int) - 1 = (j : Int) by omega, if_pos (by omega), if_pos (by omega), if_pos (by omega), if_pos (by omega), rd_limb da, rd_limb db, w64 (by omega) (by omega)]
    rcases Nat.lt_trichotomy (limbN a j) (limbN b j) with c | c | c
    · have := hlt da db rfl hl.symm he c
      refine Ev.step (f := fun _ => some (-1)) (fun k => by rw [pre, if_pos (by omega)]) ?_
      unfold cmpN; rw [if_pos this]; exact Ev.now _
    · refine Ev.step (fun k => by rw [pre, if_neg (by omega), if_neg (by omega)]) (cmp_loop da db hl h9 j (by omega) (fun t h1 h2 => ?_))
      rcases Nat.eq_or_lt_of_le h1 with h | h
      · rw [← h]; exact c
      · exact he t h h2
    · have := hlt db da hl.symm rfl (fun t h1 h2 => (he t h1 h2).symm) c
      refine Ev.step (f := fun _ => some 1) (fun k => by rw [pre, if_neg (by omega), if_pos (by omega)]) ?_
      unfold cmpN; rw [if_neg (by omega), if_pos this]; exact Ev.now _
theorem good_lt {a b : List Int} (ga : GoodB 10000 a) (gb : GoodB 10000 b) (h : a.length < b.length) : valB 10000 a < valB 10000 b := by
  have h1 := valB_lt 10000 a ga.dig
  have h2 := gb.len_lt (fun e => by rw [e] at h; simp at h)
  exact Nat.lt_of_lt_of_le h1 (Nat.le_trans (Nat.pow_le_pow_right (by decide) (by omega)) h2)
theorem cmp_good {a b : List Int} (ga : GoodB 10000 a) (gb : GoodB 10000 b) (h9 : a.length ≤ 4611686018427387904) : Ev (fun k => r1Cmp.f k a b) (cmpN (valB 10000 a) (valB 10000 b)) := by
  rcases Nat.lt_trichotomy a.length b.length with c | c | c
  · have := good_lt ga gb c
    refine Ev.congr (f := fun _ => some (-1)) (fun k => ?_) (by unfold cmpN; rw [if_pos this]; exact Ev.now _)
    unfold r1Cmp.f; rw [if_neg (by omega), if_pos (by omega)]
  · refine Ev.congr (fun k => ?_) (cmp_loop ga.dig gb.dig c h9 a.length (by omega) (fun j h1 h2 => by omega))
    unfold r1Cmp.f; rw [if_pos (by omega), w64 (by omega) (by omega)]
  · have := good_lt gb ga c
    refine Ev.congr (f := fun _ => some 1) (fun k => ?_) (by unfold cmpN; rw [if_neg (by omega), if_pos this]; exact Ev.now _)
    unfold r1Cmp.f; rw [if_neg (by omega), if_neg (by omega)]
theorem cmp_ev (x y : Nat) (h9 : (digB 10000 x).length ≤ 4611686018427387904) : Ev (fun k => r1Cmp.f k (digB 10000 x) (digB 10000 y)) (cmpN x y) := by
  have := cmp_good (T_good x) (T_good y) h9
  rwa [T_val, T_val] at this
end Go.Proofs.YthppjdmkinbccaaGreatDoor.Ref

namespace Go.Proofs.YthppjdmkinbccaaGreatDoor.Print
open Go.RowKit Go.Proofs.YthppjdmkinbccaaGreatDoorW.PrintWords Go.Proofs.YthppjdmkinbccaaGreatDoorW.PrintLast Go.Proofs.YthppjdmkinbccaaGreatDoorW.PrintMore
attribute [local go_sem] max2_int min2_int max_two min_two max_three min_three max_four min_four   -- for this text's walks alone
set_option linter.unusedVariables false
set_option linter.unusedSimpArgs false
mutual
def r4N.l0 : Nat → List Int → ByteArray → Int → Option (ByteArray)
 | 0, _, _, _ => none
 | k + 1, x0, x3, x4 => if x4 ≥ 0 then (if 0 ≤ x4 then (if x4 < (x0.length : Int) then ((fluxionref04_four.f (rd x0 x4)).bind fun t256 => (if x3.size + t256.size ≤ 9223372036854775807 then (r4N.l0 k x0 (x3 ++ t256) (wrap64 (x4 - 1))) else (none))) else (none)) else (none)) else (r4N.l1 k x3 0)
def r4N.l1 : Nat → ByteArray → Int → Option (ByteArray)
 | 0, _, _ => none
 | k + 1, x3, x5 => if 0 ≤ x5 then (if x5 < (x3.size : Int) then (if (bt x3 x5) = 48 then (r4N.l1 k x3 (wrap64 (x5 + 1))) else (if x5 ≤ (x3.size : Int) then (some (x3.extract (x5 : Int).toNat x3.size)) else (none))) else (none)) else (none)
end
def r4N.f (k : Nat) (l0 : List Int) : Option (ByteArray) := if (l0.length : Int) = 0 then (some (⟨#[48]⟩ : ByteArray)) else (r4N.l0 k l0 (⟨#[]⟩ : ByteArray) (wrap64 ((l0.length : Int) - 1)))
def r4nat.l0 : Nat → ByteArray → Int → Option (Bool)
 | 0, _, _ => none
 | k + 1, x0, x3 => if x3 < (x0.size : Int) then (if 0 ≤ x3 then (if (bt x0 x3) < 48 then (some false) else (if (bt x0 x3) > 57 then (some false) else (r4nat.l0 k x0 (wrap64 (x3 + 1))))) else (none)) else (if (x0.size : Int) > 0 then (if 0 < (x0.size : Int) then (if (bt x0 0) = 48 then (some ((x0.size : Int) == 1)) else (some true)) else (none)) else (some false))
def r4nat.f (k : Nat) (a0 : ByteArray) : Option (Bool) := r4nat.l0 k a0 0
end Go.Proofs.YthppjdmkinbccaaGreatDoor.Print

namespace Go.Proofs.YthppjdmkinbccaaGreatDoor.Print
open Go.RowKit Go.Proofs.YthppjdmkinbccaaGreatDoorW.PrintWords Go.Proofs.YthppjdmkinbccaaGreatDoorW.PrintLast Go.Proofs.YthppjdmkinbccaaGreatDoorW.PrintMore
attribute [local go_sem] max2_int min2_int max_two min_two max_three min_three max_four min_four   -- for this text's walks alone
set_option linter.unusedVariables false
set_option linter.unusedSimpArgs false
def r4nr.l0 : Nat → ByteArray → List Int → Int → Option (List Int)
 | 0, _, _, _ => none
 | k + 1, x0, x3, x4 => if x4 < (x0.size : Int) then ((r1Times.f k x3 10).bind fun t257 => (if 0 ≤ x4 then ((r1Sm.f k (wrap64 ((wrap64 (bt x0 x4)) - 48))).bind fun t260 => ((r1Add.f k t257 t260).bind fun t263 => (r4nr.l0 k x0 t263 (wrap64 (x4 + 1))))) else (none))) else (some x3)
def r4nr.f (k : Nat) (a0 : ByteArray) : Option (List Int) := r4nr.l0 k a0 ([] : List Int) 0
def r4PN.f (k : Nat) (a0 : ByteArray) : Option (List Int × Int) := (r4nat.f k a0).bind fun t266 => (if t266 = true then (if (a0.size : Int) > 400 then (some (([] : List Int), 14)) else ((r4nr.f k a0).bind fun t267 => ((r1B.f k t267).bind fun t270 => (if t270 > 1024 then (some (([] : List Int), 14)) else (some (t267, 0)))))) else (some (([] : List Int), 19)))
def r4R.j0 : Nat → ByteArray → Bool → List Int → List Int → Option (ByteArray)
 | 0, _, _, _, _ => none
 | k + 1, x3, x272000, x272001, x272002 => (r4N.f k x272002).bind fun t273 => (if t273.toList = ([49] : List UInt8) then (some x3) else (if x3.size + 1 ≤ 9223372036854775807 then (if (x3 ++ (⟨#[47]⟩ : ByteArray)).size + t273.size ≤ 9223372036854775807 then (some ((x3 ++ (⟨#[47]⟩ : ByteArray)) ++ t273)) else (none)) else (none)))
def r4R.f (k : Nat) (a0_0 : Bool) (l0_1 : List Int) (l0_2 : List Int) : Option (ByteArray) := (r4N.f k l0_1).bind fun t272 => (if a0_0 = true then (if 1 + t272.size ≤ 9223372036854775807 then (r4R.j0 k ((⟨#[45]⟩ : ByteArray) ++ t272) a0_0 l0_1 l0_2) else (none)) else (r4R.j0 k t272 a0_0 l0_1 l0_2))
end Go.Proofs.YthppjdmkinbccaaGreatDoor.Print

namespace Go.Proofs.YthppjdmkinbccaaGreatDoor.Ref
open Go.RowKit Go.Proofs.YthppjdmkinbccaaGreatDoorW.PrintWords Go.Proofs.YthppjdmkinbccaaGreatDoorW.PrintLast Go.Proofs.YthppjdmkinbccaaGreatDoor.Print Go.Proofs.YthppjdmkinbccaaGreatDoor.Base
set_option linter.unusedVariables false
set_option linter.unusedSimpArgs false
structure Quot (B V : Nat) (l out : List Int) (i : Nat) : Prop where
  len : out.length = l.length
  dig : DigB B out
  low : ∀ t, t < i → limbN out t = 0
  val : valB B out = B ^ i * (valB B (l.drop i) / V)
theorem Quot.start {B V : Nat} (hB : 0 < B) (l : List Int) : Quot B V l (List.replicate l.length 0) l.length := by
  refine ⟨by simp, DigB.zeros B hB _, fun t _ => ?_, by rw [valB_zeros, List.drop_length, valB_nil, Nat.zero_div, Nat.mul_zero]⟩
  unfold limbN
  rcases Nat.lt_or_ge t l.length with c | c
  · simp [c]
  · simp [Nat.not_lt.2 c]
theorem quot_step {B V d X : Nat} (hV : 0 < V) (hd : d < B) : (d + B * X) / V = B * (X / V) + (X % V * B + d) / V ∧ (d + B * X) % V = (X % V * B + d) % V ∧ (X % V * B + d) / V < B := by
  have e : d + B * X = (X % V * B + d) + V * (B * (X / V)) := by
    have h := Nat.mod_add_div X V
    have h2 : B * X = B * (X % V) + B * (V * (X / V)) := by rw [← Nat.mul_add, h]
    rw [h2, Nat.mul_left_comm B V, Nat.mul_comm B (X % V)]; omega
  refine ⟨by rw [e, Nat.add_mul_div_left _ _ hV]; omega, by rw [e, Nat.add_mul_mod_self_left], ?_⟩
  refine Nat.div_lt_of_lt_mul ?_
  have h1 : X % V + 1 ≤ V := Nat.mod_lt X hV
  have h2 := Nat.mul_le_mul_right B h1
  rw [Nat.add_mul, Nat.one_mul] at h2
  omega
theorem Quot.next {B V : Nat} {l out : List Int} {i : Nat} (h : Quot B V l out (i + 1)) (hB : 0 < B) (hV : 0 < V) (hl : DigB B l) (hi : i < l.length) {q : Int}
    (hq : q = (((valB B (l.drop (i + 1)) % V * B + limbN l i) / V : Nat) : Int)) : Quot B V l (out.set i q) i := by
  obtain ⟨h1, h2, h3⟩ := quot_step (X := valB B (l.drop (i + 1))) hV (limbN_lt hB hl i)
  have hio : i < out.length := by rw [h.len]; exact hi
  refine ⟨by rw [List.length_set]; exact h.len, fun x hx => ?_, fun t ht => ?_, ?_⟩
  · rcases List.mem_or_eq_of_mem_set hx with hx | hx
    · exact h.dig x hx
    · rw [hx, hq]; exact ⟨Int.natCast_nonneg _, Int.ofNat_lt.2 h3⟩
  · have := h.low t (by omega)
    unfold limbN at this ⊢
    simpa [show i ≠ t by omega] using this
  · have hs := valB_set (B := B) out i hio q
    have h0 := h.low i (by omega)
    unfold limbN at h0
    rw [h0, Nat.mul_zero, Nat.add_zero, h.val, hq, Int.toNat_natCast] at hs
    rw [hq, hs, valB_drop hi, h1, Nat.pow_succ, Nat.mul_add, Nat.mul_assoc]
theorem Quot.done {V : Nat} {l out : List Int} (h : Quot 10000 V l out 0) : valB 10000 out = valB 10000 l / V := by
  have := h.val
  rwa [Nat.pow_zero, Nat.one_mul, List.drop_zero] at this
theorem Quot.rest {B V : Nat} {l : List Int} {i : Nat} (hB : 0 < B) (hV : 0 < V) (hl : DigB B l) (hi : i < l.length) : valB B (l.drop i) % V = (valB B (l.drop (i + 1)) % V * B + limbN l i) % V := by
  rw [valB_drop hi]; exact (quot_step hV (limbN_lt hB hl i)).2.1
def nb (x : Nat) : Nat := if x = 0 then 0 else x.log2 + 1
def bA (l : List UInt8) : ByteArray := ⟨l.toArray⟩
theorem bA_size (l : List UInt8) : (bA l).size = l.length := rfl
theorem bA_append (a b : List UInt8) : bA a ++ bA b = bA (a ++ b) := by
  refine Go.WideShapes.bytes_inj ?_
  rw [ByteArray.data_append, Array.toList_append]; simp [bA]
end Go.Proofs.YthppjdmkinbccaaGreatDoor.Ref

namespace Go.Proofs.YthppjdmkinbccaaGreatDoor.Ref
open Go.RowKit Go.Proofs.YthppjdmkinbccaaGreatDoorW.PrintWords Go.Proofs.YthppjdmkinbccaaGreatDoorW.PrintLast Go.Proofs.YthppjdmkinbccaaGreatDoor.Print Go.Proofs.YthppjdmkinbccaaGreatDoor.Base
set_option linter.unusedVariables false
set_option linter.unusedSimpArgs false
theorem valB_snoc (B : Nat) (l : List Int) (d : Int) : valB B (l ++ [d]) = valB B l + B ^ l.length * d.toNat := by
  rw [valB_append, valB_cons, valB_nil, Nat.mul_zero, Nat.add_zero]
theorem sub_loop {a b : List Int} (da : DigB 10000 a) (db : DigB 10000 b) (hl : b.length ≤ a.length) (h9 : a.length ≤ 1000000) (hle : valB 10000 b ≤ valB 10000 a) : ∀ (m i : Nat) (acc : List Int) (less : Nat), i + m = a.length → acc.length = i → DigB 10000 acc → less ≤ 1 →
    valB 10000 acc + sumB 10000 (limbN b) i = sumB 10000 (limbN a) i + 10000 ^ i * less →
    Ev (fun k => r1Sub.l0 k a b acc (less : Int) (i : Int)) (digB 10000 (valB 10000 a - valB 10000 b), true) := by
  intro m
  induction m with
  | zero =>
    intro i acc less hi hac dac hless inv
    rw [sumB_limb b i (by omega), sumB_limb a i (by omega)] at inv
    have hlt := valB_lt 10000 acc dac
    rw [hac] at hlt
    have h0 : less = 0 := by
      rcases Nat.eq_zero_or_pos less with h | h
      · exact h
      · exfalso
        have : less = 1 := by omega
        rw [this, Nat.mul_one] at inv
        omega
    rw [h0, Nat.mul_zero, Nat.add_zero] at inv
    have ht := trim_ev dac (by omega)
    rw [show valB 10000 acc = valB 10000 a - valB 10000 b by omega] at ht
    refine Ev.step (fun k => ?_) (Ev.bind (f := fun _ t => some (t, true)) ht (Ev.now _))
    simp only [r1Sub.l0]
    rw [if_neg (by omega)]
  | succ m ih =>
    intro i acc less hi hac dac hless inv
    have h1 := limb_lt da i
    have h2 := limb_lt db i
    have e1 : wrap64 (wrap64 (((limbN a i : Nat) : Int) - ((limbN b i : Nat) : Int)) - (less : Int)) = ((limbN a i : Nat) : Int) - ((limbN b i : Nat) : Int) - (less : Int) := by
      rw [w64 (x := ((limbN a i : Nat) : Int) - ((limbN b i : Nat) : Int)) (by omega) (by omega), w64 (by omega) (by omega)]
    have eb : sumB 10000 (limbN b) (i + 1) = sumB 10000 (limbN b) i + 10000 ^ i * limbN b i := rfl
    have ea : sumB 10000 (limbN a) (i + 1) = sumB 10000 (limbN a) i + 10000 ^ i * limbN a i := rfl
    have step : ∀ (d l2 : Nat), d < 10000 → l2 ≤ 1 → d + limbN b i + less = limbN a i + 10000 * l2 → Ev (fun k => r1Sub.l0 k a b (acc ++ [(d : Int)]) (l2 : Int) ((i + 1 : Nat) : Int)) (digB 10000 (valB 10000 a - valB 10000 b), true) := by
      intro d l2 hd hl2 he
      refine ih (i + 1) _ l2 (by omega) (by simp [hac]) (dac.append (DigB.cons (by omega) (by omega) (DigB.nil _))) hl2 ?_
      rw [valB_snoc, hac, Int.toNat_natCast, eb, ea, Nat.pow_succ, Nat.mul_assoc]
      have h3 := congrArg (10000 ^ i * ·) he
      simp only [Nat.mul_add] at h3
      omega
    by_cases c : limbN a i < limbN b i + less
    · have hs := step (limbN a i + 10000 - limbN b i - less) 1 (by omega) (by omega) (by omega)
      refine Ev.step (fun k => ?_) hs
      simp only [r1Sub.l0]
      rw [if_pos (by omega), if_pos (by omega), digit_f db, Option.bind_some, rd_limb da, e1, if_pos (by omega), if_pos (by omega), w64 (by omega) (by omega), w64 (by omega) (by omega),
        show ((limbN a i : Nat) : Int) - ((limbN b i : Nat) : Int) - (less : Int) + 10000 = ((limbN a i + 10000 - limbN b i - less : Nat) : Int) by omega]
      rfl
    · have hs := step (limbN a i - limbN b i - less) 0 (by omega) (by omega) (by omega)
      refine Ev.step (fun k => ?_) hs
      simp only [r1Sub.l0]
      rw [if_pos (by omega), if_pos (by omega), digit_f db, Option.bind_some, rd_limb da, e1, if_neg (by omega), if_pos (by omega), w64 (by omega) (by omega),
        show ((limbN a i : Nat) : Int) - ((limbN b i : Nat) : Int) - (less : Int) = ((limbN a i - limbN b i - less : Nat) : Int) by omega]
      rfl
theorem sub_ev {x y : Nat} (hx : (digB 10000 x).length ≤ 1000000) (h : y ≤ x) : Ev (fun k => r1Sub.f k (digB 10000 x) (digB 10000 y)) (digB 10000 (x - y), true) := by
  have hs := sub_loop (T_good x).dig (T_good y).dig (T_len_le h) hx (by rw [T_val, T_val]; exact h) (digB 10000 x).length 0 [] 0 (by omega) rfl (DigB.nil _) (by omega) rfl
  rw [T_val, T_val] at hs
  refine Ev.congr (fun k => rfl) (Ev.bind (f := fun k t => if t < 0 then some (([] : List Int), false) else r1Sub.l0 k (digB 10000 x) (digB 10000 y) [] 0 0) (cmp_ev x y (by omega)) ?_)
  refine Ev.congr (fun k => ?_) hs
  rw [if_neg (by unfold cmpN; rw [if_neg (by omega)]; split <;> omega)]; rfl
theorem digit2_loop {r y : Nat} (hy : (digB 10000 y).length ≤ 900000) : ∀ (m low high : Nat), high - low ≤ m → low < high → high ≤ 10000 → low * y ≤ r → r < high * y → Ev (fun k => r2d.l0 k (digB 10000 r) (digB 10000 y) (low : Int) (high : Int)) ((r / y : Nat) : Int) := by
  intro m
  induction m with
  | zero => intro low high h1 h2; omega
  | succ m ih =>
    intro low high h1 h2 h3 h4 h5
    by_cases c : high - low ≤ 1
    · have e : high = low + 1 := by omega
      subst e
      have hy0 : 0 < y := Nat.pos_of_ne_zero (fun h => by rw [h, Nat.mul_zero] at h5; omega)
      have hq : r / y = low := by
        rw [Nat.div_eq_iff hy0]
        rw [Nat.add_mul, Nat.one_mul] at h5
        omega
      rw [hq]
      refine Ev.step (f := fun _ => some ((low : Nat) : Int)) (fun k => ?_) (Ev.now _)
      simp only [r2d.l0]
      rw [w64 (by omega) (by omega), if_neg (by omega)]
    · have ht := times_ev (x := y) (d := (low + high) / 2) (by omega) (by omega)
      have hyb := valB_lt 10000 _ (T_good y).dig
      rw [T_val] at hyb
      have hl : (digB 10000 (y * ((low + high) / 2))).length ≤ (digB 10000 y).length + 1 := by
        refine digB_len (by decide) ?_
        rw [Nat.pow_succ]
        exact Nat.lt_of_lt_of_le (Nat.mul_lt_mul_of_pos_right hyb (by omega)) (Nat.mul_le_mul_left _ (by omega))
      have hc := cmp_ev (y * ((low + high) / 2)) r (by omega)
      have e1 : wrap64 (Int.tdiv (wrap64 ((low : Int) + (high : Int))) 2) = (((low + high) / 2 : Nat) : Int) := by
        rw [← Int.natCast_add, w64n (by omega), show (2 : Int) = ((2 : Nat) : Int) from rfl, tdiv_nat, w64n (by omega)]
      have fin : Ev (fun k => if cmpN (y * ((low + high) / 2)) r ≤ 0 then r2d.l0 k (digB 10000 r) (digB 10000 y) (((low + high) / 2 : Nat) : Int) (high : Int) else r2d.l0 k (digB 10000 r) (digB 10000 y) (low : Int) (((low + high) / 2 : Nat) : Int)) ((r / y : Nat) : Int) := by
        by_cases g : y * ((low + high) / 2) ≤ r
        · refine Ev.congr (fun k => ?_) (ih ((low + high) / 2) high (by omega) (by omega) h3 (by rw [Nat.mul_comm]; exact g) h5)
          rw [if_pos (by unfold cmpN; split; · omega
                         · rw [if_neg (by omega)]; omega)]
        · refine Ev.congr (fun k => ?_) (ih low ((low + high) / 2) (by omega) (by omega) (by omega) h4 (by rw [Nat.mul_comm]; omega))
          rw [if_neg (by unfold cmpN; rw [if_neg (by omega), if_pos (by omega)]; omega)]
      refine Ev.step (fun k => ?_) (Ev.bind (f := fun k t => (r1Cmp.f k t (digB 10000 r)).bind fun u => if u ≤ 0 then r2d.l0 k (digB 10000 r) (digB 10000 y) (((low + high) / 2 : Nat) : Int) (high : Int) else r2d.l0 k (digB 10000 r) (digB 10000 y) (low : Int) (((low + high) / 2 : Nat) : Int)) ht (Ev.bind (f := fun k u => if u ≤ 0 then r2d.l0 k (digB 10000 r) (digB 10000 y) (((low + high) / 2 : Nat) : Int) (high : Int) else r2d.l0 k (digB 10000 r) (digB 10000 y) (low : Int) (((low + high) / 2 : Nat) : Int)) hc fin))
      simp only [r2d.l0]
      rw [w64 (by omega) (by omega), if_pos (by omega), e1]
theorem digit2_ev {r y : Nat} (hy : (digB 10000 y).length ≤ 900000) (h : r < 10000 * y) : Ev (fun k => r2d.f k (digB 10000 r) (digB 10000 y)) ((r / y : Nat) : Int) :=
  digit2_loop hy 10000 0 10000 (by omega) (by omega) (by omega) (by omega) h
theorem trim2_loop (l : List Int) (hl : l.length ≤ 4611686018427387904) : ∀ i : Nat, i ≤ l.length → Ev (fun k => r2t.l0 k l (i : Int)) (trimL (l.take i))
  | 0, _ => by
    refine Ev.step (f := fun _ => some []) (fun k => ?_) (Ev.now _)
    simp only [r2t.l0]
    rw [if_neg (by omega), if_pos (by omega), if_pos (by omega)]; rfl
  | i + 1, hi => by
    have hw : wrap64 (((i + 1 : Nat) : Int) - 1) = (i : Int) := by rw [w64 (by omega) (by omega)]; omega
    rw [take_snoc (by omega)]
    by_cases h0 : rd l (i : Int) = 0
    · rw [h0, trimL_snoc_zero]
      refine Ev.step (fun k => ?_) (trim2_loop l hl i (by omega))
      simp only [r2t.l0]
      rw [hw, if_pos (by omega), if_pos (by omega), if_pos (by omega), if_pos h0]
    · rw [trimL_snoc _ _ h0]
      refine Ev.step (f := fun _ => some (l.take (i + 1))) (fun k => ?_) (by rw [take_snoc (by omega)]; exact Ev.now _)
      simp only [r2t.l0]
      rw [hw, if_pos (by omega), if_pos (by omega), if_pos (by omega), if_neg h0, if_pos (by omega), if_pos (by omega)]; rfl
theorem trim2_ev {l : List Int} (hd : DigB 10000 l) (hl : l.length ≤ 4611686018427387904) : Ev (fun k => r2t.f k l) (digB 10000 (valB 10000 l)) := by
  have h := trim2_loop l hl l.length (by omega)
  rw [List.take_length, trimL_eq (by decide) hd] at h
  exact h
theorem div_loop {x : List Int} (dx : DigB 10000 x) (h9 : x.length ≤ 800000) {y : Nat} (hy : (digB 10000 y).length ≤ 800000) (y0 : 0 < y) : ∀ (i : Nat) (out : List Int), i ≤ x.length → Quot 10000 y x out i →
    Ev (fun k => r2DM.l0 k x (digB 10000 y) out (digB 10000 (valB 10000 (x.drop i) % y)) ((i : Int) - 1)) (digB 10000 (valB 10000 x / y), digB 10000 (valB 10000 x % y))
  | 0, out, _, hq => by
    have ht := trim2_ev hq.dig (by rw [hq.len]; omega)
    rw [hq.done] at ht
    refine Ev.step (fun k => ?_) (Ev.bind (f := fun _ t => some (t, digB 10000 (valB 10000 x % y))) ht (Ev.now _))
    simp only [r2DM.l0]
    rw [if_neg (by omega), List.drop_zero]
  | j + 1, out, hj, hq => by
    have hlim := limb_lt dx j
    have hr := Nat.mod_lt (valB 10000 (x.drop (j + 1))) y0
    obtain ⟨q1, q2, q3⟩ := quot_step (B := 10000) (X := valB 10000 (x.drop (j + 1))) y0 hlim
    have hnext := hq.next (by decide) y0 dx (show j < x.length by omega) rfl
    have ih := div_loop dx h9 hy y0 j _ (by omega) hnext
    rw [Quot.rest (by decide) y0 dx (show j < x.length by omega)] at ih
    generalize valB 10000 (x.drop (j + 1)) % y = r at hr q1 q2 q3 ih ⊢
    have hyb := valB_lt 10000 _ (T_good y).dig
    rw [T_val] at hyb
    have hR : r * 10000 + limbN x j < 10000 * y := by omega
    have hRl : (digB 10000 (r * 10000 + limbN x j)).length ≤ (digB 10000 y).length + 1 := by
      refine digB_len (by decide) ?_
      rw [Nat.pow_succ]
      exact Nat.lt_of_lt_of_le hR (by rw [Nat.mul_comm]; exact Nat.mul_le_mul_right _ (by omega))
    have hrl := T_len_le (Nat.le_of_lt hr)
    have dcat : DigB 10000 ([((limbN x j : Nat) : Int)] ++ digB 10000 r) := DigB.cons (by omega) (by omega) (T_good r).dig
    have ecat : valB 10000 ([((limbN x j : Nat) : Int)] ++ digB 10000 r) = r * 10000 + limbN x j := by
      rw [List.singleton_append, valB_cons, T_val, Int.toNat_natCast]; omega
    have t1 := trim2_ev dcat (by simp; omega)
    rw [ecat] at t1
    have t2 := digit2_ev (by omega) hR
    generalize hRr : r * 10000 + limbN x j = R at t1 t2 ih hR hRl q1 q2 q3
    have hRy : R / y < 10000 := q3
    have t3 := times_ev (x := y) (d := R / y) (by omega) (by omega)
    have hmul : y * (R / y) ≤ R := Nat.mul_div_le R y
    have t4 := sub_ev (x := R) (y := y * (R / y)) (by omega) hmul
    rw [show R - y * (R / y) = R % y by have := Nat.mod_add_div R y; omega] at t4
    have p1 : ∀ k, r2DM.l0 (k + 1) x (digB 10000 y) out (digB 10000 r) (((j + 1 : Nat) : Int) - 1) = (r2t.f k ([((limbN x j : Nat) : Int)] ++ digB 10000 r)).bind fun t199 => (r2d.f k t199 (digB 10000 y)).bind fun t202 => (r1Times.f k (digB 10000 y) t202).bind fun t204 => (r1Sub.f k t199 t204).bind fun bt207 => r2DM.l0 k x (digB 10000 y) (out.set j t202) bt207.1 ((j : Int) - 1) := by
      intro k
      have c0 : (0 : Int) ≤ (j : Int) := by omega
      have c1 : (j : Int) < (x.length : Int) := by omega
      have c2 : (j : Int) < (out.length : Int) := by rw [hq.len]; omega
      have c3 : wrap64 ((j : Int) - 1) = (j : Int) - 1 := w64 (by omega) (by omega)
      have c4 : ((j + 1 : Nat) : Int) - 1 = (j : Int) := by omega
      have c5 : ([((limbN x j : Nat) : Int)] : List Int).length + (digB 10000 r).length < 17592186044416 := by simp; omega
      simp only [r2DM.l0, c4, ge_iff_le, if_pos c0, if_pos c1, rd_limb dx, Option.bind_some, if_pos c5, if_pos c2, c3, Int.toNat_natCast]
    refine Ev.step p1 (Ev.bind t1 (Ev.bind t2 (Ev.bind t3 (Ev.bind t4 ?_))))
    exact ih
theorem divmod_ev {x y : Nat} (hx : (digB 10000 x).length ≤ 800000) (hy : (digB 10000 y).length ≤ 800000) (y0 : 0 < y) : Ev (fun k => r2DM.f k (digB 10000 x) (digB 10000 y)) (digB 10000 (x / y), digB 10000 (x % y)) := by
  have h := div_loop (T_good x).dig hx hy y0 (digB 10000 x).length _ (by omega) (Quot.start (by decide) _)
  rw [T_val, List.drop_length, show valB 10000 [] % y = 0 by rw [valB_nil]; exact Nat.zero_mod y, digB_zero _ (by decide)] at h
  refine Ev.congr (fun k => ?_) h
  unfold r2DM.f
  rw [if_pos (by omega), if_pos (by omega), Int.toNat_natCast, w64 (by omega) (by omega)]
theorem gcd_loop : ∀ (m x y : Nat), y < m → (digB 10000 x).length ≤ 800000 → (digB 10000 y).length ≤ 800000 → Ev (fun k => fluxionref02_Gcd.l0 k (digB 10000 x) (digB 10000 y)) (digB 10000 (Nat.gcd x y)) := by
  intro m
  induction m with
  | zero => intro x y h; omega
  | succ m ih =>
    intro x y h hx hy
    by_cases h0 : y = 0
    · subst h0
      rw [digB_zero _ (by decide), Nat.gcd_zero_right]
      refine Ev.step (f := fun _ => some (digB 10000 x)) (fun k => ?_) (Ev.now _)
      simp only [fluxionref02_Gcd.l0]; rw [if_neg (by simp)]
    · have hlt := Nat.mod_lt x (show 0 < y by omega)
      have hne : 0 < (digB 10000 y).length := Nat.pos_of_ne_zero (fun e => h0 ((digB_nil y).1 (List.eq_nil_of_length_eq_zero e)))
      have hi := ih y (x % y) (by omega) hy (Nat.le_trans (T_len_le (Nat.le_of_lt hlt)) hy)
      rw [← gcd_rests x y (by omega)] at hi
      refine Ev.step (fun k => ?_) (Ev.bind (f := fun k bt => fluxionref02_Gcd.l0 k (digB 10000 y) bt.2) (divmod_ev hx hy (by omega)) hi)
      simp only [fluxionref02_Gcd.l0]; rw [if_pos (by omega)]
theorem gcd_ev {x y : Nat} (hx : (digB 10000 x).length ≤ 800000) (hy : (digB 10000 y).length ≤ 800000) : Ev (fun k => fluxionref02_Gcd.f k (digB 10000 x) (digB 10000 y)) (digB 10000 (Nat.gcd x y)) :=
  gcd_loop (y + 1) x y (by omega) hx hy
def ratN (n : Bool) (x y : Nat) : Bool × Nat × Nat := if x = 0 ∨ y = 0 then (false, 0, 1) else (n, x / Nat.gcd x y, y / Nat.gcd x y)
def ratL (B : Nat) (r : Bool × Nat × Nat) : Bool × List Int × List Int := (r.1, digB B r.2.1, digB B r.2.2)
theorem make_ev {n : Bool} {x y : Nat} (hx : (digB 10000 x).length ≤ 800000) (hy : (digB 10000 y).length ≤ 800000) : Ev (fun k => r3M.f k n (digB 10000 x) (digB 10000 y)) (ratL 10000 (ratN n x y)) := by
  have zero : x = 0 ∨ y = 0 → Ev (fun k => r3M.j0 k n (digB 10000 x) (digB 10000 y) true) (ratL 10000 (ratN n x y)) := by
    intro h
    refine Ev.step (f := fun _ => some (false, ([] : List Int), ([1] : List Int))) (fun k => ?_) ?_
    · simp only [r3M.j0]; rfl
    · unfold ratN ratL
      rw [if_pos h]
      show Ev _ (false, digB 10000 0, digB 10000 1)
      rw [digB_zero _ (by decide), digB_small (by decide) (by decide) (by decide)]; exact Ev.now _
  have len0 : ∀ v : Nat, ((digB 10000 v).length : Int) = 0 ↔ v = 0 := fun v => by
    rw [← digB_nil v]
    constructor
    · intro h; exact List.eq_nil_of_length_eq_zero (by omega)
    · intro h; rw [h]; rfl
  by_cases hx0 : x = 0
  · refine Ev.congr (fun k => ?_) (zero (Or.inl hx0))
    unfold r3M.f; rw [if_pos ((len0 x).2 hx0)]
  · by_cases hy0 : y = 0
    · refine Ev.congr (fun k => ?_) (zero (Or.inr hy0))
      unfold r3M.f; rw [if_neg (fun h => hx0 ((len0 x).1 h)), show (((digB 10000 y).length : Int) == 0) = true from beq_iff_eq.2 ((len0 y).2 hy0)]
    · have hg : 0 < Nat.gcd x y := Nat.gcd_pos_of_pos_left _ (by omega)
      have hgl : (digB 10000 (Nat.gcd x y)).length ≤ 800000 := Nat.le_trans (T_len_le (Nat.gcd_le_left _ (by omega))) hx
      have e : ratN n x y = (n, x / Nat.gcd x y, y / Nat.gcd x y) := by unfold ratN; rw [if_neg (by omega)]
      rw [e]
      have d1 := divmod_ev hx hgl hg
      have d2 := divmod_ev hy hgl hg
      refine Ev.congr (f := fun k => r3M.j0 k n (digB 10000 x) (digB 10000 y) false) (fun k => ?_) (Ev.step (f := fun k => (fluxionref02_Gcd.f k (digB 10000 x) (digB 10000 y)).bind fun t221 => (r2DM.f k (digB 10000 x) t221).bind fun bt224 => (r2DM.f k (digB 10000 y) t221).bind fun bt230 => some (n, bt224.1, bt230.1)) (fun k => ?_) (Ev.bind (gcd_ev hx hy) (Ev.bind d1 (Ev.bind d2 (Ev.now _)))))
      · unfold r3M.f; rw [if_neg (fun h => hx0 ((len0 x).1 h)), show (((digB 10000 y).length : Int) == 0) = false by rw [beq_eq_false_iff_ne]; exact fun h => hy0 ((len0 y).1 h)]
      · simp only [r3M.j0]; rw [if_neg (by decide)]
theorem ofR_ev {n : Bool} {a b : List Int} (da : DigB 4294967296 a) (db : DigB 4294967296 b) (la : a.length ≤ 100000) (lb : b.length ≤ 100000) : Ev (fun k => r3Of.f k n a b) (ratL 10000 (ratN n (valB 4294967296 a) (valB 4294967296 b))) := by
  have l1 := T_len (valB_lt 4294967296 a da)
  have l2 := T_len (valB_lt 4294967296 b db)
  have h := Ev.bind (of_ev da la) (f := fun k t238 => (r1Of.f k b).bind fun t241 => (r3M.f k n t238 t241).bind fun bt244 => some (bt244.1, bt244.2.1, bt244.2.2)) (Ev.bind (of_ev db lb) (Ev.bind (make_ev (n := n) (by omega) (by omega)) (Ev.now _)))
  exact h
end Go.Proofs.YthppjdmkinbccaaGreatDoor.Ref

namespace Go.Proofs.YthppjdmkinbccaaGreatDoor.Base
open Go.RowKit Go.Proofs.YthppjdmkinbccaaGreatDoorW.PrintWords Go.Proofs.YthppjdmkinbccaaGreatDoorW.PrintLast Go.Proofs.YthppjdmkinbccaaGreatDoor.Print
set_option linter.unusedVariables false
set_option linter.unusedSimpArgs false
set_option maxRecDepth 100000 in
theorem known_ev : kn9.f 3 = some true := by decide +kernel
theorem known_evK : ∀ k, 3 ≤ k → kn9.f k = some true := by
  intro k hk
  induction k with
  | zero => omega
  | succ n ih =>
    rcases Nat.lt_or_ge n 3 with h | h
    · obtain rfl : n = 2 := by omega
      exact known_ev
    · exact kn9.mono n true (ih h)
end Go.Proofs.YthppjdmkinbccaaGreatDoor.Base

namespace Go.Proofs.YthppjdmkinbccaaGreatDoor.Ref
open Go.RowKit Go.Proofs.YthppjdmkinbccaaGreatDoorW.PrintWords Go.Proofs.YthppjdmkinbccaaGreatDoorW.PrintLast Go.Proofs.YthppjdmkinbccaaGreatDoor.Print Go.Proofs.YthppjdmkinbccaaGreatDoor.Base
set_option linter.unusedVariables false
set_option linter.unusedSimpArgs false
theorem known_Ev : Ev (fun k => kn9.f k) true := ⟨3, known_evK⟩
theorem wf_ok {l : List Int} (hl : l.length ≤ 1048576) (h : ∀ x ∈ l, (Lit.int .u32 x).wf = true) : okN l = true :=
  okN_iff.2 ⟨hl, fun d hd => by
    have := h d hd
    simp [Lit.wf, IntKind.min, IntKind.max, IntKind.signed, IntKind.bits] at this
    omega⟩
theorem nat_f {l : List Int} (h : okN l = true) : digits_Nat.f l = some (decB (valB 4294967296 l)) := by unfold digits_Nat.f; rw [if_pos h]
theorem cmp_f {a b : List Int} (h : okN a = true) (k : okN b = true) : nat_Cmp.f a b = some (cmpN (valB 4294967296 a) (valB 4294967296 b)) := by unfold nat_Cmp.f; rw [if_pos ⟨h, k⟩]
theorem decB_list (u : Nat) : (decB u).toList = Lib.decDigits u := by rw [ByteArray.toList_eq]; rfl
theorem bA_list (l : List UInt8) : (bA l).data.toList = l := by simp [bA]
theorem bA_toList (l : List UInt8) : (bA l).toList = l := by rw [ByteArray.toList_eq]; exact bA_list l
theorem bA_dec (v : Nat) : decB v = bA (Lib.decDigits v) := rfl
theorem dec_len {x n : Nat} (h : x < 4294967296 ^ n) : (Lib.decDigits x).length ≤ 10 * n + 1 := by
  refine (padD_dec (10 * n) x (Nat.lt_of_lt_of_le h ?_)).1
  rw [Nat.pow_succ, Nat.pow_mul]
  exact Nat.le_trans (Nat.pow_le_pow_left (by decide) n) (Nat.le_mul_of_pos_right _ (by decide))
theorem okD {v m : Nat} (h : v < 4294967296 ^ m) (hm : m ≤ 1000000) : okN (digB 4294967296 v) = true := okN_digB h (by omega)
theorem valD (v : Nat) : valB 4294967296 (digB 4294967296 v) = v := digB_val _ (by decide) v
end Go.Proofs.YthppjdmkinbccaaGreatDoor.Ref

namespace Go.Proofs.YthppjdmkinbccaaGreatDoor.Print
open Go.RowKit Go.Proofs.YthppjdmkinbccaaGreatDoorW.PrintWords Go.Proofs.YthppjdmkinbccaaGreatDoorW.PrintLast Go.Proofs.YthppjdmkinbccaaGreatDoorW.PrintMore
attribute [local go_sem] max2_int min2_int max_two min_two max_three min_three max_four min_four   -- for this text's walks alone
set_option linter.unusedVariables false
set_option linter.unusedSimpArgs false
def fluxionref04_cut.l0 : Nat → ByteArray → Int → Option (ByteArray × ByteArray × Bool)
 | 0, _, _ => none
 | k + 1, x0, x5 => if x5 < (x0.size : Int) then (if 0 ≤ x5 then (if (bt x0 x5) = 47 then (if x5 ≤ (x0.size : Int) then (if 0 ≤ (wrap64 (x5 + 1)) then (if (wrap64 (x5 + 1)) ≤ (x0.size : Int) then (some (x0.extract 0 (x5 : Int).toNat, x0.extract ((wrap64 (x5 + 1)) : Int).toNat x0.size, true)) else (none)) else (none)) else (none)) else (fluxionref04_cut.l0 k x0 (wrap64 (x5 + 1)))) else (none)) else (some (x0, (⟨#[]⟩ : ByteArray), false))
def fluxionref04_cut.f (k : Nat) (a0 : ByteArray) : Option (ByteArray × ByteArray × Bool) := fluxionref04_cut.l0 k a0 0
end Go.Proofs.YthppjdmkinbccaaGreatDoor.Print

namespace Go.Proofs.YthppjdmkinbccaaGreatDoor.Print
open Go.RowKit Go.Proofs.YthppjdmkinbccaaGreatDoorW.PrintWords Go.Proofs.YthppjdmkinbccaaGreatDoorW.PrintLast Go.Proofs.YthppjdmkinbccaaGreatDoorW.PrintMore
attribute [local go_sem] max2_int min2_int max_two min_two max_three min_three max_four min_four   -- for this text's walks alone
set_option linter.unusedVariables false
set_option linter.unusedSimpArgs false
mutual
def r4PR.j0 : Nat → ByteArray → Bool → Option (Bool × List Int × List Int × Int)
 | 0, _, _ => none
 | k + 1, x0, x4 => if x4 = true then (if 1 ≤ (x0.size : Int) then (r4PR.j1 k x0 x4 (x0.extract 1 x0.size)) else (none)) else (r4PR.j1 k x0 x4 x0)
def r4PR.j1 : Nat → ByteArray → Bool → ByteArray → Option (Bool × List Int × List Int × Int)
 | 0, _, _, _ => none
 | k + 1, x0, x4, x5 => (fluxionref04_cut.f k x5).bind fun bt275 => (if bt275.2.2 = true then (r4PR.j2 k x0 x4 bt275.1 bt275.2.1) else (r4PR.j2 k x0 x4 bt275.1 (⟨#[49]⟩ : ByteArray)))
def r4PR.j2 : Nat → ByteArray → Bool → ByteArray → ByteArray → Option (Bool × List Int × List Int × Int)
 | 0, _, _, _, _ => none
 | k + 1, x0, x4, x6, x7 => (r4nat.f k x6).bind fun t278 => (if t278 = true then ((r4nat.f k x7).bind fun t279 => (r4PR.j3 k x0 x4 x6 x7 (!t279))) else (r4PR.j3 k x0 x4 x6 x7 true))
def r4PR.j3 : Nat → ByteArray → Bool → ByteArray → ByteArray → Bool → Option (Bool × List Int × List Int × Int)
 | 0, _, _, _, _, _ => none
 | k + 1, x0, x4, x6, x7, x41 => if x41 = true then (some (false, ([] : List Int), ([] : List Int), 19)) else ((r4PN.f k x6).bind fun bt280 => ((r4PN.f k x7).bind fun bt284 => (if bt280.2 = 0 then (r4PR.j4 k x0 x4 bt280.1 bt284.1 (bt284.2 != 0)) else (r4PR.j4 k x0 x4 bt280.1 bt284.1 true))))
def r4PR.j4 : Nat → ByteArray → Bool → List Int → List Int → Bool → Option (Bool × List Int × List Int × Int)
 | 0, _, _, _, _, _ => none
 | k + 1, x0, x4, x9, x11, x58 => if x58 = true then (some (false, ([] : List Int), ([] : List Int), 14)) else ((r3M.f k x4 x9 x11).bind fun bt288 => ((r4R.f k bt288.1 bt288.2.1 bt288.2.2).bind fun t296 => (if t296.toList = x0.toList then (some (bt288.1, bt288.2.1, bt288.2.2, 0)) else (some (false, ([] : List Int), ([] : List Int), 6)))))
end
end Go.Proofs.YthppjdmkinbccaaGreatDoor.Print

namespace Go.Proofs.YthppjdmkinbccaaGreatDoor.Ref
open Go.RowKit Go.Proofs.YthppjdmkinbccaaGreatDoorW.PrintWords Go.Proofs.YthppjdmkinbccaaGreatDoorW.PrintLast Go.Proofs.YthppjdmkinbccaaGreatDoor.Print Go.Proofs.YthppjdmkinbccaaGreatDoor.Base
set_option linter.unusedVariables false
set_option linter.unusedSimpArgs false
def sgn (n : Bool) : List UInt8 := if n = true then [45] else []
def tailR (q : Nat) : List UInt8 := if q = 1 then [] else 47 :: Lib.decDigits q
def txt (r : Bool × Nat × Nat) : List UInt8 := sgn r.1 ++ (Lib.decDigits r.2.1 ++ tailR r.2.2)
theorem ratN_lt {n : Bool} {x y m : Nat} (hx : x < 4294967296 ^ m) (hy : y < 4294967296 ^ m) (hm : 1 ≤ m) : (ratN n x y).2.1 < 4294967296 ^ m ∧ (ratN n x y).2.2 < 4294967296 ^ m := by
  have h1 : (1 : Nat) < 4294967296 ^ m := Nat.lt_of_lt_of_le (show 1 < 4294967296 ^ 1 by decide) (Nat.pow_le_pow_right (by decide) hm)
  unfold ratN
  split
  · exact ⟨Nat.lt_trans Nat.zero_lt_one h1, h1⟩
  · exact ⟨Nat.lt_of_le_of_lt (Nat.div_le_self _ _) hx, Nat.lt_of_le_of_lt (Nat.div_le_self _ _) hy⟩
theorem of1_f : nat_Of.f 1 = some (digB 4294967296 1) := by decide +kernel
theorem norm_f {n : Bool} {a b : List Int} (ha : okN a = true) (hb : okN b = true) (la : a.length ≤ 1048000) (lb : b.length ≤ 1048000) : rat_Norm.f n a b = some (ratL 4294967296 (ratN n (valB 4294967296 a) (valB 4294967296 b))) := by
  have h1 : digB 4294967296 1 = [1] := digB_small (by decide) (by decide) (by decide)
  have h0 : digB 4294967296 0 = [] := digB_zero _ (by decide)
  unfold rat_Norm.f rat_Make.f ratN ratL
  rw [if_pos ⟨ha, hb, la, lb⟩]
  by_cases y0 : valB 4294967296 b = 0
  · rw [if_pos y0, if_pos (Or.inr y0), Option.bind_some, if_neg (by decide)]
    unfold rat_one.f
    rw [of1_f, h0, h1]; rfl
  · rw [if_neg y0]
    by_cases x0 : valB 4294967296 a = 0
    · rw [if_pos x0, if_pos (Or.inl x0), h0, h1]; rfl
    · rw [if_neg x0, if_neg (by omega)]; rfl
theorem ratP_ev {n : Bool} {a b : List Int} {m : Nat} (ha : okN a = true) (hb : okN b = true) (la : a.length ≤ m) (lb : b.length ≤ m) (hm : 1 ≤ m) (hm2 : m ≤ 1000000) : Ev (fun k => digits_Rat.f k n a b) (bA (txt (ratN n (valB 4294967296 a) (valB 4294967296 b)))) := by
  have hx := Nat.lt_of_lt_of_le (valB_lt 4294967296 a (okN_iff.1 ha).2) (Nat.pow_le_pow_right (by decide) la)
  have hy := Nat.lt_of_lt_of_le (valB_lt 4294967296 b (okN_iff.1 hb).2) (Nat.pow_le_pow_right (by decide) lb)
  obtain ⟨hp, hq⟩ := ratN_lt (n := n) hx hy hm
  have hn := norm_f (n := n) ha hb (by omega) (by omega)
  generalize ratN n (valB 4294967296 a) (valB 4294967296 b) = r at hp hq hn ⊢
  obtain ⟨s, p, q⟩ := r
  have l1 := dec_len hp
  have l2 := dec_len hq
  have fp := nat_f (okD hp (by omega))
  have fq := nat_f (okD hq (by omega))
  rw [valD] at fp fq
  have cq := cmp_f (okD hq (by omega)) (okD (v := 1) (m := 1) (by decide) (by decide))
  rw [valD, valD] at cq
  simp only [] at l1 l2 fp fq cq
  have tl : ∀ t : List UInt8, t.length ≤ 20000000 → Ev (fun k => digits_Rat.j0 k (bA t) s (digB 4294967296 p) (digB 4294967296 q)) (bA (t ++ tailR q)) := by
    intro t ht
    refine Ev.step (f := fun _ => some (bA (t ++ tailR q))) (fun k => ?_) (Ev.now _)
    simp only [digits_Rat.j0]
    rw [of1_f, Option.bind_some, cq, Option.bind_some]
    unfold cmpN tailR
    by_cases h1 : q = 1
    · subst h1
      rw [if_pos (by simp), if_pos rfl, List.append_nil]
    · rw [if_neg (by split; · omega
                     · rw [if_pos (by omega)]; omega), fq, Option.bind_some, if_neg h1, bA_dec]
      rw [show (⟨#[47]⟩ : ByteArray) = bA [47] from rfl, bA_append, bA_append, bA_size, bA_size, bA_size]
      rw [if_pos (by omega), if_pos (by simp; omega)]; rfl
  have e0 : ∀ k, digits_Rat.f k n a b = (if s = true then digits_Rat.j0 k (bA (sgn true ++ Lib.decDigits p)) s (digB 4294967296 p) (digB 4294967296 q) else digits_Rat.j0 k (bA (Lib.decDigits p)) s (digB 4294967296 p) (digB 4294967296 q)) := by
    intro k
    unfold digits_Rat.f
    rw [hn, Option.bind_some]
    show (digits_Nat.f (digB 4294967296 p)).bind _ = _
    rw [fp, Option.bind_some, bA_dec]
    show (if s = true then _ else _) = _
    by_cases hs : s = true
    · rw [if_pos hs, if_pos hs, bA_size, if_pos (by omega), show (⟨#[45]⟩ : ByteArray) = bA [45] from rfl, bA_append]; rfl
    · rw [if_neg hs, if_neg hs]; rfl
  refine Ev.congr e0 ?_
  cases s with
  | true =>
    have := tl (sgn true ++ Lib.decDigits p) (by simp [sgn]; omega)
    rw [List.append_assoc] at this
    exact this
  | false => exact tl (Lib.decDigits p) (by omega)
def splitS : List UInt8 → List UInt8 × List UInt8 × Bool
  | [] => ([], [], false)
  | c :: r => if c = 47 then ([], r, true) else (c :: (splitS r).1, (splitS r).2.1, (splitS r).2.2)
theorem splitS_two : ∀ (a b : List UInt8), (∀ c ∈ a, c ≠ 47) → splitS (a ++ 47 :: b) = (a, b, true)
  | [], b, _ => by unfold splitS; rw [List.nil_append]; simp
  | c :: r, b, h => by
    have ih := splitS_two r b (fun x hx => h x (List.mem_cons_of_mem _ hx))
    rw [List.cons_append]
    unfold splitS
    rw [if_neg (h c (List.mem_cons_self ..)), ih]
theorem splitS_one : ∀ (a : List UInt8), (∀ c ∈ a, c ≠ 47) → splitS a = (a, [], false)
  | [], _ => rfl
  | c :: r, h => by
    have ih := splitS_one r (fun x hx => h x (List.mem_cons_of_mem _ hx))
    unfold splitS
    rw [if_neg (h c (List.mem_cons_self ..)), ih]
def negS (l : List UInt8) : Bool := l.head? == some 45
def restS (l : List UInt8) : List UInt8 := if negS l = true then l.drop 1 else l
theorem strip_of (n : Bool) (t : List UInt8) (h : t.head? ≠ some 45) : negS (sgn n ++ t) = n ∧ restS (sgn n ++ t) = t := by
  unfold restS negS sgn
  cases n with
  | true => exact ⟨rfl, rfl⟩
  | false =>
    have e : (t.head? == some 45) = false := by rw [beq_eq_false_iff_ne]; exact h
    rw [if_neg (by decide), List.nil_append, e]
    exact ⟨rfl, rfl⟩
theorem dec_not {v : Nat} : (∀ c ∈ Lib.decDigits v, c ≠ 47) ∧ (∀ t, (Lib.decDigits v ++ t).head? ≠ some 45) := by
  have hd := dec_dig v
  have h47 : (47 : UInt8).toNat = 47 := rfl
  have h45 : (45 : UInt8).toNat = 45 := rfl
  refine ⟨fun c hc e => ?_, fun t => ?_⟩
  · have := hd c hc
    rw [e] at this; omega
  · cases hv : Lib.decDigits v with
    | nil => exact absurd hv (dec_ne v)
    | cons c r =>
      intro e
      have e2 : c = 45 := by simpa using e
      have := hd c (by rw [hv]; exact List.mem_cons_self ..)
      rw [e2] at this; omega
theorem txt_parts (n : Bool) (p q : Nat) : negS (txt (n, p, q)) = n ∧ splitS (restS (txt (n, p, q))) = (Lib.decDigits p, if q = 1 then [] else Lib.decDigits q, decide (q ≠ 1)) := by
  obtain ⟨h1, h2⟩ := strip_of n (Lib.decDigits p ++ tailR q) (dec_not.2 _)
  refine ⟨h1, ?_⟩
  show splitS (restS (sgn n ++ (Lib.decDigits p ++ tailR q))) = _
  rw [h2]
  unfold tailR
  by_cases h : q = 1
  · rw [if_pos h, if_pos h, List.append_nil, splitS_one _ dec_not.1, decide_eq_false (by simpa using h)]
  · rw [if_neg h, if_neg h, splitS_two _ _ dec_not.1, decide_eq_true h]
theorem txt_inj {r s : Bool × Nat × Nat} (h : txt r = txt s) : r = s := by
  obtain ⟨n, p, q⟩ := r
  obtain ⟨m, x, y⟩ := s
  obtain ⟨a1, a2⟩ := txt_parts n p q
  obtain ⟨b1, b2⟩ := txt_parts m x y
  rw [h] at a1 a2
  rw [b1] at a1
  rw [b2] at a2
  simp only [Prod.mk.injEq] at a2
  obtain ⟨c1, c2, c3⟩ := a2
  have e1 := dec_inj c1
  have e2 : y = q := by
    by_cases hy : y = 1
    · rw [decide_eq_false (by simpa using hy)] at c3
      have := of_decide_eq_false c3.symm
      omega
    · rw [decide_eq_true hy] at c3
      have hq := of_decide_eq_true c3.symm
      rw [if_neg hy, if_neg hq] at c2
      exact dec_inj c2
  rw [a1, e1, e2]
end Go.Proofs.YthppjdmkinbccaaGreatDoor.Ref

namespace Go.Proofs.YthppjdmkinbccaaGreatDoor.Pure
open Go.RowKit Go.Proofs.YthppjdmkinbccaaGreatDoorW.PrintWords Go.Proofs.YthppjdmkinbccaaGreatDoorW.PrintLast Go.Proofs.YthppjdmkinbccaaGreatDoor.Print Go.Proofs.YthppjdmkinbccaaGreatDoor.Base Go.Proofs.YthppjdmkinbccaaGreatDoor.Ref
set_option linter.unusedVariables false
set_option linter.unusedSimpArgs false
theorem cmp0 (x y : Nat) : (cmpN x y = 0) ↔ x = y := by
  unfold cmpN
  constructor
  · intro h
    rcases Nat.lt_trichotomy x y with c | c | c
    · rw [if_pos c] at h; cases h
    · exact c
    · rw [if_neg (by omega), if_pos c] at h; cases h
  · intro h; rw [if_neg (by omega), if_neg (by omega)]
theorem same_ev {n m : Bool} {a b c d : List Int} (da : DigB 4294967296 a) (db : DigB 4294967296 b) (dc : DigB 4294967296 c) (dd : DigB 4294967296 d) (la : a.length ≤ 8) (lb : b.length ≤ 8) (lc : c.length ≤ 8) (ld : d.length ≤ 8) :
    Ev (fun k => fluxionref03_Same.f k n a b m c d) (decide (ratN n (valB 4294967296 a) (valB 4294967296 b) = ratN m (valB 4294967296 c) (valB 4294967296 d))) := by
  have o1 := ofR_ev (n := n) da db (by omega) (by omega)
  have o2 := ofR_ev (n := m) dc dd (by omega) (by omega)
  have hx := Nat.lt_of_lt_of_le (valB_lt 4294967296 a da) (Nat.pow_le_pow_right (by decide) la)
  have hy := Nat.lt_of_lt_of_le (valB_lt 4294967296 b db) (Nat.pow_le_pow_right (by decide) lb)
  obtain ⟨hp, hq⟩ := ratN_lt (n := n) hx hy (by decide)
  generalize ratN n (valB 4294967296 a) (valB 4294967296 b) = r at o1 hp hq ⊢
  generalize ratN m (valB 4294967296 c) (valB 4294967296 d) = s at o2 ⊢
  obtain ⟨n1, p1, q1⟩ := r
  obtain ⟨n2, p2, q2⟩ := s
  simp only [] at hp hq
  have c1 := cmp_ev p1 p2 (by have := T_len hp; omega)
  have c2 := cmp_ev q1 q2 (by have := T_len hq; omega)
  refine Ev.congr (fun k => rfl) (Ev.bind o1 (f := fun (k : Nat) (bt103 : Bool × List Int × List Int) => (r3Of.f k m c d).bind fun bt110 => if (bt103.1 == bt110.1) = true then ((r1Cmp.f k bt103.2.1 bt110.2.1).bind fun t119 => if t119 = 0 then ((r1Cmp.f k bt103.2.2 bt110.2.2).bind fun t120 => some (t120 == 0)) else some false) else some false) (Ev.bind o2 ?_))
  unfold ratL
  simp only []
  by_cases h1 : n1 = n2
  · subst h1
    refine Ev.congr (f := fun k => (r1Cmp.f k (digB 10000 p1) (digB 10000 p2)).bind fun t119 => if t119 = 0 then ((r1Cmp.f k (digB 10000 q1) (digB 10000 q2)).bind fun t120 => some (t120 == 0)) else some false) (fun k => by rw [if_pos (by simp)]) (Ev.bind c1 ?_)
    by_cases h2 : p1 = p2
    · subst h2
      refine Ev.congr (f := fun k => (r1Cmp.f k (digB 10000 q1) (digB 10000 q2)).bind fun t120 => some (t120 == 0)) (fun k => by rw [if_pos ((cmp0 _ _).2 rfl)]) (Ev.bind c2 ?_)
      have : (cmpN q1 q2 == 0) = decide ((n1, p1, q1) = (n1, p1, q2)) := by
        rw [Bool.eq_iff_iff, beq_iff_eq, cmp0, decide_eq_true_iff]
        simp
      rw [this]; exact Ev.now _
    · refine Ev.congr (f := fun _ => some false) (fun k => by rw [if_neg (fun e => h2 ((cmp0 _ _).1 e))]) ?_
      rw [decide_eq_false (by simp [h2])]; exact Ev.now _
  · refine Ev.congr (f := fun _ => some false) (fun k => by rw [if_neg (by simpa using h1)]) ?_
    rw [decide_eq_false (by simp [h1])]; exact Ev.now _
theorem beq_dec {α : Type} [BEq α] [LawfulBEq α] {x y : α} {p : Prop} [Decidable p] (h : x = y ↔ p) : ((x == y) == decide p) = true := by
  rw [beq_iff_eq, Bool.eq_iff_iff, beq_iff_eq, h, decide_eq_true_iff]
theorem DigitsUnlike (n : Bool) (a b : List Int) (m : Bool) (c d : List Int) (w1 : ∀ x ∈ a, (Lit.int .u32 x).wf = true) (w2 : ∀ x ∈ b, (Lit.int .u32 x).wf = true) (w3 : ∀ x ∈ c, (Lit.int .u32 x).wf = true) (w4 : ∀ x ∈ d, (Lit.int .u32 x).wf = true) :
    ∃ k, fluxionlaw04_DigitsUnlike.f k n a b m c d = some true := by
  refine Ev.rounds (r := true) ?_
  have hk : Ev (fun k => (kn9.f k).bind fun t => some t) true := Ev.bind known_Ev (Ev.now _)
  have kn : Ev (fun k => fluxionlaw04_DigitsUnlike.j0 k true n a b m c d) true := Ev.step (fun k => rfl) hk
  by_cases h1 : (a.length : Int) > 8
  · refine Ev.congr (fun k => ?_) kn
    unfold fluxionlaw04_DigitsUnlike.f; rw [if_pos h1]
  · by_cases h2 : (b.length : Int) > 8
    · refine Ev.congr (fun k => ?_) kn
      unfold fluxionlaw04_DigitsUnlike.f; rw [if_neg h1, if_pos h2]
    · by_cases h3 : (c.length : Int) > 8
      · refine Ev.congr (fun k => ?_) kn
        unfold fluxionlaw04_DigitsUnlike.f; rw [if_neg h1, if_neg h2, if_pos h3]
      · by_cases h4 : (d.length : Int) > 8
        · refine Ev.congr (fun k => ?_) kn
          unfold fluxionlaw04_DigitsUnlike.f; rw [if_neg h1, if_neg h2, if_neg h3, decide_eq_true h4]
        · have oa := Ref.wf_ok (by omega) w1
          have ob := Ref.wf_ok (by omega) w2
          have oc := Ref.wf_ok (by omega) w3
          have od := Ref.wf_ok (by omega) w4
          have p1 := ratP_ev (n := n) oa ob (m := 8) (by omega) (by omega) (by decide) (by decide)
          have p2 := ratP_ev (n := m) oc od (m := 8) (by omega) (by omega) (by decide) (by decide)
          have sm := same_ev (n := n) (m := m) (okN_iff.1 oa).2 (okN_iff.1 ob).2 (okN_iff.1 oc).2 (okN_iff.1 od).2 (by omega) (by omega) (by omega) (by omega)
          have f1 := of_ev (okN_iff.1 oa).2 (by omega)
          have f2 := of_ev (okN_iff.1 oc).2 (by omega)
          have hx := valB_lt 4294967296 a (okN_iff.1 oa).2
          have cc := cmp_ev (valB 4294967296 a) (valB 4294967296 c) (by have := T_len hx; omega)
          have fa := Ref.nat_f oa
          have fc := Ref.nat_f oc
          generalize ratN n (valB 4294967296 a) (valB 4294967296 b) = r at p1 sm
          generalize ratN m (valB 4294967296 c) (valB 4294967296 d) = s at p2 sm
          generalize valB 4294967296 a = x at f1 cc fa
          generalize valB 4294967296 c = y at f2 cc fc
          have t1 : (((bA (txt r)).toList == (bA (txt s)).toList) == decide (r = s)) = true := by
            refine beq_dec ?_
            rw [bA_toList, bA_toList]
            exact ⟨txt_inj, fun e => by rw [e]⟩
          have t2 : (((decB x).toList == (decB y).toList) == (cmpN x y == 0)) = true := by
            rw [show (cmpN x y == 0) = decide (x = y) by rw [Bool.eq_iff_iff, beq_iff_eq, cmp0, decide_eq_true_iff]]
            refine beq_dec ?_
            rw [decB_list, decB_list]
            exact ⟨dec_inj, fun e => by rw [e]⟩
          refine Ev.congr (f := fun k => fluxionlaw04_DigitsUnlike.j0 k false n a b m c d) (fun k => ?_) ?_
          · unfold fluxionlaw04_DigitsUnlike.f; rw [if_neg h1, if_neg h2, if_neg h3, decide_eq_false h4]
          · refine Ev.step (f := fun k => (digits_Rat.f k n a b).bind fun t104 => (digits_Rat.f k m c d).bind fun t105 => (fluxionref03_Same.f k n a b m c d).bind fun t106 => if ((t104.toList == t105.toList) == t106) = true then ((r1Of.f k a).bind fun t109 => (r1Of.f k c).bind fun t112 => (r1Cmp.f k t109 t112).bind fun t115 => if (((decB x).toList == (decB y).toList) == (t115 == 0)) = true then ((kn9.f k).bind fun t116 => some t116) else none) else none) (fun k => ?_) (Ev.bind p1 (Ev.bind p2 (Ev.bind sm ?_)))
            · simp only [fluxionlaw04_DigitsUnlike.j0]
              rw [if_neg (by decide)]
              simp only [fa, fc, Option.bind_some]
            · refine Ev.congr (f := fun k => (r1Of.f k a).bind fun t109 => (r1Of.f k c).bind fun t112 => (r1Cmp.f k t109 t112).bind fun t115 => if (((decB x).toList == (decB y).toList) == (t115 == 0)) = true then ((kn9.f k).bind fun t116 => some t116) else none) (fun k => by rw [if_pos t1]) (Ev.bind f1 (Ev.bind f2 (Ev.bind cc ?_)))
              exact Ev.congr (fun k => by rw [if_pos t2]) hk
end Go.Proofs.YthppjdmkinbccaaGreatDoor.Pure

namespace Go.Proofs.YthppjdmkinbccaaGreatDoor.Print
open Go.ChangeShapes Go.WideShapes Go.ChangeAt Go.RowKit Go.Proofs.YthppjdmkinbccaaGreatDoorW.PrintWords
set_option linter.unusedVariables false
def IsRowU (k : IntKind) (w : World) (a : Option Addr) (len cap : Nat) (zs : List Int) : Prop :=
  (a = none ∧ len = 0 ∧ cap = 0 ∧ zs = []) ∨
  ∃ x, a = some x ∧ len ≤ cap ∧ cap ≤ maxLen ∧ zs.length = cap ∧ (∀ i, i < zs.length → w.cell? (x.add i) = some (.int k (zs.getD i 0))) ∧ ∀ n ∈ zs, (Lit.int k n).wf = true
theorem sized_parts {H : Type} {P : Program} {t : TypeId} {fs : Array Field} {ts : List TypeId} {ds : List (DataW H)} {j : Nat} {parts : List (DataW H)}
    (hsz : (DataW.weightsEach P ts ds).all (· ≤ reachBytes) = true) (ht : ts[j]? = some t) (hd : ds[j]? = some (.agg parts)) (hu : P.underlying t = some (.struct fs)) :
    (DataW.weightsEach P (fs.toList.map (·.type)) parts).all (· ≤ reachBytes) = true := by
  rw [List.all_eq_true] at hsz ⊢
  intro n hn
  refine hsz n (DataW.weights_mem_each ht hd n ?_)
  simp only [DataW.weights, hu]
  exact hn
structure InNat (W : World) (v : Value) (A : Option Addr) (c : Nat) (l : List Int) : Prop where
  eq : v = .slice A l.length c
  cells : Kd.C (Kd.int .u32) W A l.length l
  cap : l.length ≤ c
  max : l.length ≤ maxLen
  size : l.length * 4 ≤ 140737488351232
  wf : ∀ x ∈ l, (Lit.int .u32 x).wf = true
section
variable {H : Type} {enc : TypeId × Value → H} {W : World}
theorem open_nat {v : Value} {d : DataW H} {p : List MemPlace} {ts : List TypeId} {ds : List (DataW H)} {j : Nat} (hsz : (DataW.weightsEach Tryz.prog ts ds).all (· ≤ reachBytes) = true) (ht : ts[j]? = some 23) (hd : ds[j]? = some d)
    (hv : ∃ A len cap, v = .slice A len cap) (h : DataW.Trod enc Tryz.prog W 0 (fun _ => true) true 23 v d p) : ∃ A c l, InNat W v A c l := by
  obtain ⟨a0, len0, cap0, rfl⟩ := hv
  obtain ⟨z0, w0⟩ : ∃ zs, IsRowU .u32 W a0 len0 cap0 zs := by
    obtain ⟨fuel, hf⟩ := h
    rcases open_ints Tryz.underlying23 Tryz.underlying56 (by kernel_rfl) hf with ⟨hcs, _⟩ | ⟨x, l, c, zs, hcs, _, hl, hm, hz, _, hcell, hwz⟩
    · simp [Value.cells] at hcs
      obtain ⟨rfl, rfl, rfl⟩ := hcs
      exact ⟨[], .inl ⟨rfl, rfl, rfl, rfl⟩⟩
    · simp [Value.cells] at hcs
      obtain ⟨rfl, rfl, rfl⟩ := hcs
      exact ⟨zs, .inr ⟨_, rfl, hl, hm, by simpa using hz, hcell, hwz⟩⟩
  have y0 : len0 * 4 ≤ 140737488351232 := sized_ints hsz ht hd Tryz.underlying23 Tryz.underlying56 (by kernel_rfl) (by kernel_rfl) h
  obtain ⟨l0, rfl, hr0, hm0, hw0, hc0⟩ := ReadsInt.ofRowC w0
  exact ⟨_, _, l0, rfl, Kd.C_of_reads (d := (0 : Int)) (h1 := fun _ => rfl) hr0, hc0, hm0, y0, hw0⟩
set_option maxRecDepth 100000 in
theorem open_rat {r : Reach} {b0 : Nat} {v : Value} {d : DataW H} {p : List MemPlace} {ts : List TypeId} {ds : List (DataW H)} {j : Nat} (hsz : (DataW.weightsEach Tryz.prog ts ds).all (· ≤ reachBytes) = true) (ht : ts[j]? = some 35) (hd : ds[j]? = some d)
    (hv : Value.okWide Tryz.prog W r b0 35 v) (h : DataW.Trod enc Tryz.prog W 0 (fun _ => true) true 35 v d p) :
    ∃ (o : Bool) (v1 v2 : Value) (A1 : Option Addr) (c1 : Nat) (l1 : List Int) (A2 : Option Addr) (c2 : Nat) (l2 : List Int), v = .agg #[.bool o, v1, v2] ∧ InNat W v1 A1 c1 l1 ∧ InNat W v2 A2 c2 l2 := by
  obtain ⟨u0, u1, u2, y0, y1, y2, n, rfl, rfl, rfl, h0, h1, h2⟩ := Go.Joins.open_agg3 Tryz.underlying35 (by kernel_rfl) (by kernel_rfl) hv h
  have hsf := sized_parts hsz ht hd Tryz.underlying35
  obtain ⟨o, ho, hy0⟩ := DataW.trod_bool Tryz.underlying4 h0
  obtain ⟨a1, m1, q1, e1⟩ := Go.Joins.slice_form Tryz.underlying23 h1
  obtain ⟨a2, m2, q2, e2⟩ := Go.Joins.slice_form Tryz.underlying23 h2
  obtain rfl : u0 = .bool o := by simpa using ho
  obtain rfl : u1 = .slice a1 m1 q1 := by simpa using e1
  obtain rfl : u2 = .slice a2 m2 q2 := by simpa using e2
  obtain ⟨A1, k1, l1, r1⟩ := open_nat (enc := enc) (W := W) (v := .slice a1 m1 q1) (d := y1.1) (p := y1.2) hsf (j := 1) rfl rfl ⟨_, _, _, rfl⟩ ⟨n, by simpa [Value.cells] using h1⟩
  obtain ⟨A2, k2, l2, r2⟩ := open_nat (enc := enc) (W := W) (v := .slice a2 m2 q2) (d := y2.1) (p := y2.2) hsf (j := 2) rfl rfl ⟨_, _, _, rfl⟩ ⟨n, by simpa [Value.cells] using h2⟩
  exact ⟨o, _, _, A1, k1, l1, A2, k2, l2, rfl, r1, r2⟩
end
end Go.Proofs.YthppjdmkinbccaaGreatDoor.Print

namespace Go.Proofs.YthppjdmkinbccaaGreatDoor.digitsUnlike
open Go.ChangeShapes Go.WideShapes Go.ChangeAt Go.RowKit
open Go.ChangeMaps (open_string shut_string)
set_option linter.unusedVariables false
theorem own : ownKnob Tryz.prog.godebug = none := by kernel_rfl
theorem laidOut : laidOutB Tryz.prog = true := by kernel_rfl
noncomputable abbrev W0 (os : Os) : World := World.laidAll Tryz.prog os Rows.digitsUnlikeRow.laid
theorem laid_met (os : Os) (args : Array Value) : laidMet Tryz.prog Rows.digitsUnlikeRow.laid ((W0 os).forCall (fun _ _ => 0) ⟨#[], args, []⟩).memory :=
  laidMet_laidAll args (by kernel_rfl) (by kernel_rfl)
theorem witness_row (os : Os) {H : Type} (enc : TypeId × Value → H) :
    (OpenSpec.ofChange Rows.digitsUnlikeSpec).preRow enc Tryz.prog Tryz.f7 Rows.digitsUnlikeRow.domain false Rows.digitsUnlikeRow.laid ((W0 os).forCall (fun _ _ => 0) ⟨#[], #[Value.agg #[.bool false, .slice none 0 0, .slice none 0 0], Value.agg #[.bool false, .slice none 0 0, .slice none 0 0]], []⟩).memory #[Value.agg #[.bool false, .slice none 0 0, .slice none 0 0], Value.agg #[.bool false, .slice none 0 0, .slice none 0 0]] := by
  have hw : (DataW.whole enc Tryz.prog ((W0 os).forCall (fun _ _ => 0) ⟨#[], #[Value.agg #[.bool false, .slice none 0 0, .slice none 0 0], Value.agg #[.bool false, .slice none 0 0, .slice none 0 0]], []⟩).memory Tryz.f7.params.toList (OpenSpec.ofChange Rows.digitsUnlikeSpec).vars false #[Value.agg #[.bool false, .slice none 0 0, .slice none 0 0], Value.agg #[.bool false, .slice none 0 0, .slice none 0 0]].toList 8).map (fun x => (x.1, x.2.1)) =
      some ([.agg [.lit (.bool false), .nil, .nil], .agg [.lit (.bool false), .nil, .nil]], []) := by kernel_rfl
  obtain ⟨⟨x1, x2, x3⟩, hx, hx1⟩ := Option.map_eq_some_iff.1 hw
  simp only [Prod.mk.injEq] at hx1
  obtain ⟨rfl, rfl⟩ := hx1
  exact OpenSpec.preRow_of_cond 8 hx (by kernel_rfl) (fun k hk => by cases hk) (by kernel_rfl) (laid_met os _)
set_option maxRecDepth 100000 in
theorem lifted (os : Os) (started : os.Started) (H : Type) (enc : TypeId × Value → H) (G : Stop.Interp) :
    ReturnsInHanded {} Tryz.checked os 7 .any ((OpenSpec.ofChange Rows.digitsUnlikeSpec).preRow enc Tryz.prog Tryz.f7 Rows.digitsUnlikeRow.domain false Rows.digitsUnlikeRow.laid) (((OpenSpec.ofChange Rows.digitsUnlikeSpec).at G).post enc Tryz.prog Tryz.f7 false true false false) := by
  refine returnsInHanded_of_row (C := Tryz.checked) (s := OpenSpec.ofChange Rows.digitsUnlikeSpec) own started (by kernel_rfl) Tryz.func7
    (witness_row_atRef (enc := enc) (C := Tryz.checked) false (W0 os) #[Value.agg #[.bool false, .slice none 0 0, .slice none 0 0], Value.agg #[.bool false, .slice none 0 0, .slice none 0 0]] (World.laidAll_os _ _ _) (by kernel_rfl) (by kernel_rfl) (by kernel_rfl) (witness_row os enc)) ?_
  intro W base args ds gs before hval0 hW hcnd _ hsz0 hL _ _
  have hsz : (DataW.weightsEach Tryz.prog (Tryz.f7.params.toList ++ (OpenSpec.ofChange Rows.digitsUnlikeSpec).bare.plain.varTypes Tryz.prog) (ds ++ gs)).all (· ≤ reachBytes) = true := hsz0
  have hval : ∀ (j : Nat) t v, Tryz.f7.params[j]? = some t → args[j]? = some v → Value.okWide Tryz.prog W .any base t v := hval0
  have hW' := hW
  obtain ⟨p, q, hA0, hV, rfl, hfz, hnd⟩ := hW
  have hA : DataW.TrodAll enc Tryz.prog W 0 (fun _ => true) true Tryz.f7.params.toList args.toList ds p := hA0
  rw [Tryz.params7] at hA hval hsz
  obtain ⟨v0, vs0, d0, ds0, p0, q0, hargs, rfl, rfl, h0, r0⟩ := trodAll_cons hA
  obtain ⟨v1, vs1, d1, ds1, p1, q1, rfl, rfl, rfl, h1, r1⟩ := trodAll_cons r0
  obtain ⟨rfl, rfl, rfl⟩ := trodAll_nil r1
  obtain rfl : args = #[v0, v1] := by cases args; simp_all
  obtain ⟨rfl, rfl⟩ := trodVars_none hV
  have k0 := h0
  have lt0 : ∀ x ∈ p0, x.block < W.heap.size := by obtain ⟨m, hm⟩ := k0; exact DataW.trod_lt m _ _ _ hm
  obtain ⟨o0, u0, t0, A0, c0, l0, B0, e0, m0, rfl, R0, S0⟩ := Print.open_rat hsz (j := 0) rfl rfl (hval 0 35 v0 rfl rfl) h0
  obtain rfl := R0.eq
  obtain rfl := S0.eq
  have k1 := h1
  have lt1 : ∀ x ∈ p1, x.block < W.heap.size := by obtain ⟨m, hm⟩ := k1; exact DataW.trod_lt m _ _ _ hm
  obtain ⟨o1, u1, t1, A1, c1, l1, B1, e1, m1, rfl, R1, S1⟩ := Print.open_rat hsz (j := 1) rfl rfl (hval 1 35 v1 rfl rfl) h1
  obtain rfl := R1.eq
  obtain rfl := S1.eq
  have hL' : laidMet Tryz.prog Rows.digitsUnlikeRow.laid W := hL
  have hT : Print.PowTab W := Lib.tabIs_of_head (g := 1) (t := 151) (e := 59) (n := 20) (by kernel_rfl) (by kernel_rfl) Tryz.underlying151 Tryz.underlying59 (by kernel_rfl) (by kernel_rfl) hL'.tail.tail
  clear hA0 hval0 hsz0 hsz
  obtain ⟨k, hk⟩ := Pure.DigitsUnlike o0 l0 m0 o1 l1 m1 R0.wf S0.wf R1.wf S1.wf
  refine (Print.fluxionlaw04_DigitsUnlike.calls k o0 A0 c0 l0 B0 e0 m0 o1 A1 c1 l1 B1 e1 m1 true W hT R0.cells R0.cap S0.cells S0.cap R1.cells R1.cap S1.cells S1.cap hk).mono fun e W' ⟨he, bel⟩ => ?_
  subst he
  exact ⟨_, rfl, _, _, _, [], _, [], hW', trodAll_mk1 (shut_bool Tryz.underlying4 _), (trodAll_cons_mk (Below.trod laidOut (by kernel_rfl) (of_decide_eq_true (by kernel_rfl)) k0 bel lt0) (trodAll_cons_mk (Below.trod laidOut (by kernel_rfl) (of_decide_eq_true (by kernel_rfl)) k1 bel lt1) trodAll_mk0)), rfl, bel.frame _, fun h => by cases h⟩
theorem said : Rows.DigitsUnlikeSaid :=
  OpenClaim.holds_of_cond 7 Tryz.f7 rfl rfl rfl rfl rfl rfl rfl ⟨rfl, rfl, rfl, rfl, rfl⟩ rfl rfl rfl rfl rfl (by kernel_rfl) Tryz.func7 (by kernel_rfl)
    (of_decide_eq_true (by kernel_rfl)) (by unfold Func.isWrapper; first | (rw [if_pos (by decide +kernel)]; kernel_rfl) | (rw [if_neg (by decide +kernel)]; exact ⟨rfl, rfl⟩))
    (fun os started H enc _ F => by rw [OpenClaim.pre_eq_preRow]; exact lifted os started H enc F)
theorem plain (f : FuncId) (fn : Func) (hf : Tryz.pinned.checked.prog.funcNamed "fluxion/fluxionlaw04.DigitsUnlike" = some f) (hfn : Tryz.pinned.checked.prog.funcs[f]? = some fn) :
    true = Tryz.pinned.checked.prog.looks [] ∧ ∀ (j : Nat) t, fn.params[j]? = some t → Tryz.pinned.checked.prog.wantsStandIn t = false := by
  obtain rfl : f = 7 := Option.some.inj ((show Tryz.prog.funcNamed "fluxion/fluxionlaw04.DigitsUnlike" = some 7 by kernel_rfl).symm.trans hf) |>.symm
  obtain rfl : fn = Tryz.f7 := (Option.some.inj (Tryz.func7.symm.trans hfn)).symm
  refine ⟨by kernel_rfl, fun j t ht => ?_⟩
  rw [Tryz.params7] at ht
  have hall : ∀ t ∈ Tryz.f7.params, Tryz.prog.wantsStandIn t = false := of_decide_eq_true (by kernel_rfl)
  exact hall t (by rw [Tryz.params7]; exact Array.mem_of_getElem? ht)
theorem card : Rows.DigitsUnlikeCardSaid :=
  Claim7.holds_tied_plain_at .later [] _ _ _ _ said (fun _ h => by cases h) (by kernel_rfl) (fun _ h => by cases h) digitsUnlike_row_tie rfl ⟨rfl, rfl⟩ (by kernel_rfl) rfl plain (by kernel_rfl)
#print axioms card
end Go.Proofs.YthppjdmkinbccaaGreatDoor.digitsUnlike
namespace Go.Proofs.YthppjdmkinbccaaGreatDoor
theorem digitsUnlike_holds : Rows.DigitsUnlikeCardSaid := digitsUnlike.card
end Go.Proofs.YthppjdmkinbccaaGreatDoor
