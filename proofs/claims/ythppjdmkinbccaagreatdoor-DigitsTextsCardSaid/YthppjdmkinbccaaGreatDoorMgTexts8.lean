/- Written by wip/tools/claimtexts.py: these texts, one behind another, without what this claim does not use: E1, E3, Qt1, PuRefA. -/
import Derived.Test.YthppjdmkinbccaaGreatDoorMgTexts2
import Derived.Test.YthppjdmkinbccaaGreatDoorMgTexts6
import Derived.Test.YthppjdmkinbccaaGreatDoorMgTexts5
import Derived.Test.YthppjdmkinbccaaGreatDoorMgTexts7
import Derived.Test.YthppjdmkinbccaaGreatDoorMgTexts4
import Derived.Test.YthppjdmkinbccaaGreatDoorMgTexts3
namespace Go.Proofs.YthppjdmkinbccaaGreatDoor.Print
open Go.RowKit Go.Proofs.YthppjdmkinbccaaGreatDoorW.PrintWords Go.Proofs.YthppjdmkinbccaaGreatDoorW.PrintLast Go.Proofs.YthppjdmkinbccaaGreatDoorW.PrintMore
attribute [local go_sem] max2_int min2_int max_two min_two max_three min_three max_four min_four   -- for this text's walks alone
set_option linter.unusedVariables false
set_option linter.unusedSimpArgs false
def digits_Rat.j0 : Nat → ByteArray → Bool → List Int → List Int → Option (ByteArray)
 | 0, _, _, _, _ => none
 | k + 1, x3, x102000, x102001, x102002 => (nat_Of.f 1).bind fun t110 => ((nat_Cmp.f x102002 t110).bind fun t113 => (if t113 = 0 then (some x3) else ((digits_Nat.f x102002).bind fun t114 => (if 1 + t114.size ≤ 9223372036854775807 then (if x3.size + ((⟨#[47]⟩ : ByteArray) ++ t114).size ≤ 9223372036854775807 then (some (x3 ++ ((⟨#[47]⟩ : ByteArray) ++ t114))) else (none)) else (none)))))
def digits_Rat.f (k : Nat) (a0_0 : Bool) (l0_1 : List Int) (l0_2 : List Int) : Option (ByteArray) := (rat_Norm.f a0_0 l0_1 l0_2).bind fun bt102 => ((digits_Nat.f bt102.2.1).bind fun t109 => (if bt102.1 = true then (if 1 + t109.size ≤ 9223372036854775807 then (digits_Rat.j0 k ((⟨#[45]⟩ : ByteArray) ++ t109) bt102.1 bt102.2.1 bt102.2.2) else (none)) else (digits_Rat.j0 k t109 bt102.1 bt102.2.1 bt102.2.2)))
theorem digits_Rat.mono_l : ∀ k, (∀ y0 y1 y2 y3, LeO (digits_Rat.j0 k y0 y1 y2 y3) (digits_Rat.j0 (k + 1) y0 y1 y2 y3))
 | 0 => fun _ _ _ _ r h => by simp [digits_Rat.j0] at h
 | k + 1 => by
  have ih0 := digits_Rat.mono_l k
  ·intro y0 y1 y2 y3
   unfold digits_Rat.j0
   repeat' first
   | (with_reducible exact ih0 _ _ _ _)
   | (with_reducible exact LeO.refl _)
   | (with_reducible exact LeO.none _)
   | (with_reducible refine LeO.ite ?_ ?_)
   | (with_reducible refine LeO.bind ?_ (fun _ => ?_))
   | exact ih0 _ _ _ _
   | exact LeO.none _
   | refine LeO.ite ?_ ?_
   | refine LeO.bind ?_ (fun _ => ?_)
theorem digits_Rat.mono : ∀ a0 a1 a2 k, LeO (digits_Rat.f k a0 a1 a2) (digits_Rat.f (k + 1) a0 a1 a2) := by
 intro a0 a1 a2 k
 have ih0 := digits_Rat.mono_l k
 unfold digits_Rat.f
 repeat' first
   | (with_reducible exact ih0 _ _ _ _)
   | (with_reducible exact LeO.refl _)
   | (with_reducible exact LeO.none _)
   | (with_reducible refine LeO.ite ?_ ?_)
   | (with_reducible refine LeO.bind ?_ (fun _ => ?_))
   | exact ih0 _ _ _ _
   | exact LeO.none _
   | refine LeO.ite ?_ ?_
   | refine LeO.bind ?_ (fun _ => ?_)
set_option maxHeartbeats 8000000 in
set_option maxRecDepth 100000 in
theorem digits_Rat.calls (k : Nat) (a0_0 : Bool) (A0_1 : Option Addr) (c0_1 : Nat) (l0_1 : List Int) (A0_2 : Option Addr) (c0_2 : Nat) (l0_2 : List Int) (r : ByteArray) (w : World) (ht : PowTab w) (hr0_1 : Kd.C (Kd.int .u32) w A0_1 l0_1.length l0_1) (hc0_1 : l0_1.length ≤ c0_1) (hr0_2 : Kd.C (Kd.int .u32) w A0_2 l0_2.length l0_2) (hc0_2 : l0_2.length ≤ c0_2) (h : digits_Rat.f k a0_0 l0_1 l0_2 = some r) :
  Calls Tryz.prog 16 #[.agg #[.bool a0_0, .slice A0_1 l0_1.length c0_1, .slice A0_2 l0_2.length c0_2]] w fun e w' => e = .returned (.string r) ∧ Below w.heap.size w w' := by
 have HT := Aside0.mk ht
 clear ht
 have hu35 := Tryz.underlying35
 have HR0_1 := Aside0.mk hr0_1
 have HC0_1 := Aside0.mk hc0_1
 clear hr0_1 hc0_1
 have HR0_2 := Aside0.mk hr0_2
 have HC0_2 := Aside0.mk hc0_2
 clear hr0_2 hc0_2
 have HB := Aside0.mk (Below.refl w.heap.size w)
 have H : ((rat_Norm.f a0_0 l0_1 l0_2).bind fun bt102 => ((digits_Nat.f bt102.2.1).bind fun t109 => (if bt102.1 = true then (if 1 + t109.size ≤ 9223372036854775807 then (digits_Rat.j0 k ((⟨#[45]⟩ : ByteArray) ++ t109) bt102.1 bt102.2.1 bt102.2.2) else (none)) else (digits_Rat.j0 k t109 bt102.1 bt102.2.1 bt102.2.2)))) = some r := h
 clear h
 replace H := Option.bind_eq_some_iff.mp H
 obtain ⟨⟨t102, t103, t106⟩, A20, H⟩ := H
 (try dsimp only at H)
 have A2 := Aside0.mk A20
 clear A20
 replace H := Option.bind_eq_some_iff.mp H
 obtain ⟨t109, A30, H⟩ := H
 (try dsimp only at H)
 have A3 := Aside0.mk A30
 clear A30
 have HC4 := Aside0.mk H
 clear H
 go_enter Tryz.func16, Tryz.ntmps16
 go_upto_if 10 with (first | ((with_reducible refine gD9 (N := 1) rfl ?_); refine bE9 ?hg (N := 1) ?hd (cs := #[.bool a0_0, .slice A0_1 l0_1.length c0_1, .slice A0_2 l0_2.length c0_2]) (t := 35) ?hr ?_; (case hd => rfl); (case hg => rfl); (case hr => first | (go_simp; done) | (go_simp; rfl)); intro gb101 hg w5 hbox hb; have n0_ := Aside0.mk (bT9 (by repeat (first | (with_reducible first | exact HB.out | apply bA9 | apply bN9 | apply bD9) | exact HB.out)) hb); have n1_ := Aside0.mk (hbox); have n2_ := Aside0.mk ((by rw [hg]; exact (bZ9 (by repeat (first | (with_reducible first | exact HB.out | apply bA9 | apply bN9 | apply bD9) | exact HB.out))) : w.heap.size ≤ gb101)); have n3_ := Aside0.mk ((by rw [hg]; exact (bZ9 (by repeat (first | (with_reducible first | exact HB.out | apply bA9 | apply bN9 | apply bD9) | exact HB.out))) : w.heap.size ≤ gb101)); clear HB; have HB := n0_; have BK101 := n1_; have GW101 := n2_; have GE101 := n3_; clear n0_ n1_ n2_ n3_; clear hb hbox hg; have hcz6_0 : w5.cell? ⟨gb101, 0, none⟩ = some (.bool a0_0) := (kC9 BK101.out 0).trans rfl; have hcz6_1 : w5.cell? ⟨gb101, 1, none⟩ = some (.slice A0_1 l0_1.length c0_1) := (kC9 BK101.out 1).trans rfl; have hcz6_2 : w5.cell? ⟨gb101, 2, none⟩ = some (.slice A0_2 l0_2.length c0_2) := (kC9 BK101.out 2).trans rfl; have hfz6_0 := kF9 BK101.out 0; have hfz6_1 := kF9 BK101.out 1; have hfz6_2 := kF9 BK101.out 2) | ((with_reducible refine gC9 (f := 39) rfl ?_); refine goesL_ (some 5) rfl rfl Tryz.func39 (by kernel_rfl) rfl #[.agg #[.bool a0_0, .slice A0_1 l0_1.length c0_1, .slice A0_2 l0_2.length c0_2]] rfl (by (try simp only [List.map_toArray, List.map_cons, List.map_nil]); first | done | rfl | (simp only [List.length_drop, List.length_take]; rfl)) ?_; (with_reducible refine (rat_Norm.calls a0_0 _ _ l0_1 _ _ l0_2 t102 t103 t106 _ ?side1 ?side2 ?side3 ?side4 A2.out).mono ?_); (case side1 => repeat (first | exact (Kd.cB9 HR0_1.out HB.out) | (with_reducible refine Kd.cA9 ?_ _) | (with_reducible refine Kd.cN9 ?_ _) | (with_reducible refine Kd.cD9 ?_))); (case side2 => exact HC0_1.out); (case side3 => repeat (first | exact (Kd.cB9 HR0_2.out HB.out) | (with_reducible refine Kd.cA9 ?_ _) | (with_reducible refine Kd.cN9 ?_ _) | (with_reducible refine Kd.cD9 ?_))); (case side4 => exact HC0_2.out); rintro e w7 ⟨v104, v107, rfl, ho0, ho1, hb⟩; refine ⟨_, rfl, ?_⟩; have n0_ := Aside0.mk (Kd.rL9 ho0 (bZ9 (by repeat (first | (with_reducible first | exact HB.out | apply bA9 | apply bN9 | apply bD9 | refine bS9 ?_ GE101.out) | exact HB.out)))); have n1_ := Aside0.mk (Kd.rL9 ho1 (bZ9 (by repeat (first | (with_reducible first | exact HB.out | apply bA9 | apply bN9 | apply bD9 | refine bS9 ?_ GE101.out) | exact HB.out)))); have n2_ := Aside0.mk (kB9 (g := gb101) (o := .cells #[.bool a0_0, .slice A0_1 l0_1.length c0_1, .slice A0_2 l0_2.length c0_2] 35 (0, 0)) (by (with_reducible repeat (first | refine kN9 ?_ _ | refine kD9 ?_ | refine kA9 ?_ _)); exact BK101.out) hb); have n3_ := Aside0.mk (bT9 (by repeat (first | (with_reducible first | exact HB.out | apply bA9 | apply bN9 | apply bD9 | refine bS9 ?_ GE101.out) | exact HB.out)) hb); clear BK101; clear HB; have HO105 := n0_; have HO108 := n1_; have BK101 := n2_; have HB := n3_; clear n0_ n1_ n2_ n3_; (try clear hb); (try clear hb2); (try clear hk); (try clear hi); (try clear ho0); (try clear ho1); have hcz8_0 : w7.cell? ⟨gb101, 0, none⟩ = some (.bool a0_0) := (kC9 BK101.out 0).trans rfl; have hcz8_1 : w7.cell? ⟨gb101, 1, none⟩ = some (.slice A0_1 l0_1.length c0_1) := (kC9 BK101.out 1).trans rfl; have hcz8_2 : w7.cell? ⟨gb101, 2, none⟩ = some (.slice A0_2 l0_2.length c0_2) := (kC9 BK101.out 2).trans rfl; have hfz8_0 := kF9 BK101.out 0; have hfz8_1 := kF9 BK101.out 1; have hfz8_2 := kF9 BK101.out 2; obtain ⟨Ao9, co9, eo9⟩ := Kd.rS9 HO105.out; subst eo9; obtain ⟨Ao10, co10, eo10⟩ := Kd.rS9 HO108.out; subst eo10) | ((with_reducible refine gC9 (f := 23) rfl ?_); refine goesL_ (some 8) rfl rfl Tryz.func23 (by kernel_rfl) rfl #[.slice Ao9 t103.length co9] rfl (by (try simp only [List.map_toArray, List.map_cons, List.map_nil]); first | done | rfl | (simp only [List.length_drop, List.length_take]; rfl)) ?_; (with_reducible refine (digits_Nat.calls _ _ t103 t109 _ (PowTab.below HT.out (by repeat (first | (with_reducible first | exact HB.out | apply bA9 | apply bN9 | apply bD9 | refine bS9 ?_ GE101.out) | exact HB.out))) ?side1 ?side2 A3.out).mono ?_); (case side1 => refine (Kd.rR9 (e := 56) (base := w.heap.size) (ok := fun k_ => some k_ ≠ (.slice Ao10 t106.length co10 : Value).ownBlock) (n := t103.length) (c := co9) ?_).2.2; exact (by (with_reducible repeat (first | apply Kd.rA9 | apply Kd.rN9 | apply Kd.rD9)); exact (Kd.R_mono (Kd.R_far (p := ⟨gb101, 2, none⟩) (Kd.R_far (p := ⟨gb101, 1, none⟩) (Kd.R_far (p := ⟨gb101, 0, none⟩) (Kd.rT9 HO105.out BK101.out (by decide)) (fun _ hk => hk.2) (.bool t102)) (fun _ hk => hk.2) (.slice Ao9 t103.length co9)) (fun _ hk => hk.2) (.slice Ao10 t106.length co10)) (fun _ h_ => h_.1)))); (case side2 => exact (Kd.rR9 HO105.out).2.1); rintro e w11 ⟨rfl, hb⟩; refine ⟨_, rfl, ?_⟩; have n0_ := Aside0.mk (Kd.rB9 (by (with_reducible repeat (first | apply Kd.rA9 | apply Kd.rN9 | apply Kd.rD9)); exact (Kd.R_mono (Kd.R_far (p := ⟨gb101, 2, none⟩) (Kd.R_far (p := ⟨gb101, 1, none⟩) (Kd.R_far (p := ⟨gb101, 0, none⟩) (Kd.rT9 HO105.out BK101.out (by decide)) (fun _ hk => hk.2) (.bool t102)) (fun _ hk => hk.2) (.slice Ao9 t103.length co9)) (fun _ hk => hk.2) (.slice Ao10 t106.length co10)) (fun _ h_ => h_.1))) hb); have n1_ := Aside0.mk (Kd.rB9 (by (with_reducible repeat (first | apply Kd.rA9 | apply Kd.rN9 | apply Kd.rD9)); exact (Kd.R_mono (Kd.R_far (p := ⟨gb101, 2, none⟩) (Kd.R_far (p := ⟨gb101, 1, none⟩) (Kd.R_far (p := ⟨gb101, 0, none⟩) (Kd.rT9 HO108.out BK101.out (by decide)) (fun _ hk => hk.2) (.bool t102)) (fun _ hk => hk.2) (.slice Ao9 t103.length co9)) (fun _ hk => hk.2) (.slice Ao10 t106.length co10)) (fun _ h_ => h_.1))) hb); have n2_ := Aside0.mk (kB9 (g := gb101) (o := .cells #[.bool t102, .slice Ao9 t103.length co9, .slice Ao10 t106.length co10] 35 (0, 0)) (by (with_reducible repeat (first | refine kN9 ?_ _ | refine kD9 ?_ | refine kA9 ?_ _)); refine kP9 (cs := #[.bool t102, .slice Ao9 t103.length co9, .slice A0_2 l0_2.length c0_2]) ?_ 2 _ rfl; (with_reducible repeat (first | refine kN9 ?_ _ | refine kD9 ?_ | refine kA9 ?_ _)); refine kP9 (cs := #[.bool t102, .slice A0_1 l0_1.length c0_1, .slice A0_2 l0_2.length c0_2]) ?_ 1 _ rfl; (with_reducible repeat (first | refine kN9 ?_ _ | refine kD9 ?_ | refine kA9 ?_ _)); refine kP9 (cs := #[.bool a0_0, .slice A0_1 l0_1.length c0_1, .slice A0_2 l0_2.length c0_2]) ?_ 0 _ rfl; (with_reducible repeat (first | refine kN9 ?_ _ | refine kD9 ?_ | refine kA9 ?_ _)); exact BK101.out) hb); have n3_ := Aside0.mk (bT9 (by repeat (first | (with_reducible first | exact HB.out | apply bA9 | apply bN9 | apply bD9 | refine bS9 ?_ GE101.out) | exact HB.out)) hb); clear HO105; clear HO108; clear BK101; clear HB; have HO105 := n0_; have HO108 := n1_; have BK101 := n2_; have HB := n3_; clear n0_ n1_ n2_ n3_; (try clear hb); (try clear hb2); (try clear hk); (try clear hi); have hcz12_0 : w11.cell? ⟨gb101, 0, none⟩ = some (.bool t102) := (kC9 BK101.out 0).trans rfl; have hcz12_1 : w11.cell? ⟨gb101, 1, none⟩ = some (.slice Ao9 t103.length co9) := (kC9 BK101.out 1).trans rfl; have hcz12_2 : w11.cell? ⟨gb101, 2, none⟩ = some (.slice Ao10 t106.length co10) := (kC9 BK101.out 2).trans rfl; have hfz12_0 := kF9 BK101.out 0; have hfz12_1 := kF9 BK101.out 1; have hfz12_2 := kF9 BK101.out 2))
 (try simp only [Act.put, List.setIfInBounds_toArray, List.set_cons_zero, List.set_cons_succ])
 go_cut [3] (fun v3 wc => ∃ (kq : Nat) (x3_3 : ByteArray), v3 = .string x3_3 ∧ Aside0 (digits_Rat.j0 kq x3_3 t102 t103 t106 = some r) ∧ Aside0 (kq ≤ k) ∧ Aside0 (Kd.R (Kd.int .u32) 56 wc w.heap.size (fun k_ => some k_ ≠ ((.slice Ao10 t106.length co10) : Value).ownBlock) (.slice Ao9 t103.length co9) t103) ∧ Aside0 (Kd.R (Kd.int .u32) 56 wc w.heap.size (fun k_ => some k_ ≠ ((.slice Ao9 t103.length co9) : Value).ownBlock) (.slice Ao10 t106.length co10) t106) ∧ Aside0 (wc.heap[gb101]? = some (.cells #[.bool t102, (.slice Ao9 t103.length co9), (.slice Ao10 t106.length co10)] 35 (0, 0))) ∧ Aside0 (Below w.heap.size w wc))
 case first =>
  have H := HC4.out
  clear HC4
  by_cases c13 : t102 = true
  ·subst c13
   have H1 : (if 1 + t109.size ≤ 9223372036854775807 then (digits_Rat.j0 k ((⟨#[45]⟩ : ByteArray) ++ t109) true t103 t106) else (none)) = some r := by rw [if_pos rfl] at H; exact H
   clear H
   have H := H1
   clear H1
   by_cases c14 : 1 + t109.size ≤ 9223372036854775807
   ·rw [if_pos c14] at H
    have c14b0 := eq_true c14
    try (have h_c14 := c14; rw [ByteArray.size_append] at h_c14; have c14b3 := eq_true h_c14; have c14b4 := eq_false (Nat.not_lt.2 h_c14); clear h_c14)
    have c14b1 : decide (1 + t109.size ≤ 9223372036854775807) = true := decide_eq_true c14
    try have c14b2 : (9223372036854775807 < 1 + t109.size) = False := eq_false (Nat.not_lt.2 c14)
    have H' := Aside0.mk H
    clear H
    go_wp2
    go_meet
    case rel => exact ⟨_, ((⟨#[45]⟩ : ByteArray) ++ t109), (by first | rfl | (simp; done) | (simp [*]; done)), H', ⟨by first | omega | exact Nat.le_refl _⟩, ⟨by (with_reducible repeat (first | apply Kd.rA9 | apply Kd.rN9 | apply Kd.rD9)); exact HO105.out⟩, ⟨by (with_reducible repeat (first | apply Kd.rA9 | apply Kd.rN9 | apply Kd.rD9)); exact HO108.out⟩, ⟨by (with_reducible repeat (first | refine kN9 ?_ _ | refine kD9 ?_ | refine kA9 ?_ _)); exact BK101.out⟩, ⟨by repeat (first | (with_reducible first | exact HB.out | apply bA9 | apply bN9 | apply bD9 | refine bS9 ?_ GE101.out) | exact HB.out)⟩⟩
   ·rw [if_neg c14] at H
    exact absurd H (by simp)
  ·replace c13 := Bool.eq_false_iff.mpr c13
   subst c13
   have H1 : (digits_Rat.j0 k t109 false t103 t106) = some r := by rw [if_neg (show ¬ (false = true) by decide)] at H; exact H
   clear H
   have H := H1
   clear H1
   have H' := Aside0.mk H
   clear H
   go_wp2
   go_meet
   case rel => exact ⟨_, (t109), (by first | rfl | (simp; done) | (simp [*]; done)), H', ⟨by first | omega | exact Nat.le_refl _⟩, ⟨by (with_reducible repeat (first | apply Kd.rA9 | apply Kd.rN9 | apply Kd.rD9)); exact HO105.out⟩, ⟨by (with_reducible repeat (first | apply Kd.rA9 | apply Kd.rN9 | apply Kd.rD9)); exact HO108.out⟩, ⟨by (with_reducible repeat (first | refine kN9 ?_ _ | refine kD9 ?_ | refine kA9 ?_ _)); exact BK101.out⟩, ⟨by repeat (first | (with_reducible first | exact HB.out | apply bA9 | apply bN9 | apply bD9 | refine bS9 ?_ GE101.out) | exact HB.out)⟩⟩
 case rest =>
  clear HC4
  try clear c1
  try clear c2
  try clear p2
  try clear c3
  try clear c13
  try clear c14
  try clear c14b0
  try clear c14b1
  try clear c14b2
  try clear hcz12_0
  try clear hcz12_1
  try clear hcz12_2
  try clear hcz6_0
  try clear hcz6_1
  try clear hcz6_2
  try clear hcz8_0
  try clear hcz8_1
  try clear hcz8_2
  try clear hfz12_0
  try clear hfz12_1
  try clear hfz12_2
  try clear hfz6_0
  try clear hfz6_1
  try clear hfz6_2
  try clear hfz8_0
  try clear hfz8_1
  try clear hfz8_2
  obtain ⟨kq, x3_3, rfl, HA, HJ3, HO_102001, HO_102002, BK101, HB⟩ := hcut
  cases kq with
  | zero => exact absurd HA.out (by simp [digits_Rat.j0])
  | succ kj3 =>
   have H := HA.out
   clear HA
   simp only [digits_Rat.j0] at H
   replace H := Option.bind_eq_some_iff.mp H
   obtain ⟨t110, A150, H⟩ := H
   (try dsimp only at H)
   have A15 := Aside0.mk A150
   clear A150
   replace H := Option.bind_eq_some_iff.mp H
   obtain ⟨t113, A160, H⟩ := H
   (try dsimp only at H)
   have A16 := Aside0.mk A160
   clear A160
   by_cases c17 : t113 = 0
   ·rw [if_pos c17] at H
    have c17b0 : (t113 == 0) = true := beq_iff_eq.mpr c17
    have c17b1 : (t113 != 0) = false := bne_eq_false_iff_eq.mpr c17
    clear c17
    obtain rfl := Option.some.inj H
    try go_wp2
    have n0_ := Aside0.mk (Kd.rD9 HO_102001.out)
    have n1_ := Aside0.mk (Kd.rD9 HO_102002.out)
    have n2_ := Aside0.mk (kD9 BK101.out)
    have n3_ := Aside0.mk (bD9 HB.out)
    clear HO_102001
    clear HO_102002
    clear BK101
    clear HB
    have HO_102001 := n0_
    have HO_102002 := n1_
    have BK101 := n2_
    have HB := n3_
    clear n0_ n1_ n2_ n3_
    refine start_ (n := 5) (S := fun w' => w'.cell? ⟨gb101, 0, none⟩ = some (.bool t102) ∧ w'.cell? ⟨gb101, 1, none⟩ = some (.slice Ao9 t103.length co9) ∧ w'.cell? ⟨gb101, 2, none⟩ = some (.slice Ao10 t106.length co10)) (ds := []) #[false, false, false, false, false] (by kernel_rfl) rfl rfl ⟨(kC9 BK101.out 0).trans rfl, (kC9 BK101.out 1).trans rfl, (kC9 BK101.out 2).trans rfl⟩ (fun hHeld => ?_)
    generalize wc.drew = w18 at HO_102001 HO_102002 BK101 HB hHeld ⊢
    refine pure_ (i := 0) (N := some 13) (v := ?_) (a' := ?_) #[true, false, false, false, false] rfl rfl (by kernel_rfl) (fun _ _ _ h => h) (Or.inl ⟨by rfl, ?_⟩) ?_ ?_
    rotate_left
    ·intro w'
     go_simp
     with_reducible rfl
    rotate_left
    ·simp only [Act.put, List.setIfInBounds_toArray, List.set_cons_zero, List.set_cons_succ, i64_w, i32_w]
     rfl
    refine take_ (i := 1) (N := some 14) (v := ?_) (a' := ?_) #[true, true, false, false, false] rfl rfl (by kernel_rfl) (fun _ _ _ h => h) (Or.inl ⟨by rfl, ?_⟩) hHeld ?_ ?_
    rotate_left
    ·rintro w' ⟨s0, s1, s2⟩
     go_simp
     with_reducible rfl
    rotate_left
    ·simp only [Act.put, List.setIfInBounds_toArray, List.set_cons_zero, List.set_cons_succ, i64_w, i32_w]
     rfl
    refine one_ (i := 2) (N := some 15) #[true, true, true, false, false] rfl rfl (by kernel_rfl) (by decide) (fun K hK => ?_)
    refine goes_ Tryz.func30 (by kernel_rfl) rfl #[.int .u64 1] (by rfl) rfl rfl (by (try simp only [List.map_toArray, List.map_cons, List.map_nil]); first | done | rfl | (simp only [List.length_drop, List.length_take]; rfl)) ?_
    with_reducible refine (nat_Of.calls 1 t110 _ A15.out).mono ?_
    rintro e w19 ⟨v111, rfl, ho0, hb⟩
    refine ⟨_, rfl, ?_⟩
    have n0_ := Aside0.mk (Kd.R_elder' (by (with_reducible repeat (first | apply Kd.rA9 | apply Kd.rN9 | apply Kd.rD9)); exact HO_102001.out) (Kd.R_base ho0) hb)
    have n1_ := Aside0.mk (Kd.R_elder' (by (with_reducible repeat (first | apply Kd.rA9 | apply Kd.rN9 | apply Kd.rD9)); exact HO_102002.out) (Kd.R_base ho0) hb)
    have n2_ := Aside0.mk (Kd.rL9 (Kd.R_new' (Kd.R_new' ho0 (Kd.R_lt (by (with_reducible repeat (first | apply Kd.rA9 | apply Kd.rN9 | apply Kd.rD9)); exact HO_102001.out))) (Kd.R_lt (by (with_reducible repeat (first | apply Kd.rA9 | apply Kd.rN9 | apply Kd.rD9)); exact HO_102002.out))) (bZ9 (by repeat (first | (with_reducible first | exact HB.out | apply bA9 | apply bN9 | apply bD9 | refine bS9 ?_ GE101.out) | exact HB.out))))
    have n3_ := Aside0.mk (kB9 (g := gb101) (o := .cells #[.bool t102, .slice Ao9 t103.length co9, .slice Ao10 t106.length co10] 35 (0, 0)) (by (with_reducible repeat (first | refine kN9 ?_ _ | refine kD9 ?_ | refine kA9 ?_ _)); exact BK101.out) hb)
    have n4_ := Aside0.mk (bT9 (by repeat (first | (with_reducible first | exact HB.out | apply bA9 | apply bN9 | apply bD9 | refine bS9 ?_ GE101.out) | exact HB.out)) hb)
    clear HO_102001
    clear HO_102002
    clear BK101
    clear HB
    have HO_102001 := n0_
    have HO_102002 := n1_
    have HO112 := n2_
    have BK101 := n3_
    have HB := n4_
    clear n0_ n1_ n2_ n3_ n4_
    (try clear hb)
    (try clear hb2)
    (try clear hk)
    (try clear hi)
    (try clear ho0)
    obtain ⟨Ao20, co20, eo20⟩ := Kd.rS9 HO112.out
    (first | subst eo20 | (injection eo20 with f1_ f2_ f3_; have f4_ := f1_.symm; have f5_ := f3_.symm; clear f1_ f2_ f3_; subst f4_; subst f5_))
    refine hK.out _ _ ⟨(kC9 BK101.out 0).trans rfl, (kC9 BK101.out 1).trans rfl, (kC9 BK101.out 2).trans rfl⟩ (fun hHeld => ?_)
    clear hK K
    refine norm_ (a' := ?_) ?_ ?_
    rotate_left
    ·show Act.put _ (some 15) _ = _
     simp only [Act.put, List.setIfInBounds_toArray, List.set_cons_zero, List.set_cons_succ, i64_w, i32_w]
     rfl
    refine one_ (i := 3) (N := some 16) #[true, true, true, true, false] rfl rfl (by kernel_rfl) (by decide) (fun K hK => ?_)
    refine goes_ Tryz.func28 (by kernel_rfl) rfl #[.slice Ao10 t106.length co10, .slice Ao20 t110.length co20] (by rfl) rfl rfl (by (try simp only [List.map_toArray, List.map_cons, List.map_nil]); first | done | rfl | (simp only [List.length_drop, List.length_take]; rfl)) ?_
    with_reducible refine (nat_Cmp.calls _ _ t106 _ _ t110 t113 _ ?side1 ?side2 ?side3 ?side4 A16.out).mono ?_
    (case side1 => repeat (first | exact (Kd.rR9 HO_102002.out).2.2 | (with_reducible refine Kd.cA9 ?_ _) | (with_reducible refine Kd.cN9 ?_ _) | (with_reducible refine Kd.cD9 ?_)))
    (case side2 => exact (Kd.rR9 HO_102002.out).2.1)
    (case side3 => repeat (first | exact (Kd.rR9 HO112.out).2.2 | (with_reducible refine Kd.cA9 ?_ _) | (with_reducible refine Kd.cN9 ?_ _) | (with_reducible refine Kd.cD9 ?_)))
    (case side4 => exact (Kd.rR9 HO112.out).2.1)
    rintro e w21 ⟨rfl, hb⟩
    refine ⟨_, rfl, ?_⟩
    have n0_ := Aside0.mk (Kd.rB9 (by (with_reducible repeat (first | apply Kd.rA9 | apply Kd.rN9 | apply Kd.rD9)); exact HO_102001.out) hb)
    have n1_ := Aside0.mk (Kd.rB9 (by (with_reducible repeat (first | apply Kd.rA9 | apply Kd.rN9 | apply Kd.rD9)); exact HO_102002.out) hb)
    have n2_ := Aside0.mk (Kd.rB9 (by (with_reducible repeat (first | apply Kd.rA9 | apply Kd.rN9 | apply Kd.rD9)); exact HO112.out) hb)
    have n3_ := Aside0.mk (kB9 (g := gb101) (o := .cells #[.bool t102, .slice Ao9 t103.length co9, .slice Ao10 t106.length co10] 35 (0, 0)) (by (with_reducible repeat (first | refine kN9 ?_ _ | refine kD9 ?_ | refine kA9 ?_ _)); exact BK101.out) hb)
    have n4_ := Aside0.mk (bT9 (by repeat (first | (with_reducible first | exact HB.out | apply bA9 | apply bN9 | apply bD9 | refine bS9 ?_ GE101.out) | exact HB.out)) hb)
    clear HO_102001
    clear HO_102002
    clear HO112
    clear BK101
    clear HB
    have HO_102001 := n0_
    have HO_102002 := n1_
    have HO112 := n2_
    have BK101 := n3_
    have HB := n4_
    clear n0_ n1_ n2_ n3_ n4_
    (try clear hb)
    (try clear hb2)
    (try clear hk)
    (try clear hi)
    refine hK.out _ _ ⟨(kC9 BK101.out 0).trans rfl, (kC9 BK101.out 1).trans rfl, (kC9 BK101.out 2).trans rfl⟩ (fun hHeld => ?_)
    clear hK K
    refine norm_ (a' := ?_) ?_ ?_
    rotate_left
    ·show Act.put _ (some 16) _ = _
     simp only [Act.put, List.setIfInBounds_toArray, List.set_cons_zero, List.set_cons_succ, i64_w, i32_w]
     rfl
    refine pure_ (i := 4) (N := some 17) (v := ?_) (a' := ?_) #[true, true, true, true, true] rfl rfl (by kernel_rfl) (fun _ _ _ h => h) (Or.inl ⟨by rfl, ?_⟩) ?_ ?_
    rotate_left
    ·intro w'
     go_simp
     with_reducible rfl
    rotate_left
    ·simp only [Act.put, List.setIfInBounds_toArray, List.set_cons_zero, List.set_cons_succ, i64_w, i32_w]
     rfl
    refine done_ (by kernel_rfl) ?_
    try go_wp2
    go_ret
    exact ⟨by first | rfl | (simp [eN9, eS9] <;> rfl) | (simp [*, eN9, eS9] <;> rfl), by repeat (first | (with_reducible first | exact HB.out | apply bA9 | apply bN9 | apply bD9 | refine bS9 ?_ GE101.out) | exact HB.out)⟩
   ·rw [if_neg c17] at H
    have c17b0 : (t113 == 0) = false := beq_eq_false_iff_ne.mpr c17
    have c17b1 : (t113 != 0) = true := bne_iff_ne.mpr c17
    replace H := Option.bind_eq_some_iff.mp H
    obtain ⟨t114, A220, H⟩ := H
    (try dsimp only at H)
    have A22 := Aside0.mk A220
    clear A220
    by_cases c23 : 1 + t114.size ≤ 9223372036854775807
    ·rw [if_pos c23] at H
     have c23b0 := eq_true c23
     try (have h_c23 := c23; rw [ByteArray.size_append] at h_c23; have c23b3 := eq_true h_c23; have c23b4 := eq_false (Nat.not_lt.2 h_c23); clear h_c23)
     have c23b1 : decide (1 + t114.size ≤ 9223372036854775807) = true := decide_eq_true c23
     try have c23b2 : (9223372036854775807 < 1 + t114.size) = False := eq_false (Nat.not_lt.2 c23)
     by_cases c24 : x3_3.size + ((⟨#[47]⟩ : ByteArray) ++ t114).size ≤ 9223372036854775807
     ·rw [if_pos c24] at H
      have c24b0 := eq_true c24
      try (have h_c24 := c24; rw [ByteArray.size_append] at h_c24; have c24b3 := eq_true h_c24; have c24b4 := eq_false (Nat.not_lt.2 h_c24); clear h_c24)
      have c24b1 : decide (x3_3.size + ((⟨#[47]⟩ : ByteArray) ++ t114).size ≤ 9223372036854775807) = true := decide_eq_true c24
      try have c24b2 : (9223372036854775807 < x3_3.size + ((⟨#[47]⟩ : ByteArray) ++ t114).size) = False := eq_false (Nat.not_lt.2 c24)
      obtain rfl := Option.some.inj H
      try go_wp2
      have n0_ := Aside0.mk (Kd.rD9 HO_102001.out)
      have n1_ := Aside0.mk (Kd.rD9 HO_102002.out)
      have n2_ := Aside0.mk (kD9 BK101.out)
      have n3_ := Aside0.mk (bD9 HB.out)
      clear HO_102001
      clear HO_102002
      clear BK101
      clear HB
      have HO_102001 := n0_
      have HO_102002 := n1_
      have BK101 := n2_
      have HB := n3_
      clear n0_ n1_ n2_ n3_
      refine start_ (n := 5) (S := fun w' => w'.cell? ⟨gb101, 0, none⟩ = some (.bool t102) ∧ w'.cell? ⟨gb101, 1, none⟩ = some (.slice Ao9 t103.length co9) ∧ w'.cell? ⟨gb101, 2, none⟩ = some (.slice Ao10 t106.length co10)) (ds := []) #[false, false, false, false, false] (by kernel_rfl) rfl rfl ⟨(kC9 BK101.out 0).trans rfl, (kC9 BK101.out 1).trans rfl, (kC9 BK101.out 2).trans rfl⟩ (fun hHeld => ?_)
      generalize wc.drew = w25 at HO_102001 HO_102002 BK101 HB hHeld ⊢
      refine pure_ (i := 0) (N := some 13) (v := ?_) (a' := ?_) #[true, false, false, false, false] rfl rfl (by kernel_rfl) (fun _ _ _ h => h) (Or.inl ⟨by rfl, ?_⟩) ?_ ?_
      rotate_left
      ·intro w'
       go_simp
       with_reducible rfl
      rotate_left
      ·simp only [Act.put, List.setIfInBounds_toArray, List.set_cons_zero, List.set_cons_succ, i64_w, i32_w]
       rfl
      refine take_ (i := 1) (N := some 14) (v := ?_) (a' := ?_) #[true, true, false, false, false] rfl rfl (by kernel_rfl) (fun _ _ _ h => h) (Or.inl ⟨by rfl, ?_⟩) hHeld ?_ ?_
      rotate_left
      ·rintro w' ⟨s0, s1, s2⟩
       go_simp
       with_reducible rfl
      rotate_left
      ·simp only [Act.put, List.setIfInBounds_toArray, List.set_cons_zero, List.set_cons_succ, i64_w, i32_w]
       rfl
      refine one_ (i := 2) (N := some 15) #[true, true, true, false, false] rfl rfl (by kernel_rfl) (by decide) (fun K hK => ?_)
      refine goes_ Tryz.func30 (by kernel_rfl) rfl #[.int .u64 1] (by rfl) rfl rfl (by (try simp only [List.map_toArray, List.map_cons, List.map_nil]); first | done | rfl | (simp only [List.length_drop, List.length_take]; rfl)) ?_
      with_reducible refine (nat_Of.calls 1 t110 _ A15.out).mono ?_
      rintro e w26 ⟨v111, rfl, ho0, hb⟩
      refine ⟨_, rfl, ?_⟩
      have n0_ := Aside0.mk (Kd.R_elder' (by (with_reducible repeat (first | apply Kd.rA9 | apply Kd.rN9 | apply Kd.rD9)); exact HO_102001.out) (Kd.R_base ho0) hb)
      have n1_ := Aside0.mk (Kd.R_elder' (by (with_reducible repeat (first | apply Kd.rA9 | apply Kd.rN9 | apply Kd.rD9)); exact HO_102002.out) (Kd.R_base ho0) hb)
      have n2_ := Aside0.mk (Kd.rL9 (Kd.R_new' (Kd.R_new' ho0 (Kd.R_lt (by (with_reducible repeat (first | apply Kd.rA9 | apply Kd.rN9 | apply Kd.rD9)); exact HO_102001.out))) (Kd.R_lt (by (with_reducible repeat (first | apply Kd.rA9 | apply Kd.rN9 | apply Kd.rD9)); exact HO_102002.out))) (bZ9 (by repeat (first | (with_reducible first | exact HB.out | apply bA9 | apply bN9 | apply bD9 | refine bS9 ?_ GE101.out) | exact HB.out))))
      have n3_ := Aside0.mk (kB9 (g := gb101) (o := .cells #[.bool t102, .slice Ao9 t103.length co9, .slice Ao10 t106.length co10] 35 (0, 0)) (by (with_reducible repeat (first | refine kN9 ?_ _ | refine kD9 ?_ | refine kA9 ?_ _)); exact BK101.out) hb)
      have n4_ := Aside0.mk (bT9 (by repeat (first | (with_reducible first | exact HB.out | apply bA9 | apply bN9 | apply bD9 | refine bS9 ?_ GE101.out) | exact HB.out)) hb)
      clear HO_102001
      clear HO_102002
      clear BK101
      clear HB
      have HO_102001 := n0_
      have HO_102002 := n1_
      have HO112 := n2_
      have BK101 := n3_
      have HB := n4_
      clear n0_ n1_ n2_ n3_ n4_
      (try clear hb)
      (try clear hb2)
      (try clear hk)
      (try clear hi)
      (try clear ho0)
      obtain ⟨Ao27, co27, eo27⟩ := Kd.rS9 HO112.out
      (first | subst eo27 | (injection eo27 with f1_ f2_ f3_; have f4_ := f1_.symm; have f5_ := f3_.symm; clear f1_ f2_ f3_; subst f4_; subst f5_))
      refine hK.out _ _ ⟨(kC9 BK101.out 0).trans rfl, (kC9 BK101.out 1).trans rfl, (kC9 BK101.out 2).trans rfl⟩ (fun hHeld => ?_)
      clear hK K
      refine norm_ (a' := ?_) ?_ ?_
      rotate_left
      ·show Act.put _ (some 15) _ = _
       simp only [Act.put, List.setIfInBounds_toArray, List.set_cons_zero, List.set_cons_succ, i64_w, i32_w]
       rfl
      refine one_ (i := 3) (N := some 16) #[true, true, true, true, false] rfl rfl (by kernel_rfl) (by decide) (fun K hK => ?_)
      refine goes_ Tryz.func28 (by kernel_rfl) rfl #[.slice Ao10 t106.length co10, .slice Ao27 t110.length co27] (by rfl) rfl rfl (by (try simp only [List.map_toArray, List.map_cons, List.map_nil]); first | done | rfl | (simp only [List.length_drop, List.length_take]; rfl)) ?_
      with_reducible refine (nat_Cmp.calls _ _ t106 _ _ t110 t113 _ ?side1 ?side2 ?side3 ?side4 A16.out).mono ?_
      (case side1 => repeat (first | exact (Kd.rR9 HO_102002.out).2.2 | (with_reducible refine Kd.cA9 ?_ _) | (with_reducible refine Kd.cN9 ?_ _) | (with_reducible refine Kd.cD9 ?_)))
      (case side2 => exact (Kd.rR9 HO_102002.out).2.1)
      (case side3 => repeat (first | exact (Kd.rR9 HO112.out).2.2 | (with_reducible refine Kd.cA9 ?_ _) | (with_reducible refine Kd.cN9 ?_ _) | (with_reducible refine Kd.cD9 ?_)))
      (case side4 => exact (Kd.rR9 HO112.out).2.1)
      rintro e w28 ⟨rfl, hb⟩
      refine ⟨_, rfl, ?_⟩
      have n0_ := Aside0.mk (Kd.rB9 (by (with_reducible repeat (first | apply Kd.rA9 | apply Kd.rN9 | apply Kd.rD9)); exact HO_102001.out) hb)
      have n1_ := Aside0.mk (Kd.rB9 (by (with_reducible repeat (first | apply Kd.rA9 | apply Kd.rN9 | apply Kd.rD9)); exact HO_102002.out) hb)
      have n2_ := Aside0.mk (Kd.rB9 (by (with_reducible repeat (first | apply Kd.rA9 | apply Kd.rN9 | apply Kd.rD9)); exact HO112.out) hb)
      have n3_ := Aside0.mk (kB9 (g := gb101) (o := .cells #[.bool t102, .slice Ao9 t103.length co9, .slice Ao10 t106.length co10] 35 (0, 0)) (by (with_reducible repeat (first | refine kN9 ?_ _ | refine kD9 ?_ | refine kA9 ?_ _)); exact BK101.out) hb)
      have n4_ := Aside0.mk (bT9 (by repeat (first | (with_reducible first | exact HB.out | apply bA9 | apply bN9 | apply bD9 | refine bS9 ?_ GE101.out) | exact HB.out)) hb)
      clear HO_102001
      clear HO_102002
      clear HO112
      clear BK101
      clear HB
      have HO_102001 := n0_
      have HO_102002 := n1_
      have HO112 := n2_
      have BK101 := n3_
      have HB := n4_
      clear n0_ n1_ n2_ n3_ n4_
      (try clear hb)
      (try clear hb2)
      (try clear hk)
      (try clear hi)
      refine hK.out _ _ ⟨(kC9 BK101.out 0).trans rfl, (kC9 BK101.out 1).trans rfl, (kC9 BK101.out 2).trans rfl⟩ (fun hHeld => ?_)
      clear hK K
      refine norm_ (a' := ?_) ?_ ?_
      rotate_left
      ·show Act.put _ (some 16) _ = _
       simp only [Act.put, List.setIfInBounds_toArray, List.set_cons_zero, List.set_cons_succ, i64_w, i32_w]
       rfl
      refine pure_ (i := 4) (N := some 17) (v := ?_) (a' := ?_) #[true, true, true, true, true] rfl rfl (by kernel_rfl) (fun _ _ _ h => h) (Or.inl ⟨by rfl, ?_⟩) ?_ ?_
      rotate_left
      ·intro w'
       go_simp
       with_reducible rfl
      rotate_left
      ·simp only [Act.put, List.setIfInBounds_toArray, List.set_cons_zero, List.set_cons_succ, i64_w, i32_w]
       rfl
      refine done_ (by kernel_rfl) ?_
      have hcz29_0 : w28.cell? ⟨gb101, 0, none⟩ = some (.bool t102) := (kC9 BK101.out 0).trans rfl
      have hcz29_1 : w28.cell? ⟨gb101, 1, none⟩ = some (.slice Ao9 t103.length co9) := (kC9 BK101.out 1).trans rfl
      have hcz29_2 : w28.cell? ⟨gb101, 2, none⟩ = some (.slice Ao10 t106.length co10) := (kC9 BK101.out 2).trans rfl
      have hfz29_0 := kF9 BK101.out 0
      have hfz29_1 := kF9 BK101.out 1
      have hfz29_2 := kF9 BK101.out 2
      try go_wp2_with (first | ((with_reducible refine gC9 (f := 23) rfl ?_); refine goesL_ (some 21) rfl rfl Tryz.func23 (by kernel_rfl) rfl #[.slice Ao10 t106.length co10] rfl (by (try simp only [List.map_toArray, List.map_cons, List.map_nil]); first | done | rfl | (simp only [List.length_drop, List.length_take]; rfl)) ?_; (with_reducible refine (digits_Nat.calls _ _ t106 t114 _ (PowTab.below HT.out (by repeat (first | (with_reducible first | exact HB.out | apply bA9 | apply bN9 | apply bD9 | refine bS9 ?_ GE101.out) | exact HB.out))) ?side1 ?side2 A22.out).mono ?_); (case side1 => repeat (first | exact (Kd.rR9 HO_102002.out).2.2 | (with_reducible refine Kd.cA9 ?_ _) | (with_reducible refine Kd.cN9 ?_ _) | (with_reducible refine Kd.cD9 ?_))); (case side2 => exact (Kd.rR9 HO_102002.out).2.1); rintro e w30 ⟨rfl, hb⟩; refine ⟨_, rfl, ?_⟩; have n0_ := Aside0.mk (Kd.rB9 (by (with_reducible repeat (first | apply Kd.rA9 | apply Kd.rN9 | apply Kd.rD9)); exact HO_102001.out) hb); have n1_ := Aside0.mk (Kd.rB9 (by (with_reducible repeat (first | apply Kd.rA9 | apply Kd.rN9 | apply Kd.rD9)); exact HO_102002.out) hb); have n2_ := Aside0.mk (Kd.rB9 (by (with_reducible repeat (first | apply Kd.rA9 | apply Kd.rN9 | apply Kd.rD9)); exact HO112.out) hb); have n3_ := Aside0.mk (kB9 (g := gb101) (o := .cells #[.bool t102, .slice Ao9 t103.length co9, .slice Ao10 t106.length co10] 35 (0, 0)) (by (with_reducible repeat (first | refine kN9 ?_ _ | refine kD9 ?_ | refine kA9 ?_ _)); exact BK101.out) hb); have n4_ := Aside0.mk (bT9 (by repeat (first | (with_reducible first | exact HB.out | apply bA9 | apply bN9 | apply bD9 | refine bS9 ?_ GE101.out) | exact HB.out)) hb); clear HO_102001; clear HO_102002; clear HO112; clear BK101; clear HB; have HO_102001 := n0_; have HO_102002 := n1_; have HO112 := n2_; have BK101 := n3_; have HB := n4_; clear n0_ n1_ n2_ n3_ n4_; (try clear hb); (try clear hb2); (try clear hk); (try clear hi)))
      go_ret
      exact ⟨by first | rfl | (simp [eN9, eS9] <;> rfl) | (simp [*, eN9, eS9] <;> rfl), by repeat (first | (with_reducible first | exact HB.out | apply bA9 | apply bN9 | apply bD9 | refine bS9 ?_ GE101.out) | exact HB.out)⟩
     ·rw [if_neg c24] at H
      exact absurd H (by simp)
    ·rw [if_neg c23] at H
     exact absurd H (by simp)
end Go.Proofs.YthppjdmkinbccaaGreatDoor.Print

namespace Go.Proofs.YthppjdmkinbccaaGreatDoor.Print
open Go.RowKit Go.Proofs.YthppjdmkinbccaaGreatDoorW.PrintWords Go.Proofs.YthppjdmkinbccaaGreatDoorW.PrintLast Go.Proofs.YthppjdmkinbccaaGreatDoorW.PrintMore
attribute [local go_sem] max2_int min2_int max_two min_two max_three min_three max_four min_four   -- for this text's walks alone
set_option linter.unusedVariables false
set_option linter.unusedSimpArgs false
def kn9.f (k : Nat)  : Option (Bool) := (digits_ParseNat.f (⟨#[48, 48, 55]⟩ : ByteArray)).bind fun bt152 => ((digits_ParseNat.f (⟨#[49, 120]⟩ : ByteArray)).bind fun bt156 => ((digits_ParseNat.f (⟨#[]⟩ : ByteArray)).bind fun bt160 => ((digits_Nat.f (([0, 1] : List Int))).bind fun t167 => (if t167.toList = ([52, 50, 57, 52, 57, 54, 55, 50, 57, 54] : List UInt8) then ((digits_Rat.f k true (([3] : List Int)) (([4] : List Int))).bind fun t174 => (if t174.toList = ([45, 51, 47, 52] : List UInt8) then ((digits_Rat.f k false (([7] : List Int)) (([1] : List Int))).bind fun t181 => (if t181.toList = ([55] : List UInt8) then (if bt152.2 = 19 then (if bt156.2 = 19 then (if bt160.2 = 19 then ((falls9.f k (⟨#[50, 47, 52]⟩ : ByteArray) 6).bind fun t182 => (if t182 = true then ((falls9.f k (⟨#[51, 47, 49]⟩ : ByteArray) 6).bind fun t183 => (if t183 = true then ((falls9.f k (⟨#[45, 48]⟩ : ByteArray) 6).bind fun t184 => (if t184 = true then ((falls9.f k (⟨#[48, 47, 51]⟩ : ByteArray) 6).bind fun t185 => (if t185 = true then ((falls9.f k (⟨#[49, 47, 48]⟩ : ByteArray) 6).bind fun t186 => (if t186 = true then ((falls9.f k (⟨#[48, 49, 47, 50]⟩ : ByteArray) 19).bind fun t187 => (if t187 = true then ((falls9.f k (⟨#[49, 47]⟩ : ByteArray) 19).bind fun t188 => (if t188 = true then ((falls9.f k (⟨#[45, 47, 50]⟩ : ByteArray) 19).bind fun t189 => (if t189 = true then ((falls9.f k (⟨#[49, 47, 45, 50]⟩ : ByteArray) 19).bind fun t190 => (if t190 = true then ((falls9.f k (⟨#[43, 49]⟩ : ByteArray) 19).bind fun t191 => (some t191)) else (none))) else (none))) else (none))) else (none))) else (none))) else (none))) else (none))) else (none))) else (none))) else (none)) else (none)) else (none)) else (none))) else (none))) else (none)))))
theorem kn9.mono : ∀ k, LeO (kn9.f k ) (kn9.f (k + 1) ) := by
 intro  k
 unfold kn9.f
 repeat' first
   | (with_reducible exact digits_Rat.mono _ _ _ _)
   | (with_reducible exact falls9.mono _ _ _)
   | (with_reducible exact LeO.refl _)
   | (with_reducible exact LeO.none _)
   | (with_reducible refine LeO.ite ?_ ?_)
   | (with_reducible refine LeO.bind ?_ (fun _ => ?_))
   | exact digits_Rat.mono _ _ _ _
   | exact falls9.mono _ _ _
   | exact LeO.none _
   | refine LeO.ite ?_ ?_
   | refine LeO.bind ?_ (fun _ => ?_)
set_option maxHeartbeats 8000000 in
set_option maxRecDepth 100000 in
theorem kn9.calls (k : Nat)  (r : Bool) (w : World) (ht : PowTab w) (h : kn9.f k  = some r) :
  Calls Tryz.prog 15 #[] w fun e w' => e = .returned (.bool r) ∧ Below w.heap.size w w' := by
 have HT := Aside0.mk ht
 clear ht
 have hu35 := Tryz.underlying35
 have HB := Aside0.mk (Below.refl w.heap.size w)
 have H : ((digits_ParseNat.f (⟨#[48, 48, 55]⟩ : ByteArray)).bind fun bt152 => ((digits_ParseNat.f (⟨#[49, 120]⟩ : ByteArray)).bind fun bt156 => ((digits_ParseNat.f (⟨#[]⟩ : ByteArray)).bind fun bt160 => ((digits_Nat.f (([0, 1] : List Int))).bind fun t167 => (if t167.toList = ([52, 50, 57, 52, 57, 54, 55, 50, 57, 54] : List UInt8) then ((digits_Rat.f k true (([3] : List Int)) (([4] : List Int))).bind fun t174 => (if t174.toList = ([45, 51, 47, 52] : List UInt8) then ((digits_Rat.f k false (([7] : List Int)) (([1] : List Int))).bind fun t181 => (if t181.toList = ([55] : List UInt8) then (if bt152.2 = 19 then (if bt156.2 = 19 then (if bt160.2 = 19 then ((falls9.f k (⟨#[50, 47, 52]⟩ : ByteArray) 6).bind fun t182 => (if t182 = true then ((falls9.f k (⟨#[51, 47, 49]⟩ : ByteArray) 6).bind fun t183 => (if t183 = true then ((falls9.f k (⟨#[45, 48]⟩ : ByteArray) 6).bind fun t184 => (if t184 = true then ((falls9.f k (⟨#[48, 47, 51]⟩ : ByteArray) 6).bind fun t185 => (if t185 = true then ((falls9.f k (⟨#[49, 47, 48]⟩ : ByteArray) 6).bind fun t186 => (if t186 = true then ((falls9.f k (⟨#[48, 49, 47, 50]⟩ : ByteArray) 19).bind fun t187 => (if t187 = true then ((falls9.f k (⟨#[49, 47]⟩ : ByteArray) 19).bind fun t188 => (if t188 = true then ((falls9.f k (⟨#[45, 47, 50]⟩ : ByteArray) 19).bind fun t189 => (if t189 = true then ((falls9.f k (⟨#[49, 47, 45, 50]⟩ : ByteArray) 19).bind fun t190 => (if t190 = true then ((falls9.f k (⟨#[43, 49]⟩ : ByteArray) 19).bind fun t191 => (some t191)) else (none))) else (none))) else (none))) else (none))) else (none))) else (none))) else (none))) else (none))) else (none))) else (none)) else (none)) else (none)) else (none))) else (none))) else (none)))))) = some r := h
 clear h
 replace H := Option.bind_eq_some_iff.mp H
 obtain ⟨⟨t152, t153⟩, A10, H⟩ := H
 (try dsimp only at H)
 have A1 := Aside0.mk A10
 clear A10
 replace H := Option.bind_eq_some_iff.mp H
 obtain ⟨⟨t156, t157⟩, A20, H⟩ := H
 (try dsimp only at H)
 have A2 := Aside0.mk A20
 clear A20
 replace H := Option.bind_eq_some_iff.mp H
 obtain ⟨⟨t160, t161⟩, A30, H⟩ := H
 (try dsimp only at H)
 have A3 := Aside0.mk A30
 clear A30
 obtain ⟨y164, hy164⟩ : ∃ y_ : List Int, y_ = (([0, 1] : List Int)) := ⟨_, rfl⟩
 replace H : ((digits_Nat.f y164).bind fun t167 => (if t167.toList = ([52, 50, 57, 52, 57, 54, 55, 50, 57, 54] : List UInt8) then ((digits_Rat.f k true (([3] : List Int)) (([4] : List Int))).bind fun t174 => (if t174.toList = ([45, 51, 47, 52] : List UInt8) then ((digits_Rat.f k false (([7] : List Int)) (([1] : List Int))).bind fun t181 => (if t181.toList = ([55] : List UInt8) then (if t153 = 19 then (if t157 = 19 then (if t161 = 19 then ((falls9.f k (⟨#[50, 47, 52]⟩ : ByteArray) 6).bind fun t182 => (if t182 = true then ((falls9.f k (⟨#[51, 47, 49]⟩ : ByteArray) 6).bind fun t183 => (if t183 = true then ((falls9.f k (⟨#[45, 48]⟩ : ByteArray) 6).bind fun t184 => (if t184 = true then ((falls9.f k (⟨#[48, 47, 51]⟩ : ByteArray) 6).bind fun t185 => (if t185 = true then ((falls9.f k (⟨#[49, 47, 48]⟩ : ByteArray) 6).bind fun t186 => (if t186 = true then ((falls9.f k (⟨#[48, 49, 47, 50]⟩ : ByteArray) 19).bind fun t187 => (if t187 = true then ((falls9.f k (⟨#[49, 47]⟩ : ByteArray) 19).bind fun t188 => (if t188 = true then ((falls9.f k (⟨#[45, 47, 50]⟩ : ByteArray) 19).bind fun t189 => (if t189 = true then ((falls9.f k (⟨#[49, 47, 45, 50]⟩ : ByteArray) 19).bind fun t190 => (if t190 = true then ((falls9.f k (⟨#[43, 49]⟩ : ByteArray) 19).bind fun t191 => (some t191)) else (none))) else (none))) else (none))) else (none))) else (none))) else (none))) else (none))) else (none))) else (none))) else (none)) else (none)) else (none)) else (none))) else (none))) else (none))) = some r := by first | (rw [hy164]; with_reducible exact H) | (have H2_ := (Option.bind_some _ _).symm.trans H; rw [hy164]; with_reducible exact H2_) | (have H2_ := (Option.bind_some _ _).symm.trans H; with_reducible exact H2_) | with_reducible exact H | (rw [hy164]; exact H) | exact H
 have Ny164 := Aside0.mk hy164
 clear hy164
 replace H := Option.bind_eq_some_iff.mp H
 obtain ⟨t167, A40, H⟩ := H
 (try dsimp only at H)
 have A4 := Aside0.mk A40
 clear A40
 by_cases c5 : t167.toList = ([52, 50, 57, 52, 57, 54, 55, 50, 57, 54] : List UInt8)
 ·rw [if_pos c5] at H
  have c5b0 : (t167.toList == ([52, 50, 57, 52, 57, 54, 55, 50, 57, 54] : List UInt8)) = true := beq_iff_eq.mpr c5
  have c5b1 : (t167.toList != ([52, 50, 57, 52, 57, 54, 55, 50, 57, 54] : List UInt8)) = false := bne_eq_false_iff_eq.mpr c5
  clear c5
  obtain ⟨y168, hy168⟩ : ∃ y_ : List Int, y_ = (([3] : List Int)) := ⟨_, rfl⟩
  replace H : ((digits_Rat.f k true y168 (([4] : List Int))).bind fun t174 => (if t174.toList = ([45, 51, 47, 52] : List UInt8) then ((digits_Rat.f k false (([7] : List Int)) (([1] : List Int))).bind fun t181 => (if t181.toList = ([55] : List UInt8) then (if t153 = 19 then (if t157 = 19 then (if t161 = 19 then ((falls9.f k (⟨#[50, 47, 52]⟩ : ByteArray) 6).bind fun t182 => (if t182 = true then ((falls9.f k (⟨#[51, 47, 49]⟩ : ByteArray) 6).bind fun t183 => (if t183 = true then ((falls9.f k (⟨#[45, 48]⟩ : ByteArray) 6).bind fun t184 => (if t184 = true then ((falls9.f k (⟨#[48, 47, 51]⟩ : ByteArray) 6).bind fun t185 => (if t185 = true then ((falls9.f k (⟨#[49, 47, 48]⟩ : ByteArray) 6).bind fun t186 => (if t186 = true then ((falls9.f k (⟨#[48, 49, 47, 50]⟩ : ByteArray) 19).bind fun t187 => (if t187 = true then ((falls9.f k (⟨#[49, 47]⟩ : ByteArray) 19).bind fun t188 => (if t188 = true then ((falls9.f k (⟨#[45, 47, 50]⟩ : ByteArray) 19).bind fun t189 => (if t189 = true then ((falls9.f k (⟨#[49, 47, 45, 50]⟩ : ByteArray) 19).bind fun t190 => (if t190 = true then ((falls9.f k (⟨#[43, 49]⟩ : ByteArray) 19).bind fun t191 => (some t191)) else (none))) else (none))) else (none))) else (none))) else (none))) else (none))) else (none))) else (none))) else (none))) else (none)) else (none)) else (none)) else (none))) else (none))) = some r := by first | (rw [hy168]; with_reducible exact H) | (have H2_ := (Option.bind_some _ _).symm.trans H; rw [hy168]; with_reducible exact H2_) | (have H2_ := (Option.bind_some _ _).symm.trans H; with_reducible exact H2_) | with_reducible exact H | (rw [hy168]; exact H) | exact H
  have Ny168 := Aside0.mk hy168
  clear hy168
  obtain ⟨y171, hy171⟩ : ∃ y_ : List Int, y_ = (([4] : List Int)) := ⟨_, rfl⟩
  replace H : ((digits_Rat.f k true y168 y171).bind fun t174 => (if t174.toList = ([45, 51, 47, 52] : List UInt8) then ((digits_Rat.f k false (([7] : List Int)) (([1] : List Int))).bind fun t181 => (if t181.toList = ([55] : List UInt8) then (if t153 = 19 then (if t157 = 19 then (if t161 = 19 then ((falls9.f k (⟨#[50, 47, 52]⟩ : ByteArray) 6).bind fun t182 => (if t182 = true then ((falls9.f k (⟨#[51, 47, 49]⟩ : ByteArray) 6).bind fun t183 => (if t183 = true then ((falls9.f k (⟨#[45, 48]⟩ : ByteArray) 6).bind fun t184 => (if t184 = true then ((falls9.f k (⟨#[48, 47, 51]⟩ : ByteArray) 6).bind fun t185 => (if t185 = true then ((falls9.f k (⟨#[49, 47, 48]⟩ : ByteArray) 6).bind fun t186 => (if t186 = true then ((falls9.f k (⟨#[48, 49, 47, 50]⟩ : ByteArray) 19).bind fun t187 => (if t187 = true then ((falls9.f k (⟨#[49, 47]⟩ : ByteArray) 19).bind fun t188 => (if t188 = true then ((falls9.f k (⟨#[45, 47, 50]⟩ : ByteArray) 19).bind fun t189 => (if t189 = true then ((falls9.f k (⟨#[49, 47, 45, 50]⟩ : ByteArray) 19).bind fun t190 => (if t190 = true then ((falls9.f k (⟨#[43, 49]⟩ : ByteArray) 19).bind fun t191 => (some t191)) else (none))) else (none))) else (none))) else (none))) else (none))) else (none))) else (none))) else (none))) else (none))) else (none)) else (none)) else (none)) else (none))) else (none))) = some r := by first | (rw [hy171]; with_reducible exact H) | (have H2_ := (Option.bind_some _ _).symm.trans H; rw [hy171]; with_reducible exact H2_) | (have H2_ := (Option.bind_some _ _).symm.trans H; with_reducible exact H2_) | with_reducible exact H | (rw [hy171]; exact H) | exact H
  have Ny171 := Aside0.mk hy171
  clear hy171
  replace H := Option.bind_eq_some_iff.mp H
  obtain ⟨t174, A60, H⟩ := H
  (try dsimp only at H)
  have A6 := Aside0.mk A60
  clear A60
  by_cases c7 : t174.toList = ([45, 51, 47, 52] : List UInt8)
  ·rw [if_pos c7] at H
   have c7b0 : (t174.toList == ([45, 51, 47, 52] : List UInt8)) = true := beq_iff_eq.mpr c7
   have c7b1 : (t174.toList != ([45, 51, 47, 52] : List UInt8)) = false := bne_eq_false_iff_eq.mpr c7
   clear c7
   obtain ⟨y175, hy175⟩ : ∃ y_ : List Int, y_ = (([7] : List Int)) := ⟨_, rfl⟩
   replace H : ((digits_Rat.f k false y175 (([1] : List Int))).bind fun t181 => (if t181.toList = ([55] : List UInt8) then (if t153 = 19 then (if t157 = 19 then (if t161 = 19 then ((falls9.f k (⟨#[50, 47, 52]⟩ : ByteArray) 6).bind fun t182 => (if t182 = true then ((falls9.f k (⟨#[51, 47, 49]⟩ : ByteArray) 6).bind fun t183 => (if t183 = true then ((falls9.f k (⟨#[45, 48]⟩ : ByteArray) 6).bind fun t184 => (if t184 = true then ((falls9.f k (⟨#[48, 47, 51]⟩ : ByteArray) 6).bind fun t185 => (if t185 = true then ((falls9.f k (⟨#[49, 47, 48]⟩ : ByteArray) 6).bind fun t186 => (if t186 = true then ((falls9.f k (⟨#[48, 49, 47, 50]⟩ : ByteArray) 19).bind fun t187 => (if t187 = true then ((falls9.f k (⟨#[49, 47]⟩ : ByteArray) 19).bind fun t188 => (if t188 = true then ((falls9.f k (⟨#[45, 47, 50]⟩ : ByteArray) 19).bind fun t189 => (if t189 = true then ((falls9.f k (⟨#[49, 47, 45, 50]⟩ : ByteArray) 19).bind fun t190 => (if t190 = true then ((falls9.f k (⟨#[43, 49]⟩ : ByteArray) 19).bind fun t191 => (some t191)) else (none))) else (none))) else (none))) else (none))) else (none))) else (none))) else (none))) else (none))) else (none))) else (none)) else (none)) else (none)) else (none))) = some r := by first | (rw [hy175]; with_reducible exact H) | (have H2_ := (Option.bind_some _ _).symm.trans H; rw [hy175]; with_reducible exact H2_) | (have H2_ := (Option.bind_some _ _).symm.trans H; with_reducible exact H2_) | with_reducible exact H | (rw [hy175]; exact H) | exact H
   have Ny175 := Aside0.mk hy175
   clear hy175
   obtain ⟨y178, hy178⟩ : ∃ y_ : List Int, y_ = (([1] : List Int)) := ⟨_, rfl⟩
   replace H : ((digits_Rat.f k false y175 y178).bind fun t181 => (if t181.toList = ([55] : List UInt8) then (if t153 = 19 then (if t157 = 19 then (if t161 = 19 then ((falls9.f k (⟨#[50, 47, 52]⟩ : ByteArray) 6).bind fun t182 => (if t182 = true then ((falls9.f k (⟨#[51, 47, 49]⟩ : ByteArray) 6).bind fun t183 => (if t183 = true then ((falls9.f k (⟨#[45, 48]⟩ : ByteArray) 6).bind fun t184 => (if t184 = true then ((falls9.f k (⟨#[48, 47, 51]⟩ : ByteArray) 6).bind fun t185 => (if t185 = true then ((falls9.f k (⟨#[49, 47, 48]⟩ : ByteArray) 6).bind fun t186 => (if t186 = true then ((falls9.f k (⟨#[48, 49, 47, 50]⟩ : ByteArray) 19).bind fun t187 => (if t187 = true then ((falls9.f k (⟨#[49, 47]⟩ : ByteArray) 19).bind fun t188 => (if t188 = true then ((falls9.f k (⟨#[45, 47, 50]⟩ : ByteArray) 19).bind fun t189 => (if t189 = true then ((falls9.f k (⟨#[49, 47, 45, 50]⟩ : ByteArray) 19).bind fun t190 => (if t190 = true then ((falls9.f k (⟨#[43, 49]⟩ : ByteArray) 19).bind fun t191 => (some t191)) else (none))) else (none))) else (none))) else (none))) else (none))) else (none))) else (none))) else (none))) else (none))) else (none)) else (none)) else (none)) else (none))) = some r := by first | (rw [hy178]; with_reducible exact H) | (have H2_ := (Option.bind_some _ _).symm.trans H; rw [hy178]; with_reducible exact H2_) | (have H2_ := (Option.bind_some _ _).symm.trans H; with_reducible exact H2_) | with_reducible exact H | (rw [hy178]; exact H) | exact H
   have Ny178 := Aside0.mk hy178
   clear hy178
   replace H := Option.bind_eq_some_iff.mp H
   obtain ⟨t181, A80, H⟩ := H
   (try dsimp only at H)
   have A8 := Aside0.mk A80
   clear A80
   by_cases c9 : t181.toList = ([55] : List UInt8)
   ·rw [if_pos c9] at H
    have c9b0 : (t181.toList == ([55] : List UInt8)) = true := beq_iff_eq.mpr c9
    have c9b1 : (t181.toList != ([55] : List UInt8)) = false := bne_eq_false_iff_eq.mpr c9
    clear c9
    by_cases c10 : t153 = 19
    ·rw [if_pos c10] at H
     have c10b0 : (t153 == 19) = true := beq_iff_eq.mpr c10
     have c10b1 : (t153 != 19) = false := bne_eq_false_iff_eq.mpr c10
     clear c10
     by_cases c11 : t157 = 19
     ·rw [if_pos c11] at H
      have c11b0 : (t157 == 19) = true := beq_iff_eq.mpr c11
      have c11b1 : (t157 != 19) = false := bne_eq_false_iff_eq.mpr c11
      clear c11
      by_cases c12 : t161 = 19
      ·rw [if_pos c12] at H
       have c12b0 : (t161 == 19) = true := beq_iff_eq.mpr c12
       have c12b1 : (t161 != 19) = false := bne_eq_false_iff_eq.mpr c12
       clear c12
       replace H := Option.bind_eq_some_iff.mp H
       obtain ⟨t182, A130, H⟩ := H
       (try dsimp only at H)
       have A13 := Aside0.mk A130
       clear A130
       by_cases c14 : t182 = true
       ·subst c14
        have H1 : ((falls9.f k (⟨#[51, 47, 49]⟩ : ByteArray) 6).bind fun t183 => (if t183 = true then ((falls9.f k (⟨#[45, 48]⟩ : ByteArray) 6).bind fun t184 => (if t184 = true then ((falls9.f k (⟨#[48, 47, 51]⟩ : ByteArray) 6).bind fun t185 => (if t185 = true then ((falls9.f k (⟨#[49, 47, 48]⟩ : ByteArray) 6).bind fun t186 => (if t186 = true then ((falls9.f k (⟨#[48, 49, 47, 50]⟩ : ByteArray) 19).bind fun t187 => (if t187 = true then ((falls9.f k (⟨#[49, 47]⟩ : ByteArray) 19).bind fun t188 => (if t188 = true then ((falls9.f k (⟨#[45, 47, 50]⟩ : ByteArray) 19).bind fun t189 => (if t189 = true then ((falls9.f k (⟨#[49, 47, 45, 50]⟩ : ByteArray) 19).bind fun t190 => (if t190 = true then ((falls9.f k (⟨#[43, 49]⟩ : ByteArray) 19).bind fun t191 => (some t191)) else (none))) else (none))) else (none))) else (none))) else (none))) else (none))) else (none))) else (none))) = some r := by rw [if_pos rfl] at H; exact H
        clear H
        have H := H1
        clear H1
        replace H := Option.bind_eq_some_iff.mp H
        obtain ⟨t183, A150, H⟩ := H
        (try dsimp only at H)
        have A15 := Aside0.mk A150
        clear A150
        by_cases c16 : t183 = true
        ·subst c16
         have H1 : ((falls9.f k (⟨#[45, 48]⟩ : ByteArray) 6).bind fun t184 => (if t184 = true then ((falls9.f k (⟨#[48, 47, 51]⟩ : ByteArray) 6).bind fun t185 => (if t185 = true then ((falls9.f k (⟨#[49, 47, 48]⟩ : ByteArray) 6).bind fun t186 => (if t186 = true then ((falls9.f k (⟨#[48, 49, 47, 50]⟩ : ByteArray) 19).bind fun t187 => (if t187 = true then ((falls9.f k (⟨#[49, 47]⟩ : ByteArray) 19).bind fun t188 => (if t188 = true then ((falls9.f k (⟨#[45, 47, 50]⟩ : ByteArray) 19).bind fun t189 => (if t189 = true then ((falls9.f k (⟨#[49, 47, 45, 50]⟩ : ByteArray) 19).bind fun t190 => (if t190 = true then ((falls9.f k (⟨#[43, 49]⟩ : ByteArray) 19).bind fun t191 => (some t191)) else (none))) else (none))) else (none))) else (none))) else (none))) else (none))) else (none))) = some r := by rw [if_pos rfl] at H; exact H
         clear H
         have H := H1
         clear H1
         replace H := Option.bind_eq_some_iff.mp H
         obtain ⟨t184, A170, H⟩ := H
         (try dsimp only at H)
         have A17 := Aside0.mk A170
         clear A170
         by_cases c18 : t184 = true
         ·subst c18
          have H1 : ((falls9.f k (⟨#[48, 47, 51]⟩ : ByteArray) 6).bind fun t185 => (if t185 = true then ((falls9.f k (⟨#[49, 47, 48]⟩ : ByteArray) 6).bind fun t186 => (if t186 = true then ((falls9.f k (⟨#[48, 49, 47, 50]⟩ : ByteArray) 19).bind fun t187 => (if t187 = true then ((falls9.f k (⟨#[49, 47]⟩ : ByteArray) 19).bind fun t188 => (if t188 = true then ((falls9.f k (⟨#[45, 47, 50]⟩ : ByteArray) 19).bind fun t189 => (if t189 = true then ((falls9.f k (⟨#[49, 47, 45, 50]⟩ : ByteArray) 19).bind fun t190 => (if t190 = true then ((falls9.f k (⟨#[43, 49]⟩ : ByteArray) 19).bind fun t191 => (some t191)) else (none))) else (none))) else (none))) else (none))) else (none))) else (none))) = some r := by rw [if_pos rfl] at H; exact H
          clear H
          have H := H1
          clear H1
          replace H := Option.bind_eq_some_iff.mp H
          obtain ⟨t185, A190, H⟩ := H
          (try dsimp only at H)
          have A19 := Aside0.mk A190
          clear A190
          by_cases c20 : t185 = true
          ·subst c20
           have H1 : ((falls9.f k (⟨#[49, 47, 48]⟩ : ByteArray) 6).bind fun t186 => (if t186 = true then ((falls9.f k (⟨#[48, 49, 47, 50]⟩ : ByteArray) 19).bind fun t187 => (if t187 = true then ((falls9.f k (⟨#[49, 47]⟩ : ByteArray) 19).bind fun t188 => (if t188 = true then ((falls9.f k (⟨#[45, 47, 50]⟩ : ByteArray) 19).bind fun t189 => (if t189 = true then ((falls9.f k (⟨#[49, 47, 45, 50]⟩ : ByteArray) 19).bind fun t190 => (if t190 = true then ((falls9.f k (⟨#[43, 49]⟩ : ByteArray) 19).bind fun t191 => (some t191)) else (none))) else (none))) else (none))) else (none))) else (none))) = some r := by rw [if_pos rfl] at H; exact H
           clear H
           have H := H1
           clear H1
           replace H := Option.bind_eq_some_iff.mp H
           obtain ⟨t186, A210, H⟩ := H
           (try dsimp only at H)
           have A21 := Aside0.mk A210
           clear A210
           by_cases c22 : t186 = true
           ·subst c22
            have H1 : ((falls9.f k (⟨#[48, 49, 47, 50]⟩ : ByteArray) 19).bind fun t187 => (if t187 = true then ((falls9.f k (⟨#[49, 47]⟩ : ByteArray) 19).bind fun t188 => (if t188 = true then ((falls9.f k (⟨#[45, 47, 50]⟩ : ByteArray) 19).bind fun t189 => (if t189 = true then ((falls9.f k (⟨#[49, 47, 45, 50]⟩ : ByteArray) 19).bind fun t190 => (if t190 = true then ((falls9.f k (⟨#[43, 49]⟩ : ByteArray) 19).bind fun t191 => (some t191)) else (none))) else (none))) else (none))) else (none))) = some r := by rw [if_pos rfl] at H; exact H
            clear H
            have H := H1
            clear H1
            replace H := Option.bind_eq_some_iff.mp H
            obtain ⟨t187, A230, H⟩ := H
            (try dsimp only at H)
            have A23 := Aside0.mk A230
            clear A230
            by_cases c24 : t187 = true
            ·subst c24
             have H1 : ((falls9.f k (⟨#[49, 47]⟩ : ByteArray) 19).bind fun t188 => (if t188 = true then ((falls9.f k (⟨#[45, 47, 50]⟩ : ByteArray) 19).bind fun t189 => (if t189 = true then ((falls9.f k (⟨#[49, 47, 45, 50]⟩ : ByteArray) 19).bind fun t190 => (if t190 = true then ((falls9.f k (⟨#[43, 49]⟩ : ByteArray) 19).bind fun t191 => (some t191)) else (none))) else (none))) else (none))) = some r := by rw [if_pos rfl] at H; exact H
             clear H
             have H := H1
             clear H1
             replace H := Option.bind_eq_some_iff.mp H
             obtain ⟨t188, A250, H⟩ := H
             (try dsimp only at H)
             have A25 := Aside0.mk A250
             clear A250
             by_cases c26 : t188 = true
             ·subst c26
              have H1 : ((falls9.f k (⟨#[45, 47, 50]⟩ : ByteArray) 19).bind fun t189 => (if t189 = true then ((falls9.f k (⟨#[49, 47, 45, 50]⟩ : ByteArray) 19).bind fun t190 => (if t190 = true then ((falls9.f k (⟨#[43, 49]⟩ : ByteArray) 19).bind fun t191 => (some t191)) else (none))) else (none))) = some r := by rw [if_pos rfl] at H; exact H
              clear H
              have H := H1
              clear H1
              replace H := Option.bind_eq_some_iff.mp H
              obtain ⟨t189, A270, H⟩ := H
              (try dsimp only at H)
              have A27 := Aside0.mk A270
              clear A270
              by_cases c28 : t189 = true
              ·subst c28
               have H1 : ((falls9.f k (⟨#[49, 47, 45, 50]⟩ : ByteArray) 19).bind fun t190 => (if t190 = true then ((falls9.f k (⟨#[43, 49]⟩ : ByteArray) 19).bind fun t191 => (some t191)) else (none))) = some r := by rw [if_pos rfl] at H; exact H
               clear H
               have H := H1
               clear H1
               replace H := Option.bind_eq_some_iff.mp H
               obtain ⟨t190, A290, H⟩ := H
               (try dsimp only at H)
               have A29 := Aside0.mk A290
               clear A290
               by_cases c30 : t190 = true
               ·subst c30
                have H1 : ((falls9.f k (⟨#[43, 49]⟩ : ByteArray) 19).bind fun t191 => (some t191)) = some r := by rw [if_pos rfl] at H; exact H
                clear H
                have H := H1
                clear H1
                replace H := Option.bind_eq_some_iff.mp H
                obtain ⟨t191, A310, H⟩ := H
                replace H : (some t191) = some r := H
                have A31 := Aside0.mk A310
                clear A310
                obtain rfl := Option.some.inj H
                go_enter Tryz.func15, Tryz.ntmps15
                go_wp2_with (first | ((with_reducible refine gC9 (f := 12) rfl ?_); refine goesL_ (some 8) rfl rfl Tryz.func12 (by kernel_rfl) rfl #[.string (⟨#[48, 48, 55]⟩ : ByteArray)] rfl (by (try simp only [List.map_toArray, List.map_cons, List.map_nil]); first | done | rfl | (simp only [List.length_drop, List.length_take]; rfl)) ?_; (with_reducible refine (digits_ParseNat.calls (⟨#[48, 48, 55]⟩ : ByteArray) t152 t153 _ A1.out).mono ?_); rintro e w32 ⟨v154, rfl, ho0, hb⟩; refine ⟨_, rfl, ?_⟩; have n0_ := Aside0.mk (Kd.rL9 ho0 (bZ9 (by repeat (first | (with_reducible first | exact HB.out | apply bA9 | apply bN9 | apply bD9) | exact HB.out)))); have n1_ := Aside0.mk (bT9 (by repeat (first | (with_reducible first | exact HB.out | apply bA9 | apply bN9 | apply bD9) | exact HB.out)) hb); clear HB; have HO155 := n0_; have HB := n1_; clear n0_ n1_; (try clear hb); (try clear hb2); (try clear hk); (try clear hi); (try clear ho0)) | ((with_reducible refine gC9 (f := 12) rfl ?_); refine goesL_ (some 12) rfl rfl Tryz.func12 (by kernel_rfl) rfl #[.string (⟨#[49, 120]⟩ : ByteArray)] rfl (by (try simp only [List.map_toArray, List.map_cons, List.map_nil]); first | done | rfl | (simp only [List.length_drop, List.length_take]; rfl)) ?_; (with_reducible refine (digits_ParseNat.calls (⟨#[49, 120]⟩ : ByteArray) t156 t157 _ A2.out).mono ?_); rintro e w33 ⟨v158, rfl, ho0, hb⟩; refine ⟨_, rfl, ?_⟩; have n0_ := Aside0.mk (Kd.R_elder' (by (with_reducible repeat (first | apply Kd.rA9 | apply Kd.rN9 | apply Kd.rD9)); exact HO155.out) (Kd.R_base ho0) hb); have n1_ := Aside0.mk (Kd.rL9 (Kd.R_new' ho0 (Kd.R_lt (by (with_reducible repeat (first | apply Kd.rA9 | apply Kd.rN9 | apply Kd.rD9)); exact HO155.out))) (bZ9 (by repeat (first | (with_reducible first | exact HB.out | apply bA9 | apply bN9 | apply bD9) | exact HB.out)))); have n2_ := Aside0.mk (bT9 (by repeat (first | (with_reducible first | exact HB.out | apply bA9 | apply bN9 | apply bD9) | exact HB.out)) hb); clear HO155; clear HB; have HO155 := n0_; have HO159 := n1_; have HB := n2_; clear n0_ n1_ n2_; (try clear hb); (try clear hb2); (try clear hk); (try clear hi); (try clear ho0)) | ((with_reducible refine gC9 (f := 12) rfl ?_); refine goesL_ (some 16) rfl rfl Tryz.func12 (by kernel_rfl) rfl #[.string (⟨#[]⟩ : ByteArray)] rfl (by (try simp only [List.map_toArray, List.map_cons, List.map_nil]); first | done | rfl | (simp only [List.length_drop, List.length_take]; rfl)) ?_; (with_reducible refine (digits_ParseNat.calls (⟨#[]⟩ : ByteArray) t160 t161 _ A3.out).mono ?_); rintro e w34 ⟨v162, rfl, ho0, hb⟩; refine ⟨_, rfl, ?_⟩; have n0_ := Aside0.mk (Kd.R_elder' (by (with_reducible repeat (first | apply Kd.rA9 | apply Kd.rN9 | apply Kd.rD9)); exact HO155.out) (Kd.R_base ho0) hb); have n1_ := Aside0.mk (Kd.R_elder' (by (with_reducible repeat (first | apply Kd.rA9 | apply Kd.rN9 | apply Kd.rD9)); exact HO159.out) (Kd.R_base ho0) hb); have n2_ := Aside0.mk (Kd.rL9 (Kd.R_new' (Kd.R_new' ho0 (Kd.R_lt (by (with_reducible repeat (first | apply Kd.rA9 | apply Kd.rN9 | apply Kd.rD9)); exact HO155.out))) (Kd.R_lt (by (with_reducible repeat (first | apply Kd.rA9 | apply Kd.rN9 | apply Kd.rD9)); exact HO159.out))) (bZ9 (by repeat (first | (with_reducible first | exact HB.out | apply bA9 | apply bN9 | apply bD9) | exact HB.out)))); have n3_ := Aside0.mk (bT9 (by repeat (first | (with_reducible first | exact HB.out | apply bA9 | apply bN9 | apply bD9) | exact HB.out)) hb); clear HO155; clear HO159; clear HB; have HO155 := n0_; have HO159 := n1_; have HO163 := n2_; have HB := n3_; clear n0_ n1_ n2_ n3_; (try clear hb); (try clear hb2); (try clear hk); (try clear hi); (try clear ho0)) | ((with_reducible refine gD9 (N := 19) rfl ?_); (try (refine gate_guard (by rfl) ?_; dsimp only)); refine Kd.R_lit (Kd.int .u32) _ 56 ?hg (N := 19) ?hd (xs := ([0, 1] : List Int)) (inner := [.int .u32 0, .int .u32 1]) (ok := fun _ => True) (okp := fun _ => True) ?hr ?hp (fun _ hk => hk) trivial (Below.refl _ _) (Nat.le_refl _) (by simp) ?_; (case hd => rfl); (case hg => rfl); (case hr => first | (go_simp; done) | (go_simp; rfl)); (case hp => exact (Reps.one (show Kd.M (Kd.int .u32) _ _ _ 0 [.int .u32 0] from rfl) (Reps.one (show Kd.M (Kd.int .u32) _ _ _ 1 [.int .u32 1] from rfl) (Reps.none _ _)))); intro v165 w35 ho36 hb hg_ hnew_; clear hg_ hnew_; (first | rw [← Ny164.out] at ho36 | (simp only [Int.reduceToNat] at ho36; rw [← Ny164.out] at ho36)); have n0_ := Aside0.mk (Kd.R_elder' (by (with_reducible repeat (first | apply Kd.rA9 | apply Kd.rN9 | apply Kd.rD9)); exact HO155.out) (Kd.R_base ho36) hb); have n1_ := Aside0.mk (Kd.R_elder' (by (with_reducible repeat (first | apply Kd.rA9 | apply Kd.rN9 | apply Kd.rD9)); exact HO159.out) (Kd.R_base ho36) hb); have n2_ := Aside0.mk (Kd.R_elder' (by (with_reducible repeat (first | apply Kd.rA9 | apply Kd.rN9 | apply Kd.rD9)); exact HO163.out) (Kd.R_base ho36) hb); have n3_ := Aside0.mk (Kd.rL9 (Kd.R_new' (Kd.R_new' (Kd.R_new' ho36 (Kd.R_lt (by (with_reducible repeat (first | apply Kd.rA9 | apply Kd.rN9 | apply Kd.rD9)); exact HO155.out))) (Kd.R_lt (by (with_reducible repeat (first | apply Kd.rA9 | apply Kd.rN9 | apply Kd.rD9)); exact HO159.out))) (Kd.R_lt (by (with_reducible repeat (first | apply Kd.rA9 | apply Kd.rN9 | apply Kd.rD9)); exact HO163.out))) (bZ9 (by repeat (first | (with_reducible first | exact HB.out | apply bA9 | apply bN9 | apply bD9) | exact HB.out)))); have n4_ := Aside0.mk (bT9 (by repeat (first | (with_reducible first | exact HB.out | apply bA9 | apply bN9 | apply bD9) | exact HB.out)) hb); clear HO155; clear HO159; clear HO163; clear HB; have HO155 := n0_; have HO159 := n1_; have HO163 := n2_; have HO166 := n3_; have HB := n4_; clear n0_ n1_ n2_ n3_ n4_; clear hb ho36; obtain ⟨Ao37, co37, eo37⟩ := Kd.rS9 HO166.out; subst eo37) | ((with_reducible refine gC9 (f := 23) rfl ?_); refine goesL_ (some 20) rfl rfl Tryz.func23 (by kernel_rfl) rfl #[.slice Ao37 y164.length co37] rfl (by (try simp only [List.map_toArray, List.map_cons, List.map_nil]); first | done | rfl | (simp only [List.length_drop, List.length_take]; rfl)) ?_; (with_reducible refine (digits_Nat.calls _ _ y164 t167 _ (PowTab.below HT.out (by repeat (first | (with_reducible first | exact HB.out | apply bA9 | apply bN9 | apply bD9) | exact HB.out))) ?side1 ?side2 A4.out).mono ?_); (case side1 => repeat (first | exact (Kd.rR9 HO166.out).2.2 | (with_reducible refine Kd.cA9 ?_ _) | (with_reducible refine Kd.cN9 ?_ _) | (with_reducible refine Kd.cD9 ?_))); (case side2 => exact (Kd.rR9 HO166.out).2.1); rintro e w38 ⟨rfl, hb⟩; refine ⟨_, rfl, ?_⟩; have n0_ := Aside0.mk (Kd.rB9 (by (with_reducible repeat (first | apply Kd.rA9 | apply Kd.rN9 | apply Kd.rD9)); exact HO155.out) hb); have n1_ := Aside0.mk (Kd.rB9 (by (with_reducible repeat (first | apply Kd.rA9 | apply Kd.rN9 | apply Kd.rD9)); exact HO159.out) hb); have n2_ := Aside0.mk (Kd.rB9 (by (with_reducible repeat (first | apply Kd.rA9 | apply Kd.rN9 | apply Kd.rD9)); exact HO163.out) hb); have n3_ := Aside0.mk (Kd.rB9 (by (with_reducible repeat (first | apply Kd.rA9 | apply Kd.rN9 | apply Kd.rD9)); exact HO166.out) hb); have n4_ := Aside0.mk (bT9 (by repeat (first | (with_reducible first | exact HB.out | apply bA9 | apply bN9 | apply bD9) | exact HB.out)) hb); clear HO155; clear HO159; clear HO163; clear HO166; clear HB; have HO155 := n0_; have HO159 := n1_; have HO163 := n2_; have HO166 := n3_; have HB := n4_; clear n0_ n1_ n2_ n3_ n4_; (try clear hb); (try clear hb2); (try clear hk); (try clear hi)) | ((with_reducible refine gD9 (N := 23) rfl ?_); (try (refine gate_guard (by rfl) ?_; dsimp only)); refine Kd.R_lit (Kd.int .u32) _ 56 ?hg (N := 23) ?hd (xs := ([3] : List Int)) (inner := [.int .u32 3]) (ok := fun _ => True) (okp := fun _ => True) ?hr ?hp (fun _ hk => hk) trivial (Below.refl _ _) (Nat.le_refl _) (by simp) ?_; (case hd => rfl); (case hg => rfl); (case hr => first | (go_simp; done) | (go_simp; rfl)); (case hp => exact (Reps.one (show Kd.M (Kd.int .u32) _ _ _ 3 [.int .u32 3] from rfl) (Reps.none _ _))); intro v169 w39 ho40 hb hg_ hnew_; clear hg_ hnew_; (first | rw [← Ny168.out] at ho40 | (simp only [Int.reduceToNat] at ho40; rw [← Ny168.out] at ho40)); have n0_ := Aside0.mk (Kd.R_elder' (by (with_reducible repeat (first | apply Kd.rA9 | apply Kd.rN9 | apply Kd.rD9)); exact HO155.out) (Kd.R_base ho40) hb); have n1_ := Aside0.mk (Kd.R_elder' (by (with_reducible repeat (first | apply Kd.rA9 | apply Kd.rN9 | apply Kd.rD9)); exact HO159.out) (Kd.R_base ho40) hb); have n2_ := Aside0.mk (Kd.R_elder' (by (with_reducible repeat (first | apply Kd.rA9 | apply Kd.rN9 | apply Kd.rD9)); exact HO163.out) (Kd.R_base ho40) hb); have n3_ := Aside0.mk (Kd.R_elder' (by (with_reducible repeat (first | apply Kd.rA9 | apply Kd.rN9 | apply Kd.rD9)); exact HO166.out) (Kd.R_base ho40) hb); have n4_ := Aside0.mk (Kd.rL9 (Kd.R_new' (Kd.R_new' (Kd.R_new' (Kd.R_new' ho40 (Kd.R_lt (by (with_reducible repeat (first | apply Kd.rA9 | apply Kd.rN9 | apply Kd.rD9)); exact HO155.out))) (Kd.R_lt (by (with_reducible repeat (first | apply Kd.rA9 | apply Kd.rN9 | apply Kd.rD9)); exact HO159.out))) (Kd.R_lt (by (with_reducible repeat (first | apply Kd.rA9 | apply Kd.rN9 | apply Kd.rD9)); exact HO163.out))) (Kd.R_lt (by (with_reducible repeat (first | apply Kd.rA9 | apply Kd.rN9 | apply Kd.rD9)); exact HO166.out))) (bZ9 (by repeat (first | (with_reducible first | exact HB.out | apply bA9 | apply bN9 | apply bD9) | exact HB.out)))); have n5_ := Aside0.mk (bT9 (by repeat (first | (with_reducible first | exact HB.out | apply bA9 | apply bN9 | apply bD9) | exact HB.out)) hb); clear HO155; clear HO159; clear HO163; clear HO166; clear HB; have HO155 := n0_; have HO159 := n1_; have HO163 := n2_; have HO166 := n3_; have HO170 := n4_; have HB := n5_; clear n0_ n1_ n2_ n3_ n4_ n5_; clear hb ho40) | ((with_reducible refine gD9 (N := 24) rfl ?_); (try (refine gate_guard (by rfl) ?_; dsimp only)); refine Kd.R_lit (Kd.int .u32) _ 56 ?hg (N := 24) ?hd (xs := ([4] : List Int)) (inner := [.int .u32 4]) (ok := fun _ => True) (okp := fun _ => True) ?hr ?hp (fun _ hk => hk) trivial (Below.refl _ _) (Nat.le_refl _) (by simp) ?_; (case hd => rfl); (case hg => rfl); (case hr => first | (go_simp; done) | (go_simp; rfl)); (case hp => exact (Reps.one (show Kd.M (Kd.int .u32) _ _ _ 4 [.int .u32 4] from rfl) (Reps.none _ _))); intro v172 w41 ho42 hb hg_ hnew_; clear hg_ hnew_; (first | rw [← Ny171.out] at ho42 | (simp only [Int.reduceToNat] at ho42; rw [← Ny171.out] at ho42)); have n0_ := Aside0.mk (Kd.R_elder' (by (with_reducible repeat (first | apply Kd.rA9 | apply Kd.rN9 | apply Kd.rD9)); exact HO155.out) (Kd.R_base ho42) hb); have n1_ := Aside0.mk (Kd.R_elder' (by (with_reducible repeat (first | apply Kd.rA9 | apply Kd.rN9 | apply Kd.rD9)); exact HO159.out) (Kd.R_base ho42) hb); have n2_ := Aside0.mk (Kd.R_elder' (by (with_reducible repeat (first | apply Kd.rA9 | apply Kd.rN9 | apply Kd.rD9)); exact HO163.out) (Kd.R_base ho42) hb); have n3_ := Aside0.mk (Kd.R_elder' (by (with_reducible repeat (first | apply Kd.rA9 | apply Kd.rN9 | apply Kd.rD9)); exact HO166.out) (Kd.R_base ho42) hb); have n4_ := Aside0.mk (Kd.R_elder' (by (with_reducible repeat (first | apply Kd.rA9 | apply Kd.rN9 | apply Kd.rD9)); exact HO170.out) (Kd.R_base ho42) hb); have n5_ := Aside0.mk (Kd.rL9 (Kd.R_new' (Kd.R_new' (Kd.R_new' (Kd.R_new' (Kd.R_new' ho42 (Kd.R_lt (by (with_reducible repeat (first | apply Kd.rA9 | apply Kd.rN9 | apply Kd.rD9)); exact HO155.out))) (Kd.R_lt (by (with_reducible repeat (first | apply Kd.rA9 | apply Kd.rN9 | apply Kd.rD9)); exact HO159.out))) (Kd.R_lt (by (with_reducible repeat (first | apply Kd.rA9 | apply Kd.rN9 | apply Kd.rD9)); exact HO163.out))) (Kd.R_lt (by (with_reducible repeat (first | apply Kd.rA9 | apply Kd.rN9 | apply Kd.rD9)); exact HO166.out))) (Kd.R_lt (by (with_reducible repeat (first | apply Kd.rA9 | apply Kd.rN9 | apply Kd.rD9)); exact HO170.out))) (bZ9 (by repeat (first | (with_reducible first | exact HB.out | apply bA9 | apply bN9 | apply bD9) | exact HB.out)))); have n6_ := Aside0.mk (bT9 (by repeat (first | (with_reducible first | exact HB.out | apply bA9 | apply bN9 | apply bD9) | exact HB.out)) hb); clear HO155; clear HO159; clear HO163; clear HO166; clear HO170; clear HB; have HO155 := n0_; have HO159 := n1_; have HO163 := n2_; have HO166 := n3_; have HO170 := n4_; have HO173 := n5_; have HB := n6_; clear n0_ n1_ n2_ n3_ n4_ n5_ n6_; clear hb ho42; obtain ⟨Ao43, co43, eo43⟩ := Kd.rS9 HO173.out; subst eo43; obtain ⟨Ao44, co44, eo44⟩ := Kd.rS9 HO170.out; subst eo44) | (go_at_call 16; (with_reducible refine (digits_Rat.calls k true _ _ y168 _ _ y171 t174 _ (PowTab.below HT.out (by repeat (first | (with_reducible first | exact HB.out | apply bA9 | apply bN9 | apply bD9) | exact HB.out))) ?side1 ?side2 ?side3 ?side4 A6.out).mono ?_); (case side1 => repeat (first | exact (Kd.rR9 HO170.out).2.2 | (with_reducible refine Kd.cA9 ?_ _) | (with_reducible refine Kd.cN9 ?_ _) | (with_reducible refine Kd.cD9 ?_))); (case side2 => exact (Kd.rR9 HO170.out).2.1); (case side3 => repeat (first | exact (Kd.rR9 HO173.out).2.2 | (with_reducible refine Kd.cA9 ?_ _) | (with_reducible refine Kd.cN9 ?_ _) | (with_reducible refine Kd.cD9 ?_))); (case side4 => exact (Kd.rR9 HO173.out).2.1); rintro e w45 ⟨rfl, hb⟩; have n0_ := Aside0.mk (Kd.rB9 (by (with_reducible repeat (first | apply Kd.rA9 | apply Kd.rN9 | apply Kd.rD9)); exact HO155.out) hb); have n1_ := Aside0.mk (Kd.rB9 (by (with_reducible repeat (first | apply Kd.rA9 | apply Kd.rN9 | apply Kd.rD9)); exact HO159.out) hb); have n2_ := Aside0.mk (Kd.rB9 (by (with_reducible repeat (first | apply Kd.rA9 | apply Kd.rN9 | apply Kd.rD9)); exact HO163.out) hb); have n3_ := Aside0.mk (Kd.rB9 (by (with_reducible repeat (first | apply Kd.rA9 | apply Kd.rN9 | apply Kd.rD9)); exact HO166.out) hb); have n4_ := Aside0.mk (Kd.rB9 (by (with_reducible repeat (first | apply Kd.rA9 | apply Kd.rN9 | apply Kd.rD9)); exact HO170.out) hb); have n5_ := Aside0.mk (Kd.rB9 (by (with_reducible repeat (first | apply Kd.rA9 | apply Kd.rN9 | apply Kd.rD9)); exact HO173.out) hb); have n6_ := Aside0.mk (bT9 (by repeat (first | (with_reducible first | exact HB.out | apply bA9 | apply bN9 | apply bD9) | exact HB.out)) hb); clear HO155; clear HO159; clear HO163; clear HO166; clear HO170; clear HO173; clear HB; have HO155 := n0_; have HO159 := n1_; have HO163 := n2_; have HO166 := n3_; have HO170 := n4_; have HO173 := n5_; have HB := n6_; clear n0_ n1_ n2_ n3_ n4_ n5_ n6_; (try clear hb); (try clear hb2); (try clear hk); (try clear hi)) | ((with_reducible refine gD9 (N := 30) rfl ?_); (try (refine gate_guard (by rfl) ?_; dsimp only)); refine Kd.R_lit (Kd.int .u32) _ 56 ?hg (N := 30) ?hd (xs := ([7] : List Int)) (inner := [.int .u32 7]) (ok := fun _ => True) (okp := fun _ => True) ?hr ?hp (fun _ hk => hk) trivial (Below.refl _ _) (Nat.le_refl _) (by simp) ?_; (case hd => rfl); (case hg => rfl); (case hr => first | (go_simp; done) | (go_simp; rfl)); (case hp => exact (Reps.one (show Kd.M (Kd.int .u32) _ _ _ 7 [.int .u32 7] from rfl) (Reps.none _ _))); intro v176 w46 ho47 hb hg_ hnew_; clear hg_ hnew_; (first | rw [← Ny175.out] at ho47 | (simp only [Int.reduceToNat] at ho47; rw [← Ny175.out] at ho47)); have n0_ := Aside0.mk (Kd.R_elder' (by (with_reducible repeat (first | apply Kd.rA9 | apply Kd.rN9 | apply Kd.rD9)); exact HO155.out) (Kd.R_base ho47) hb); have n1_ := Aside0.mk (Kd.R_elder' (by (with_reducible repeat (first | apply Kd.rA9 | apply Kd.rN9 | apply Kd.rD9)); exact HO159.out) (Kd.R_base ho47) hb); have n2_ := Aside0.mk (Kd.R_elder' (by (with_reducible repeat (first | apply Kd.rA9 | apply Kd.rN9 | apply Kd.rD9)); exact HO163.out) (Kd.R_base ho47) hb); have n3_ := Aside0.mk (Kd.R_elder' (by (with_reducible repeat (first | apply Kd.rA9 | apply Kd.rN9 | apply Kd.rD9)); exact HO166.out) (Kd.R_base ho47) hb); have n4_ := Aside0.mk (Kd.R_elder' (by (with_reducible repeat (first | apply Kd.rA9 | apply Kd.rN9 | apply Kd.rD9)); exact HO170.out) (Kd.R_base ho47) hb); have n5_ := Aside0.mk (Kd.R_elder' (by (with_reducible repeat (first | apply Kd.rA9 | apply Kd.rN9 | apply Kd.rD9)); exact HO173.out) (Kd.R_base ho47) hb); have n6_ := Aside0.mk (Kd.rL9 (Kd.R_new' (Kd.R_new' (Kd.R_new' (Kd.R_new' (Kd.R_new' (Kd.R_new' ho47 (Kd.R_lt (by (with_reducible repeat (first | apply Kd.rA9 | apply Kd.rN9 | apply Kd.rD9)); exact HO155.out))) (Kd.R_lt (by (with_reducible repeat (first | apply Kd.rA9 | apply Kd.rN9 | apply Kd.rD9)); exact HO159.out))) (Kd.R_lt (by (with_reducible repeat (first | apply Kd.rA9 | apply Kd.rN9 | apply Kd.rD9)); exact HO163.out))) (Kd.R_lt (by (with_reducible repeat (first | apply Kd.rA9 | apply Kd.rN9 | apply Kd.rD9)); exact HO166.out))) (Kd.R_lt (by (with_reducible repeat (first | apply Kd.rA9 | apply Kd.rN9 | apply Kd.rD9)); exact HO170.out))) (Kd.R_lt (by (with_reducible repeat (first | apply Kd.rA9 | apply Kd.rN9 | apply Kd.rD9)); exact HO173.out))) (bZ9 (by repeat (first | (with_reducible first | exact HB.out | apply bA9 | apply bN9 | apply bD9) | exact HB.out)))); have n7_ := Aside0.mk (bT9 (by repeat (first | (with_reducible first | exact HB.out | apply bA9 | apply bN9 | apply bD9) | exact HB.out)) hb); clear HO155; clear HO159; clear HO163; clear HO166; clear HO170; clear HO173; clear HB; have HO155 := n0_; have HO159 := n1_; have HO163 := n2_; have HO166 := n3_; have HO170 := n4_; have HO173 := n5_; have HO177 := n6_; have HB := n7_; clear n0_ n1_ n2_ n3_ n4_ n5_ n6_ n7_; clear hb ho47) | ((with_reducible refine gD9 (N := 31) rfl ?_); (try (refine gate_guard (by rfl) ?_; dsimp only)); refine Kd.R_lit (Kd.int .u32) _ 56 ?hg (N := 31) ?hd (xs := ([1] : List Int)) (inner := [.int .u32 1]) (ok := fun _ => True) (okp := fun _ => True) ?hr ?hp (fun _ hk => hk) trivial (Below.refl _ _) (Nat.le_refl _) (by simp) ?_; (case hd => rfl); (case hg => rfl); (case hr => first | (go_simp; done) | (go_simp; rfl)); (case hp => exact (Reps.one (show Kd.M (Kd.int .u32) _ _ _ 1 [.int .u32 1] from rfl) (Reps.none _ _))); intro v179 w48 ho49 hb hg_ hnew_; clear hg_ hnew_; (first | rw [← Ny178.out] at ho49 | (simp only [Int.reduceToNat] at ho49; rw [← Ny178.out] at ho49)); have n0_ := Aside0.mk (Kd.R_elder' (by (with_reducible repeat (first | apply Kd.rA9 | apply Kd.rN9 | apply Kd.rD9)); exact HO155.out) (Kd.R_base ho49) hb); have n1_ := Aside0.mk (Kd.R_elder' (by (with_reducible repeat (first | apply Kd.rA9 | apply Kd.rN9 | apply Kd.rD9)); exact HO159.out) (Kd.R_base ho49) hb); have n2_ := Aside0.mk (Kd.R_elder' (by (with_reducible repeat (first | apply Kd.rA9 | apply Kd.rN9 | apply Kd.rD9)); exact HO163.out) (Kd.R_base ho49) hb); have n3_ := Aside0.mk (Kd.R_elder' (by (with_reducible repeat (first | apply Kd.rA9 | apply Kd.rN9 | apply Kd.rD9)); exact HO166.out) (Kd.R_base ho49) hb); have n4_ := Aside0.mk (Kd.R_elder' (by (with_reducible repeat (first | apply Kd.rA9 | apply Kd.rN9 | apply Kd.rD9)); exact HO170.out) (Kd.R_base ho49) hb); have n5_ := Aside0.mk (Kd.R_elder' (by (with_reducible repeat (first | apply Kd.rA9 | apply Kd.rN9 | apply Kd.rD9)); exact HO173.out) (Kd.R_base ho49) hb); have n6_ := Aside0.mk (Kd.R_elder' (by (with_reducible repeat (first | apply Kd.rA9 | apply Kd.rN9 | apply Kd.rD9)); exact HO177.out) (Kd.R_base ho49) hb); have n7_ := Aside0.mk (Kd.rL9 (Kd.R_new' (Kd.R_new' (Kd.R_new' (Kd.R_new' (Kd.R_new' (Kd.R_new' (Kd.R_new' ho49 (Kd.R_lt (by (with_reducible repeat (first | apply Kd.rA9 | apply Kd.rN9 | apply Kd.rD9)); exact HO155.out))) (Kd.R_lt (by (with_reducible repeat (first | apply Kd.rA9 | apply Kd.rN9 | apply Kd.rD9)); exact HO159.out))) (Kd.R_lt (by (with_reducible repeat (first | apply Kd.rA9 | apply Kd.rN9 | apply Kd.rD9)); exact HO163.out))) (Kd.R_lt (by (with_reducible repeat (first | apply Kd.rA9 | apply Kd.rN9 | apply Kd.rD9)); exact HO166.out))) (Kd.R_lt (by (with_reducible repeat (first | apply Kd.rA9 | apply Kd.rN9 | apply Kd.rD9)); exact HO170.out))) (Kd.R_lt (by (with_reducible repeat (first | apply Kd.rA9 | apply Kd.rN9 | apply Kd.rD9)); exact HO173.out))) (Kd.R_lt (by (with_reducible repeat (first | apply Kd.rA9 | apply Kd.rN9 | apply Kd.rD9)); exact HO177.out))) (bZ9 (by repeat (first | (with_reducible first | exact HB.out | apply bA9 | apply bN9 | apply bD9) | exact HB.out)))); have n8_ := Aside0.mk (bT9 (by repeat (first | (with_reducible first | exact HB.out | apply bA9 | apply bN9 | apply bD9) | exact HB.out)) hb); clear HO155; clear HO159; clear HO163; clear HO166; clear HO170; clear HO173; clear HO177; clear HB; have HO155 := n0_; have HO159 := n1_; have HO163 := n2_; have HO166 := n3_; have HO170 := n4_; have HO173 := n5_; have HO177 := n6_; have HO180 := n7_; have HB := n8_; clear n0_ n1_ n2_ n3_ n4_ n5_ n6_ n7_ n8_; clear hb ho49; obtain ⟨Ao50, co50, eo50⟩ := Kd.rS9 HO180.out; subst eo50; obtain ⟨Ao51, co51, eo51⟩ := Kd.rS9 HO177.out; subst eo51) | (go_at_call 16; (with_reducible refine (digits_Rat.calls k false _ _ y175 _ _ y178 t181 _ (PowTab.below HT.out (by repeat (first | (with_reducible first | exact HB.out | apply bA9 | apply bN9 | apply bD9) | exact HB.out))) ?side1 ?side2 ?side3 ?side4 A8.out).mono ?_); (case side1 => repeat (first | exact (Kd.rR9 HO177.out).2.2 | (with_reducible refine Kd.cA9 ?_ _) | (with_reducible refine Kd.cN9 ?_ _) | (with_reducible refine Kd.cD9 ?_))); (case side2 => exact (Kd.rR9 HO177.out).2.1); (case side3 => repeat (first | exact (Kd.rR9 HO180.out).2.2 | (with_reducible refine Kd.cA9 ?_ _) | (with_reducible refine Kd.cN9 ?_ _) | (with_reducible refine Kd.cD9 ?_))); (case side4 => exact (Kd.rR9 HO180.out).2.1); rintro e w52 ⟨rfl, hb⟩; have n0_ := Aside0.mk (Kd.rB9 (by (with_reducible repeat (first | apply Kd.rA9 | apply Kd.rN9 | apply Kd.rD9)); exact HO155.out) hb); have n1_ := Aside0.mk (Kd.rB9 (by (with_reducible repeat (first | apply Kd.rA9 | apply Kd.rN9 | apply Kd.rD9)); exact HO159.out) hb); have n2_ := Aside0.mk (Kd.rB9 (by (with_reducible repeat (first | apply Kd.rA9 | apply Kd.rN9 | apply Kd.rD9)); exact HO163.out) hb); have n3_ := Aside0.mk (Kd.rB9 (by (with_reducible repeat (first | apply Kd.rA9 | apply Kd.rN9 | apply Kd.rD9)); exact HO166.out) hb); have n4_ := Aside0.mk (Kd.rB9 (by (with_reducible repeat (first | apply Kd.rA9 | apply Kd.rN9 | apply Kd.rD9)); exact HO170.out) hb); have n5_ := Aside0.mk (Kd.rB9 (by (with_reducible repeat (first | apply Kd.rA9 | apply Kd.rN9 | apply Kd.rD9)); exact HO173.out) hb); have n6_ := Aside0.mk (Kd.rB9 (by (with_reducible repeat (first | apply Kd.rA9 | apply Kd.rN9 | apply Kd.rD9)); exact HO177.out) hb); have n7_ := Aside0.mk (Kd.rB9 (by (with_reducible repeat (first | apply Kd.rA9 | apply Kd.rN9 | apply Kd.rD9)); exact HO180.out) hb); have n8_ := Aside0.mk (bT9 (by repeat (first | (with_reducible first | exact HB.out | apply bA9 | apply bN9 | apply bD9) | exact HB.out)) hb); clear HO155; clear HO159; clear HO163; clear HO166; clear HO170; clear HO173; clear HO177; clear HO180; clear HB; have HO155 := n0_; have HO159 := n1_; have HO163 := n2_; have HO166 := n3_; have HO170 := n4_; have HO173 := n5_; have HO177 := n6_; have HO180 := n7_; have HB := n8_; clear n0_ n1_ n2_ n3_ n4_ n5_ n6_ n7_ n8_; (try clear hb); (try clear hb2); (try clear hk); (try clear hi)) | (go_at_call 21; (with_reducible refine (falls9.calls k (⟨#[50, 47, 52]⟩ : ByteArray) 6 true _ A13.out).mono ?_); rintro e w53 ⟨rfl, hb⟩; have n0_ := Aside0.mk (Kd.rB9 (by (with_reducible repeat (first | apply Kd.rA9 | apply Kd.rN9 | apply Kd.rD9)); exact HO155.out) hb); have n1_ := Aside0.mk (Kd.rB9 (by (with_reducible repeat (first | apply Kd.rA9 | apply Kd.rN9 | apply Kd.rD9)); exact HO159.out) hb); have n2_ := Aside0.mk (Kd.rB9 (by (with_reducible repeat (first | apply Kd.rA9 | apply Kd.rN9 | apply Kd.rD9)); exact HO163.out) hb); have n3_ := Aside0.mk (Kd.rB9 (by (with_reducible repeat (first | apply Kd.rA9 | apply Kd.rN9 | apply Kd.rD9)); exact HO166.out) hb); have n4_ := Aside0.mk (Kd.rB9 (by (with_reducible repeat (first | apply Kd.rA9 | apply Kd.rN9 | apply Kd.rD9)); exact HO170.out) hb); have n5_ := Aside0.mk (Kd.rB9 (by (with_reducible repeat (first | apply Kd.rA9 | apply Kd.rN9 | apply Kd.rD9)); exact HO173.out) hb); have n6_ := Aside0.mk (Kd.rB9 (by (with_reducible repeat (first | apply Kd.rA9 | apply Kd.rN9 | apply Kd.rD9)); exact HO177.out) hb); have n7_ := Aside0.mk (Kd.rB9 (by (with_reducible repeat (first | apply Kd.rA9 | apply Kd.rN9 | apply Kd.rD9)); exact HO180.out) hb); have n8_ := Aside0.mk (bT9 (by repeat (first | (with_reducible first | exact HB.out | apply bA9 | apply bN9 | apply bD9) | exact HB.out)) hb); clear HO155; clear HO159; clear HO163; clear HO166; clear HO170; clear HO173; clear HO177; clear HO180; clear HB; have HO155 := n0_; have HO159 := n1_; have HO163 := n2_; have HO166 := n3_; have HO170 := n4_; have HO173 := n5_; have HO177 := n6_; have HO180 := n7_; have HB := n8_; clear n0_ n1_ n2_ n3_ n4_ n5_ n6_ n7_ n8_; (try clear hb); (try clear hb2); (try clear hk); (try clear hi)) | (go_at_call 21; (with_reducible refine (falls9.calls k (⟨#[51, 47, 49]⟩ : ByteArray) 6 true _ A15.out).mono ?_); rintro e w54 ⟨rfl, hb⟩; have n0_ := Aside0.mk (Kd.rB9 (by (with_reducible repeat (first | apply Kd.rA9 | apply Kd.rN9 | apply Kd.rD9)); exact HO155.out) hb); have n1_ := Aside0.mk (Kd.rB9 (by (with_reducible repeat (first | apply Kd.rA9 | apply Kd.rN9 | apply Kd.rD9)); exact HO159.out) hb); have n2_ := Aside0.mk (Kd.rB9 (by (with_reducible repeat (first | apply Kd.rA9 | apply Kd.rN9 | apply Kd.rD9)); exact HO163.out) hb); have n3_ := Aside0.mk (Kd.rB9 (by (with_reducible repeat (first | apply Kd.rA9 | apply Kd.rN9 | apply Kd.rD9)); exact HO166.out) hb); have n4_ := Aside0.mk (Kd.rB9 (by (with_reducible repeat (first | apply Kd.rA9 | apply Kd.rN9 | apply Kd.rD9)); exact HO170.out) hb); have n5_ := Aside0.mk (Kd.rB9 (by (with_reducible repeat (first | apply Kd.rA9 | apply Kd.rN9 | apply Kd.rD9)); exact HO173.out) hb); have n6_ := Aside0.mk (Kd.rB9 (by (with_reducible repeat (first | apply Kd.rA9 | apply Kd.rN9 | apply Kd.rD9)); exact HO177.out) hb); have n7_ := Aside0.mk (Kd.rB9 (by (with_reducible repeat (first | apply Kd.rA9 | apply Kd.rN9 | apply Kd.rD9)); exact HO180.out) hb); have n8_ := Aside0.mk (bT9 (by repeat (first | (with_reducible first | exact HB.out | apply bA9 | apply bN9 | apply bD9) | exact HB.out)) hb); clear HO155; clear HO159; clear HO163; clear HO166; clear HO170; clear HO173; clear HO177; clear HO180; clear HB; have HO155 := n0_; have HO159 := n1_; have HO163 := n2_; have HO166 := n3_; have HO170 := n4_; have HO173 := n5_; have HO177 := n6_; have HO180 := n7_; have HB := n8_; clear n0_ n1_ n2_ n3_ n4_ n5_ n6_ n7_ n8_; (try clear hb); (try clear hb2); (try clear hk); (try clear hi)) | (go_at_call 21; (with_reducible refine (falls9.calls k (⟨#[45, 48]⟩ : ByteArray) 6 true _ A17.out).mono ?_); rintro e w55 ⟨rfl, hb⟩; have n0_ := Aside0.mk (Kd.rB9 (by (with_reducible repeat (first | apply Kd.rA9 | apply Kd.rN9 | apply Kd.rD9)); exact HO155.out) hb); have n1_ := Aside0.mk (Kd.rB9 (by (with_reducible repeat (first | apply Kd.rA9 | apply Kd.rN9 | apply Kd.rD9)); exact HO159.out) hb); have n2_ := Aside0.mk (Kd.rB9 (by (with_reducible repeat (first | apply Kd.rA9 | apply Kd.rN9 | apply Kd.rD9)); exact HO163.out) hb); have n3_ := Aside0.mk (Kd.rB9 (by (with_reducible repeat (first | apply Kd.rA9 | apply Kd.rN9 | apply Kd.rD9)); exact HO166.out) hb); have n4_ := Aside0.mk (Kd.rB9 (by (with_reducible repeat (first | apply Kd.rA9 | apply Kd.rN9 | apply Kd.rD9)); exact HO170.out) hb); have n5_ := Aside0.mk (Kd.rB9 (by (with_reducible repeat (first | apply Kd.rA9 | apply Kd.rN9 | apply Kd.rD9)); exact HO173.out) hb); have n6_ := Aside0.mk (Kd.rB9 (by (with_reducible repeat (first | apply Kd.rA9 | apply Kd.rN9 | apply Kd.rD9)); exact HO177.out) hb); have n7_ := Aside0.mk (Kd.rB9 (by (with_reducible repeat (first | apply Kd.rA9 | apply Kd.rN9 | apply Kd.rD9)); exact HO180.out) hb); have n8_ := Aside0.mk (bT9 (by repeat (first | (with_reducible first | exact HB.out | apply bA9 | apply bN9 | apply bD9) | exact HB.out)) hb); clear HO155; clear HO159; clear HO163; clear HO166; clear HO170; clear HO173; clear HO177; clear HO180; clear HB; have HO155 := n0_; have HO159 := n1_; have HO163 := n2_; have HO166 := n3_; have HO170 := n4_; have HO173 := n5_; have HO177 := n6_; have HO180 := n7_; have HB := n8_; clear n0_ n1_ n2_ n3_ n4_ n5_ n6_ n7_ n8_; (try clear hb); (try clear hb2); (try clear hk); (try clear hi)) | (go_at_call 21; (with_reducible refine (falls9.calls k (⟨#[48, 47, 51]⟩ : ByteArray) 6 true _ A19.out).mono ?_); rintro e w56 ⟨rfl, hb⟩; have n0_ := Aside0.mk (Kd.rB9 (by (with_reducible repeat (first | apply Kd.rA9 | apply Kd.rN9 | apply Kd.rD9)); exact HO155.out) hb); have n1_ := Aside0.mk (Kd.rB9 (by (with_reducible repeat (first | apply Kd.rA9 | apply Kd.rN9 | apply Kd.rD9)); exact HO159.out) hb); have n2_ := Aside0.mk (Kd.rB9 (by (with_reducible repeat (first | apply Kd.rA9 | apply Kd.rN9 | apply Kd.rD9)); exact HO163.out) hb); have n3_ := Aside0.mk (Kd.rB9 (by (with_reducible repeat (first | apply Kd.rA9 | apply Kd.rN9 | apply Kd.rD9)); exact HO166.out) hb); have n4_ := Aside0.mk (Kd.rB9 (by (with_reducible repeat (first | apply Kd.rA9 | apply Kd.rN9 | apply Kd.rD9)); exact HO170.out) hb); have n5_ := Aside0.mk (Kd.rB9 (by (with_reducible repeat (first | apply Kd.rA9 | apply Kd.rN9 | apply Kd.rD9)); exact HO173.out) hb); have n6_ := Aside0.mk (Kd.rB9 (by (with_reducible repeat (first | apply Kd.rA9 | apply Kd.rN9 | apply Kd.rD9)); exact HO177.out) hb); have n7_ := Aside0.mk (Kd.rB9 (by (with_reducible repeat (first | apply Kd.rA9 | apply Kd.rN9 | apply Kd.rD9)); exact HO180.out) hb); have n8_ := Aside0.mk (bT9 (by repeat (first | (with_reducible first | exact HB.out | apply bA9 | apply bN9 | apply bD9) | exact HB.out)) hb); clear HO155; clear HO159; clear HO163; clear HO166; clear HO170; clear HO173; clear HO177; clear HO180; clear HB; have HO155 := n0_; have HO159 := n1_; have HO163 := n2_; have HO166 := n3_; have HO170 := n4_; have HO173 := n5_; have HO177 := n6_; have HO180 := n7_; have HB := n8_; clear n0_ n1_ n2_ n3_ n4_ n5_ n6_ n7_ n8_; (try clear hb); (try clear hb2); (try clear hk); (try clear hi)) | (go_at_call 21; (with_reducible refine (falls9.calls k (⟨#[49, 47, 48]⟩ : ByteArray) 6 true _ A21.out).mono ?_); rintro e w57 ⟨rfl, hb⟩; have n0_ := Aside0.mk (Kd.rB9 (by (with_reducible repeat (first | apply Kd.rA9 | apply Kd.rN9 | apply Kd.rD9)); exact HO155.out) hb); have n1_ := Aside0.mk (Kd.rB9 (by (with_reducible repeat (first | apply Kd.rA9 | apply Kd.rN9 | apply Kd.rD9)); exact HO159.out) hb); have n2_ := Aside0.mk (Kd.rB9 (by (with_reducible repeat (first | apply Kd.rA9 | apply Kd.rN9 | apply Kd.rD9)); exact HO163.out) hb); have n3_ := Aside0.mk (Kd.rB9 (by (with_reducible repeat (first | apply Kd.rA9 | apply Kd.rN9 | apply Kd.rD9)); exact HO166.out) hb); have n4_ := Aside0.mk (Kd.rB9 (by (with_reducible repeat (first | apply Kd.rA9 | apply Kd.rN9 | apply Kd.rD9)); exact HO170.out) hb); have n5_ := Aside0.mk (Kd.rB9 (by (with_reducible repeat (first | apply Kd.rA9 | apply Kd.rN9 | apply Kd.rD9)); exact HO173.out) hb); have n6_ := Aside0.mk (Kd.rB9 (by (with_reducible repeat (first | apply Kd.rA9 | apply Kd.rN9 | apply Kd.rD9)); exact HO177.out) hb); have n7_ := Aside0.mk (Kd.rB9 (by (with_reducible repeat (first | apply Kd.rA9 | apply Kd.rN9 | apply Kd.rD9)); exact HO180.out) hb); have n8_ := Aside0.mk (bT9 (by repeat (first | (with_reducible first | exact HB.out | apply bA9 | apply bN9 | apply bD9) | exact HB.out)) hb); clear HO155; clear HO159; clear HO163; clear HO166; clear HO170; clear HO173; clear HO177; clear HO180; clear HB; have HO155 := n0_; have HO159 := n1_; have HO163 := n2_; have HO166 := n3_; have HO170 := n4_; have HO173 := n5_; have HO177 := n6_; have HO180 := n7_; have HB := n8_; clear n0_ n1_ n2_ n3_ n4_ n5_ n6_ n7_ n8_; (try clear hb); (try clear hb2); (try clear hk); (try clear hi)) | (go_at_call 21; (with_reducible refine (falls9.calls k (⟨#[48, 49, 47, 50]⟩ : ByteArray) 19 true _ A23.out).mono ?_); rintro e w58 ⟨rfl, hb⟩; have n0_ := Aside0.mk (Kd.rB9 (by (with_reducible repeat (first | apply Kd.rA9 | apply Kd.rN9 | apply Kd.rD9)); exact HO155.out) hb); have n1_ := Aside0.mk (Kd.rB9 (by (with_reducible repeat (first | apply Kd.rA9 | apply Kd.rN9 | apply Kd.rD9)); exact HO159.out) hb); have n2_ := Aside0.mk (Kd.rB9 (by (with_reducible repeat (first | apply Kd.rA9 | apply Kd.rN9 | apply Kd.rD9)); exact HO163.out) hb); have n3_ := Aside0.mk (Kd.rB9 (by (with_reducible repeat (first | apply Kd.rA9 | apply Kd.rN9 | apply Kd.rD9)); exact HO166.out) hb); have n4_ := Aside0.mk (Kd.rB9 (by (with_reducible repeat (first | apply Kd.rA9 | apply Kd.rN9 | apply Kd.rD9)); exact HO170.out) hb); have n5_ := Aside0.mk (Kd.rB9 (by (with_reducible repeat (first | apply Kd.rA9 | apply Kd.rN9 | apply Kd.rD9)); exact HO173.out) hb); have n6_ := Aside0.mk (Kd.rB9 (by (with_reducible repeat (first | apply Kd.rA9 | apply Kd.rN9 | apply Kd.rD9)); exact HO177.out) hb); have n7_ := Aside0.mk (Kd.rB9 (by (with_reducible repeat (first | apply Kd.rA9 | apply Kd.rN9 | apply Kd.rD9)); exact HO180.out) hb); have n8_ := Aside0.mk (bT9 (by repeat (first | (with_reducible first | exact HB.out | apply bA9 | apply bN9 | apply bD9) | exact HB.out)) hb); clear HO155; clear HO159; clear HO163; clear HO166; clear HO170; clear HO173; clear HO177; clear HO180; clear HB; have HO155 := n0_; have HO159 := n1_; have HO163 := n2_; have HO166 := n3_; have HO170 := n4_; have HO173 := n5_; have HO177 := n6_; have HO180 := n7_; have HB := n8_; clear n0_ n1_ n2_ n3_ n4_ n5_ n6_ n7_ n8_; (try clear hb); (try clear hb2); (try clear hk); (try clear hi)) | (go_at_call 21; (with_reducible refine (falls9.calls k (⟨#[49, 47]⟩ : ByteArray) 19 true _ A25.out).mono ?_); rintro e w59 ⟨rfl, hb⟩; have n0_ := Aside0.mk (Kd.rB9 (by (with_reducible repeat (first | apply Kd.rA9 | apply Kd.rN9 | apply Kd.rD9)); exact HO155.out) hb); have n1_ := Aside0.mk (Kd.rB9 (by (with_reducible repeat (first | apply Kd.rA9 | apply Kd.rN9 | apply Kd.rD9)); exact HO159.out) hb); have n2_ := Aside0.mk (Kd.rB9 (by (with_reducible repeat (first | apply Kd.rA9 | apply Kd.rN9 | apply Kd.rD9)); exact HO163.out) hb); have n3_ := Aside0.mk (Kd.rB9 (by (with_reducible repeat (first | apply Kd.rA9 | apply Kd.rN9 | apply Kd.rD9)); exact HO166.out) hb); have n4_ := Aside0.mk (Kd.rB9 (by (with_reducible repeat (first | apply Kd.rA9 | apply Kd.rN9 | apply Kd.rD9)); exact HO170.out) hb); have n5_ := Aside0.mk (Kd.rB9 (by (with_reducible repeat (first | apply Kd.rA9 | apply Kd.rN9 | apply Kd.rD9)); exact HO173.out) hb); have n6_ := Aside0.mk (Kd.rB9 (by (with_reducible repeat (first | apply Kd.rA9 | apply Kd.rN9 | apply Kd.rD9)); exact HO177.out) hb); have n7_ := Aside0.mk (Kd.rB9 (by (with_reducible repeat (first | apply Kd.rA9 | apply Kd.rN9 | apply Kd.rD9)); exact HO180.out) hb); have n8_ := Aside0.mk (bT9 (by repeat (first | (with_reducible first | exact HB.out | apply bA9 | apply bN9 | apply bD9) | exact HB.out)) hb); clear HO155; clear HO159; clear HO163; clear HO166; clear HO170; clear HO173; clear HO177; clear HO180; clear HB; have HO155 := n0_; have HO159 := n1_; have HO163 := n2_; have HO166 := n3_; have HO170 := n4_; have HO173 := n5_; have HO177 := n6_; have HO180 := n7_; have HB := n8_; clear n0_ n1_ n2_ n3_ n4_ n5_ n6_ n7_ n8_; (try clear hb); (try clear hb2); (try clear hk); (try clear hi)) | (go_at_call 21; (with_reducible refine (falls9.calls k (⟨#[45, 47, 50]⟩ : ByteArray) 19 true _ A27.out).mono ?_); rintro e w60 ⟨rfl, hb⟩; have n0_ := Aside0.mk (Kd.rB9 (by (with_reducible repeat (first | apply Kd.rA9 | apply Kd.rN9 | apply Kd.rD9)); exact HO155.out) hb); have n1_ := Aside0.mk (Kd.rB9 (by (with_reducible repeat (first | apply Kd.rA9 | apply Kd.rN9 | apply Kd.rD9)); exact HO159.out) hb); have n2_ := Aside0.mk (Kd.rB9 (by (with_reducible repeat (first | apply Kd.rA9 | apply Kd.rN9 | apply Kd.rD9)); exact HO163.out) hb); have n3_ := Aside0.mk (Kd.rB9 (by (with_reducible repeat (first | apply Kd.rA9 | apply Kd.rN9 | apply Kd.rD9)); exact HO166.out) hb); have n4_ := Aside0.mk (Kd.rB9 (by (with_reducible repeat (first | apply Kd.rA9 | apply Kd.rN9 | apply Kd.rD9)); exact HO170.out) hb); have n5_ := Aside0.mk (Kd.rB9 (by (with_reducible repeat (first | apply Kd.rA9 | apply Kd.rN9 | apply Kd.rD9)); exact HO173.out) hb); have n6_ := Aside0.mk (Kd.rB9 (by (with_reducible repeat (first | apply Kd.rA9 | apply Kd.rN9 | apply Kd.rD9)); exact HO177.out) hb); have n7_ := Aside0.mk (Kd.rB9 (by (with_reducible repeat (first | apply Kd.rA9 | apply Kd.rN9 | apply Kd.rD9)); exact HO180.out) hb); have n8_ := Aside0.mk (bT9 (by repeat (first | (with_reducible first | exact HB.out | apply bA9 | apply bN9 | apply bD9) | exact HB.out)) hb); clear HO155; clear HO159; clear HO163; clear HO166; clear HO170; clear HO173; clear HO177; clear HO180; clear HB; have HO155 := n0_; have HO159 := n1_; have HO163 := n2_; have HO166 := n3_; have HO170 := n4_; have HO173 := n5_; have HO177 := n6_; have HO180 := n7_; have HB := n8_; clear n0_ n1_ n2_ n3_ n4_ n5_ n6_ n7_ n8_; (try clear hb); (try clear hb2); (try clear hk); (try clear hi)) | (go_at_call 21; (with_reducible refine (falls9.calls k (⟨#[49, 47, 45, 50]⟩ : ByteArray) 19 true _ A29.out).mono ?_); rintro e w61 ⟨rfl, hb⟩; have n0_ := Aside0.mk (Kd.rB9 (by (with_reducible repeat (first | apply Kd.rA9 | apply Kd.rN9 | apply Kd.rD9)); exact HO155.out) hb); have n1_ := Aside0.mk (Kd.rB9 (by (with_reducible repeat (first | apply Kd.rA9 | apply Kd.rN9 | apply Kd.rD9)); exact HO159.out) hb); have n2_ := Aside0.mk (Kd.rB9 (by (with_reducible repeat (first | apply Kd.rA9 | apply Kd.rN9 | apply Kd.rD9)); exact HO163.out) hb); have n3_ := Aside0.mk (Kd.rB9 (by (with_reducible repeat (first | apply Kd.rA9 | apply Kd.rN9 | apply Kd.rD9)); exact HO166.out) hb); have n4_ := Aside0.mk (Kd.rB9 (by (with_reducible repeat (first | apply Kd.rA9 | apply Kd.rN9 | apply Kd.rD9)); exact HO170.out) hb); have n5_ := Aside0.mk (Kd.rB9 (by (with_reducible repeat (first | apply Kd.rA9 | apply Kd.rN9 | apply Kd.rD9)); exact HO173.out) hb); have n6_ := Aside0.mk (Kd.rB9 (by (with_reducible repeat (first | apply Kd.rA9 | apply Kd.rN9 | apply Kd.rD9)); exact HO177.out) hb); have n7_ := Aside0.mk (Kd.rB9 (by (with_reducible repeat (first | apply Kd.rA9 | apply Kd.rN9 | apply Kd.rD9)); exact HO180.out) hb); have n8_ := Aside0.mk (bT9 (by repeat (first | (with_reducible first | exact HB.out | apply bA9 | apply bN9 | apply bD9) | exact HB.out)) hb); clear HO155; clear HO159; clear HO163; clear HO166; clear HO170; clear HO173; clear HO177; clear HO180; clear HB; have HO155 := n0_; have HO159 := n1_; have HO163 := n2_; have HO166 := n3_; have HO170 := n4_; have HO173 := n5_; have HO177 := n6_; have HO180 := n7_; have HB := n8_; clear n0_ n1_ n2_ n3_ n4_ n5_ n6_ n7_ n8_; (try clear hb); (try clear hb2); (try clear hk); (try clear hi)) | (go_at_call 21; (with_reducible refine (falls9.calls k (⟨#[43, 49]⟩ : ByteArray) 19 t191 _ A31.out).mono ?_); rintro e w62 ⟨rfl, hb⟩; have n0_ := Aside0.mk (Kd.rB9 (by (with_reducible repeat (first | apply Kd.rA9 | apply Kd.rN9 | apply Kd.rD9)); exact HO155.out) hb); have n1_ := Aside0.mk (Kd.rB9 (by (with_reducible repeat (first | apply Kd.rA9 | apply Kd.rN9 | apply Kd.rD9)); exact HO159.out) hb); have n2_ := Aside0.mk (Kd.rB9 (by (with_reducible repeat (first | apply Kd.rA9 | apply Kd.rN9 | apply Kd.rD9)); exact HO163.out) hb); have n3_ := Aside0.mk (Kd.rB9 (by (with_reducible repeat (first | apply Kd.rA9 | apply Kd.rN9 | apply Kd.rD9)); exact HO166.out) hb); have n4_ := Aside0.mk (Kd.rB9 (by (with_reducible repeat (first | apply Kd.rA9 | apply Kd.rN9 | apply Kd.rD9)); exact HO170.out) hb); have n5_ := Aside0.mk (Kd.rB9 (by (with_reducible repeat (first | apply Kd.rA9 | apply Kd.rN9 | apply Kd.rD9)); exact HO173.out) hb); have n6_ := Aside0.mk (Kd.rB9 (by (with_reducible repeat (first | apply Kd.rA9 | apply Kd.rN9 | apply Kd.rD9)); exact HO177.out) hb); have n7_ := Aside0.mk (Kd.rB9 (by (with_reducible repeat (first | apply Kd.rA9 | apply Kd.rN9 | apply Kd.rD9)); exact HO180.out) hb); have n8_ := Aside0.mk (bT9 (by repeat (first | (with_reducible first | exact HB.out | apply bA9 | apply bN9 | apply bD9) | exact HB.out)) hb); clear HO155; clear HO159; clear HO163; clear HO166; clear HO170; clear HO173; clear HO177; clear HO180; clear HB; have HO155 := n0_; have HO159 := n1_; have HO163 := n2_; have HO166 := n3_; have HO170 := n4_; have HO173 := n5_; have HO177 := n6_; have HO180 := n7_; have HB := n8_; clear n0_ n1_ n2_ n3_ n4_ n5_ n6_ n7_ n8_; (try clear hb); (try clear hb2); (try clear hk); (try clear hi)))
                go_ret
                exact ⟨by first | rfl | (simp [eN9, eS9] <;> rfl) | (simp [*, eN9, eS9] <;> rfl), by repeat (first | (with_reducible first | exact HB.out | apply bA9 | apply bN9 | apply bD9) | exact HB.out)⟩
               ·replace c30 := Bool.eq_false_iff.mpr c30
                subst c30
                have H1 : (none) = some r := by rw [if_neg (show ¬ (false = true) by decide)] at H; exact H
                clear H
                have H := H1
                clear H1
                exact absurd H (by simp)
              ·replace c28 := Bool.eq_false_iff.mpr c28
               subst c28
               have H1 : (none) = some r := by rw [if_neg (show ¬ (false = true) by decide)] at H; exact H
               clear H
               have H := H1
               clear H1
               exact absurd H (by simp)
             ·replace c26 := Bool.eq_false_iff.mpr c26
              subst c26
              have H1 : (none) = some r := by rw [if_neg (show ¬ (false = true) by decide)] at H; exact H
              clear H
              have H := H1
              clear H1
              exact absurd H (by simp)
            ·replace c24 := Bool.eq_false_iff.mpr c24
             subst c24
             have H1 : (none) = some r := by rw [if_neg (show ¬ (false = true) by decide)] at H; exact H
             clear H
             have H := H1
             clear H1
             exact absurd H (by simp)
           ·replace c22 := Bool.eq_false_iff.mpr c22
            subst c22
            have H1 : (none) = some r := by rw [if_neg (show ¬ (false = true) by decide)] at H; exact H
            clear H
            have H := H1
            clear H1
            exact absurd H (by simp)
          ·replace c20 := Bool.eq_false_iff.mpr c20
           subst c20
           have H1 : (none) = some r := by rw [if_neg (show ¬ (false = true) by decide)] at H; exact H
           clear H
           have H := H1
           clear H1
           exact absurd H (by simp)
         ·replace c18 := Bool.eq_false_iff.mpr c18
          subst c18
          have H1 : (none) = some r := by rw [if_neg (show ¬ (false = true) by decide)] at H; exact H
          clear H
          have H := H1
          clear H1
          exact absurd H (by simp)
        ·replace c16 := Bool.eq_false_iff.mpr c16
         subst c16
         have H1 : (none) = some r := by rw [if_neg (show ¬ (false = true) by decide)] at H; exact H
         clear H
         have H := H1
         clear H1
         exact absurd H (by simp)
       ·replace c14 := Bool.eq_false_iff.mpr c14
        subst c14
        have H1 : (none) = some r := by rw [if_neg (show ¬ (false = true) by decide)] at H; exact H
        clear H
        have H := H1
        clear H1
        exact absurd H (by simp)
      ·rw [if_neg c12] at H
       exact absurd H (by simp)
     ·rw [if_neg c11] at H
      exact absurd H (by simp)
    ·rw [if_neg c10] at H
     exact absurd H (by simp)
   ·rw [if_neg c9] at H
    exact absurd H (by simp)
  ·rw [if_neg c7] at H
   exact absurd H (by simp)
 ·rw [if_neg c5] at H
  exact absurd H (by simp)
end Go.Proofs.YthppjdmkinbccaaGreatDoor.Print

namespace Go.Proofs.YthppjdmkinbccaaGreatDoor.Print
open Go.RowKit Go.Proofs.YthppjdmkinbccaaGreatDoorW.PrintWords Go.Proofs.YthppjdmkinbccaaGreatDoorW.PrintLast Go.Proofs.YthppjdmkinbccaaGreatDoorW.PrintMore
attribute [local go_sem] max2_int min2_int max_two min_two max_three min_three max_four min_four   -- for this text's walks alone
set_option linter.unusedVariables false
set_option linter.unusedSimpArgs false
def Txts9.j0 : Nat → ByteArray → Bool → Option (Bool)
 | 0, _, _ => none
 | k + 1, x0, x14 => if x14 = true then ((kn9.f k).bind fun t101 => (some t101)) else ((digits_ParseRat.f k x0).bind fun bt102 => ((r4PR.f k x0).bind fun bt111 => (if bt111.2.2.2 = 0 then (if bt102.2.2.2 = 0 then ((r3Is.f k bt111.1 bt111.2.1 bt111.2.2.1 bt102.1 bt102.2.1 bt102.2.2.1).bind fun t120 => (if t120 = true then ((kn9.f k).bind fun t121 => (some t121)) else (none))) else (none)) else (if bt102.2.2.2 = bt111.2.2.2 then ((falls9.f k x0 bt102.2.2.2).bind fun t122 => (if t122 = true then ((kn9.f k).bind fun t123 => (some t123)) else (none))) else (none)))))
def Txts9.f (k : Nat) (a0 : ByteArray) : Option (Bool) := if (a0.size : Int) > 120 then (Txts9.j0 k a0 (decide ((a0.size : Int) ≤ 800))) else (Txts9.j0 k a0 false)
set_option maxHeartbeats 8000000 in
set_option maxRecDepth 100000 in
theorem Txts9.calls (k : Nat) (a0 : ByteArray) (r : Bool) (w : World) (ht : PowTab w) (h : Txts9.f k a0 = some r) :
  Calls Tryz.prog 5 #[.string a0] w fun e w' => e = .returned (.bool r) ∧ Below w.heap.size w w' := by
 have HT := Aside0.mk ht
 clear ht
 have hu35 := Tryz.underlying35
 have hu39 := Tryz.underlying39
 have HB := Aside0.mk (Below.refl w.heap.size w)
 have H : (if (a0.size : Int) > 120 then (Txts9.j0 k a0 (decide ((a0.size : Int) ≤ 800))) else (Txts9.j0 k a0 false)) = some r := h
 clear h
 have HC2 := Aside0.mk H
 clear H
 go_enter Tryz.func5, Tryz.ntmps5
 go_upto_region 1 with (fail)
 go_cut [14] (fun v14 wc => ∃ (kq : Nat) (x14_1 : Bool), v14 = .bool x14_1 ∧ Aside0 (Txts9.j0 kq a0 x14_1 = some r) ∧ Aside0 (kq ≤ k) ∧ Aside0 (Below w.heap.size w wc))
 case first =>
  have H := HC2.out
  clear HC2
  by_cases c3 : (a0.size : Int) > 120
  ·rw [if_pos c3] at H
   have c3b0 : decide (120 < (a0.size : Int)) = true := decide_eq_true c3
   have c3b1 : decide (120 < a0.size) = true := decide_eq_true (by omega)
   clear c3
   (first | rw [c3b0] | (simp only [i64_w, i32_w]; rw [c3b0]) | skip)
   have H' := Aside0.mk H
   clear H
   go_wp2
   go_meet
   case rel => exact ⟨_, (decide ((a0.size : Int) ≤ 800)), (by first | rfl | (simp; done) | (simp [*]; done)), H', ⟨by first | omega | exact Nat.le_refl _⟩, ⟨by repeat (first | (with_reducible first | exact HB.out | apply bA9 | apply bN9 | apply bD9) | exact HB.out)⟩⟩
  ·rw [if_neg c3] at H
   have c3b0 : decide (120 < (a0.size : Int)) = false := decide_eq_false c3
   have c3b1 : decide (120 < a0.size) = false := decide_eq_false (by omega)
   clear c3
   (first | rw [c3b0] | (simp only [i64_w, i32_w]; rw [c3b0]) | skip)
   have H' := Aside0.mk H
   clear H
   go_wp2
   go_meet
   case rel => exact ⟨_, (false), (by first | rfl | (simp; done) | (simp [*]; done)), H', ⟨by first | omega | exact Nat.le_refl _⟩, ⟨by repeat (first | (with_reducible first | exact HB.out | apply bA9 | apply bN9 | apply bD9) | exact HB.out)⟩⟩
 case rest =>
  clear HC2
  try clear p2
  try clear c3
  try clear c3b0
  try clear c3b1
  obtain ⟨kq, x14_1, rfl, HA, HJ1, HB⟩ := hcut
  cases kq with
  | zero => exact absurd HA.out (by simp [Txts9.j0])
  | succ kj1 =>
   have H := HA.out
   clear HA
   simp only [Txts9.j0] at H
   by_cases c4 : x14_1 = true
   ·subst c4
    have H1 : ((kn9.f kj1).bind fun t101 => (some t101)) = some r := by rw [if_pos rfl] at H; exact H
    clear H
    have H := H1
    clear H1
    replace H := Option.bind_eq_some_iff.mp H
    obtain ⟨t101, A50, H⟩ := H
    replace H : (some t101) = some r := H
    have A5 := Aside0.mk A50
    clear A50
    obtain rfl := Option.some.inj H
    go_wp2_with (first | ((with_reducible refine gC9 (f := 15) rfl ?_); refine goesL_ (some 15) rfl rfl Tryz.func15 (by kernel_rfl) rfl #[] rfl (by (try simp only [List.map_toArray, List.map_cons, List.map_nil]); first | done | rfl | (simp only [List.length_drop, List.length_take]; rfl)) ?_; (with_reducible refine (kn9.calls kj1  t101 _ (PowTab.below HT.out (by repeat (first | (with_reducible first | exact HB.out | apply bA9 | apply bN9 | apply bD9 | refine bS9 ?_ GE110.out | refine bS9 ?_ GE119.out) | exact HB.out))) A5.out).mono ?_); rintro e w6 ⟨rfl, hb⟩; refine ⟨_, rfl, ?_⟩; have n0_ := Aside0.mk (bT9 (by repeat (first | (with_reducible first | exact HB.out | apply bA9 | apply bN9 | apply bD9) | exact HB.out)) hb); clear HB; have HB := n0_; clear n0_; (try clear hb); (try clear hb2); (try clear hk); (try clear hi)))
    go_ret
    exact ⟨by first | rfl | (simp [eN9, eS9] <;> rfl) | (simp [*, eN9, eS9] <;> rfl), by repeat (first | (with_reducible first | exact HB.out | apply bA9 | apply bN9 | apply bD9) | exact HB.out)⟩
   ·replace c4 := Bool.eq_false_iff.mpr c4
    subst c4
    have H1 : ((digits_ParseRat.f kj1 a0).bind fun bt102 => ((r4PR.f kj1 a0).bind fun bt111 => (if bt111.2.2.2 = 0 then (if bt102.2.2.2 = 0 then ((r3Is.f kj1 bt111.1 bt111.2.1 bt111.2.2.1 bt102.1 bt102.2.1 bt102.2.2.1).bind fun t120 => (if t120 = true then ((kn9.f kj1).bind fun t121 => (some t121)) else (none))) else (none)) else (if bt102.2.2.2 = bt111.2.2.2 then ((falls9.f kj1 a0 bt102.2.2.2).bind fun t122 => (if t122 = true then ((kn9.f kj1).bind fun t123 => (some t123)) else (none))) else (none))))) = some r := by rw [if_neg (show ¬ (false = true) by decide)] at H; exact H
    clear H
    have H := H1
    clear H1
    replace H := Option.bind_eq_some_iff.mp H
    obtain ⟨⟨t102, t103, t106, t109⟩, A70, H⟩ := H
    (try dsimp only at H)
    have A7 := Aside0.mk A70
    clear A70
    replace H := Option.bind_eq_some_iff.mp H
    obtain ⟨⟨t111, t112, t115, t118⟩, A80, H⟩ := H
    (try dsimp only at H)
    have A8 := Aside0.mk A80
    clear A80
    by_cases c9 : t118 = 0
    ·rw [if_pos c9] at H
     have c9b0 : (t118 == 0) = true := beq_iff_eq.mpr c9
     have c9b1 : (t118 != 0) = false := bne_eq_false_iff_eq.mpr c9
     clear c9
     by_cases c10 : t109 = 0
     ·rw [if_pos c10] at H
      have c10b0 : (t109 == 0) = true := beq_iff_eq.mpr c10
      have c10b1 : (t109 != 0) = false := bne_eq_false_iff_eq.mpr c10
      clear c10
      replace H := Option.bind_eq_some_iff.mp H
      obtain ⟨t120, A110, H⟩ := H
      (try dsimp only at H)
      have A11 := Aside0.mk A110
      clear A110
      by_cases c12 : t120 = true
      ·subst c12
       have H1 : ((kn9.f kj1).bind fun t121 => (some t121)) = some r := by rw [if_pos rfl] at H; exact H
       clear H
       have H := H1
       clear H1
       replace H := Option.bind_eq_some_iff.mp H
       obtain ⟨t121, A130, H⟩ := H
       replace H : (some t121) = some r := H
       have A13 := Aside0.mk A130
       clear A130
       obtain rfl := Option.some.inj H
       go_wp2_with (first | ((with_reducible refine gC9 (f := 19) rfl ?_); refine goesL_ (some 18) rfl rfl Tryz.func19 (by kernel_rfl) rfl #[.string a0] rfl (by (try simp only [List.map_toArray, List.map_cons, List.map_nil]); first | done | rfl | (simp only [List.length_drop, List.length_take]; rfl)) ?_; (with_reducible refine (digits_ParseRat.calls kj1 a0 t102 t103 t106 t109 _ A7.out).mono ?_); rintro e w14 ⟨v104, v107, rfl, ho0, ho1, hb⟩; refine ⟨_, rfl, ?_⟩; have n0_ := Aside0.mk (Kd.rL9 ho0 (bZ9 (by repeat (first | (with_reducible first | exact HB.out | apply bA9 | apply bN9 | apply bD9) | exact HB.out)))); have n1_ := Aside0.mk (Kd.rL9 ho1 (bZ9 (by repeat (first | (with_reducible first | exact HB.out | apply bA9 | apply bN9 | apply bD9) | exact HB.out)))); have n2_ := Aside0.mk (bT9 (by repeat (first | (with_reducible first | exact HB.out | apply bA9 | apply bN9 | apply bD9) | exact HB.out)) hb); clear HB; have HO105 := n0_; have HO108 := n1_; have HB := n2_; clear n0_ n1_ n2_; (try clear hb); (try clear hb2); (try clear hk); (try clear hi); (try clear ho0); (try clear ho1)) | ((with_reducible refine gD9 (N := 3) rfl ?_); (try (refine gate_guard (by rfl) ?_; dsimp only)); refine bE9 ?hg (N := 3) ?hd (cs := #[.bool false, .slice none 0 0, .slice none 0 0]) (t := 35) ?hr ?_; (case hd => rfl); (case hg => rfl); (case hr => first | (go_simp; done) | (go_simp; rfl)); intro gb110 hg w15 hbox hb; have n0_ := Aside0.mk (Kd.rB9 (by (with_reducible repeat (first | apply Kd.rA9 | apply Kd.rN9 | apply Kd.rD9)); exact HO105.out) hb); have n1_ := Aside0.mk (Kd.rB9 (by (with_reducible repeat (first | apply Kd.rA9 | apply Kd.rN9 | apply Kd.rD9)); exact HO108.out) hb); have n2_ := Aside0.mk (bT9 (by repeat (first | (with_reducible first | exact HB.out | apply bA9 | apply bN9 | apply bD9) | exact HB.out)) hb); have n3_ := Aside0.mk (hbox); have n4_ := Aside0.mk ((by rw [hg]; exact (bZ9 (by repeat (first | (with_reducible first | exact HB.out | apply bA9 | apply bN9 | apply bD9) | exact HB.out))) : w.heap.size ≤ gb110)); have n5_ := Aside0.mk ((by rw [hg]; exact (bZ9 (by repeat (first | (with_reducible first | exact HB.out | apply bA9 | apply bN9 | apply bD9) | exact HB.out))) : w.heap.size ≤ gb110)); clear HO105; clear HO108; clear HB; have HO105 := n0_; have HO108 := n1_; have HB := n2_; have BK110 := n3_; have GW110 := n4_; have GE110 := n5_; clear n0_ n1_ n2_ n3_ n4_ n5_; clear hb hbox hg; have hcz16_0 : w15.cell? ⟨gb110, 0, none⟩ = some (.bool false) := (kC9 BK110.out 0).trans rfl; have hcz16_1 : w15.cell? ⟨gb110, 1, none⟩ = some (.slice none 0 0) := (kC9 BK110.out 1).trans rfl; have hcz16_2 : w15.cell? ⟨gb110, 2, none⟩ = some (.slice none 0 0) := (kC9 BK110.out 2).trans rfl; have hfz16_0 := kF9 BK110.out 0; have hfz16_1 := kF9 BK110.out 1; have hfz16_2 := kF9 BK110.out 2; obtain ⟨Ao17, co17, eo17⟩ := Kd.rS9 HO105.out; subst eo17; obtain ⟨Ao18, co18, eo18⟩ := Kd.rS9 HO108.out; subst eo18) | ((with_reducible refine gC9 (f := 20) rfl ?_); refine goesL_ (some 23) rfl rfl Tryz.func20 (by kernel_rfl) rfl #[.string a0] rfl (by (try simp only [List.map_toArray, List.map_cons, List.map_nil]); first | done | rfl | (simp only [List.length_drop, List.length_take]; rfl)) ?_; (with_reducible refine (r4PR.calls kj1 a0 t111 t112 t115 t118 _ A8.out).mono ?_); rintro e w19 ⟨v113, v116, rfl, ho0, ho1, hb⟩; refine ⟨_, rfl, ?_⟩; have n0_ := Aside0.mk (Kd.rB9 (by (with_reducible repeat (first | apply Kd.rA9 | apply Kd.rN9 | apply Kd.rD9)); exact (Kd.R_mono (Kd.R_far (p := ⟨gb110, 2, none⟩) (Kd.R_far (p := ⟨gb110, 1, none⟩) (Kd.R_far (p := ⟨gb110, 0, none⟩) (Kd.rT9 HO105.out BK110.out (by decide)) (fun _ hk => hk.2) (.bool t102)) (fun _ hk => hk.2) (.slice Ao17 t103.length co17)) (fun _ hk => hk.2) (.slice Ao18 t106.length co18)) (fun _ h_ => h_.1))) hb); have n1_ := Aside0.mk (Kd.rB9 (by (with_reducible repeat (first | apply Kd.rA9 | apply Kd.rN9 | apply Kd.rD9)); exact (Kd.R_mono (Kd.R_far (p := ⟨gb110, 2, none⟩) (Kd.R_far (p := ⟨gb110, 1, none⟩) (Kd.R_far (p := ⟨gb110, 0, none⟩) (Kd.rT9 HO108.out BK110.out (by decide)) (fun _ hk => hk.2) (.bool t102)) (fun _ hk => hk.2) (.slice Ao17 t103.length co17)) (fun _ hk => hk.2) (.slice Ao18 t106.length co18)) (fun _ h_ => h_.1))) hb); have n2_ := Aside0.mk (Kd.rL9 ho0 (bZ9 (by repeat (first | (with_reducible first | exact HB.out | apply bA9 | apply bN9 | apply bD9 | refine bS9 ?_ GE110.out) | exact HB.out)))); have n3_ := Aside0.mk (Kd.rL9 ho1 (bZ9 (by repeat (first | (with_reducible first | exact HB.out | apply bA9 | apply bN9 | apply bD9 | refine bS9 ?_ GE110.out) | exact HB.out)))); have n4_ := Aside0.mk (kB9 (g := gb110) (o := .cells #[.bool t102, .slice Ao17 t103.length co17, .slice Ao18 t106.length co18] 35 (0, 0)) (by (with_reducible repeat (first | refine kN9 ?_ _ | refine kD9 ?_ | refine kA9 ?_ _)); refine kP9 (cs := #[.bool t102, .slice Ao17 t103.length co17, .slice none 0 0]) ?_ 2 _ rfl; (with_reducible repeat (first | refine kN9 ?_ _ | refine kD9 ?_ | refine kA9 ?_ _)); refine kP9 (cs := #[.bool t102, .slice none 0 0, .slice none 0 0]) ?_ 1 _ rfl; (with_reducible repeat (first | refine kN9 ?_ _ | refine kD9 ?_ | refine kA9 ?_ _)); refine kP9 (cs := #[.bool false, .slice none 0 0, .slice none 0 0]) ?_ 0 _ rfl; (with_reducible repeat (first | refine kN9 ?_ _ | refine kD9 ?_ | refine kA9 ?_ _)); exact BK110.out) hb); have n5_ := Aside0.mk (bT9 (by repeat (first | (with_reducible first | exact HB.out | apply bA9 | apply bN9 | apply bD9 | refine bS9 ?_ GE110.out) | exact HB.out)) hb); clear HO105; clear HO108; clear BK110; clear HB; have HO105 := n0_; have HO108 := n1_; have HO114 := n2_; have HO117 := n3_; have BK110 := n4_; have HB := n5_; clear n0_ n1_ n2_ n3_ n4_ n5_; (try clear hb); (try clear hb2); (try clear hk); (try clear hi); (try clear ho0); (try clear ho1)) | ((with_reducible refine gD9 (N := 5) rfl ?_); (try (refine gate_guard (by rfl) ?_; dsimp only)); refine bE9 ?hg (N := 5) ?hd (cs := #[.bool false, .slice none 0 0, .slice none 0 0]) (t := 39) ?hr ?_; (case hd => rfl); (case hg => rfl); (case hr => first | (go_simp; done) | (go_simp; rfl)); intro gb119 hg w20 hbox hb; have n0_ := Aside0.mk (Kd.rB9 (by (with_reducible repeat (first | apply Kd.rA9 | apply Kd.rN9 | apply Kd.rD9)); exact HO105.out) hb); have n1_ := Aside0.mk (Kd.rB9 (by (with_reducible repeat (first | apply Kd.rA9 | apply Kd.rN9 | apply Kd.rD9)); exact HO108.out) hb); have n2_ := Aside0.mk (Kd.rB9 (by (with_reducible repeat (first | apply Kd.rA9 | apply Kd.rN9 | apply Kd.rD9)); exact HO114.out) hb); have n3_ := Aside0.mk (Kd.rB9 (by (with_reducible repeat (first | apply Kd.rA9 | apply Kd.rN9 | apply Kd.rD9)); exact HO117.out) hb); have n4_ := Aside0.mk (kB9 (g := gb110) (o := .cells #[.bool t102, .slice Ao17 t103.length co17, .slice Ao18 t106.length co18] 35 (0, 0)) (by (with_reducible repeat (first | refine kN9 ?_ _ | refine kD9 ?_ | refine kA9 ?_ _)); exact BK110.out) hb); have n5_ := Aside0.mk (bT9 (by repeat (first | (with_reducible first | exact HB.out | apply bA9 | apply bN9 | apply bD9 | refine bS9 ?_ GE110.out) | exact HB.out)) hb); have n6_ := Aside0.mk (hbox); have n7_ := Aside0.mk ((by rw [hg]; exact (bZ9 (by repeat (first | (with_reducible first | exact HB.out | apply bA9 | apply bN9 | apply bD9 | refine bS9 ?_ GE110.out) | exact HB.out))) : w.heap.size ≤ gb119)); have n8_ := Aside0.mk ((by rw [hg]; exact (bZ9 (by repeat (first | (with_reducible first | exact HB.out | apply bA9 | apply bN9 | apply bD9 | refine bS9 ?_ GE110.out) | exact HB.out))) : w.heap.size ≤ gb119)); have n9_ := Aside0.mk ((by rw [hg]; exact Nat.ne_of_lt (blk_lt (g := gb110) (o := .cells #[.bool t102, .slice Ao17 t103.length co17, .slice Ao18 t106.length co18] 35 (0, 0)) (by (with_reducible repeat (first | refine kN9 ?_ _ | refine kD9 ?_ | refine kA9 ?_ _)); exact BK110.out)) : gb110 ≠ gb119)); have n10_ := Aside0.mk ((by rw [hg]; exact Nat.ne_of_gt (blk_lt (g := gb110) (o := .cells #[.bool t102, .slice Ao17 t103.length co17, .slice Ao18 t106.length co18] 35 (0, 0)) (by (with_reducible repeat (first | refine kN9 ?_ _ | refine kD9 ?_ | refine kA9 ?_ _)); exact BK110.out)) : gb119 ≠ gb110)); clear HO105; clear HO108; clear HO114; clear HO117; clear BK110; clear HB; have HO105 := n0_; have HO108 := n1_; have HO114 := n2_; have HO117 := n3_; have BK110 := n4_; have HB := n5_; have BK119 := n6_; have GW119 := n7_; have GE119 := n8_; have NB110_119 := n9_; have NB119_110 := n10_; clear n0_ n1_ n2_ n3_ n4_ n5_ n6_ n7_ n8_ n9_ n10_; clear hb hbox hg; have hnb21 := NB119_110.out; have hnc21 := NB110_119.out; have hcz22_0 : w20.cell? ⟨gb119, 0, none⟩ = some (.bool false) := (kC9 BK119.out 0).trans rfl; have hcz22_1 : w20.cell? ⟨gb119, 1, none⟩ = some (.slice none 0 0) := (kC9 BK119.out 1).trans rfl; have hcz22_2 : w20.cell? ⟨gb119, 2, none⟩ = some (.slice none 0 0) := (kC9 BK119.out 2).trans rfl; have hfz22_0 := kF9 BK119.out 0; have hfz22_1 := kF9 BK119.out 1; have hfz22_2 := kF9 BK119.out 2; obtain ⟨Ao23, co23, eo23⟩ := Kd.rS9 HO114.out; subst eo23; obtain ⟨Ao24, co24, eo24⟩ := Kd.rS9 HO117.out; subst eo24; have hcz25_0 : w20.cell? ⟨gb110, 0, none⟩ = some (.bool t102) := (kC9 BK110.out 0).trans rfl; have hcz25_1 : w20.cell? ⟨gb110, 1, none⟩ = some (.slice Ao17 t103.length co17) := (kC9 BK110.out 1).trans rfl; have hcz25_2 : w20.cell? ⟨gb110, 2, none⟩ = some (.slice Ao18 t106.length co18) := (kC9 BK110.out 2).trans rfl; have hfz25_0 := kF9 BK110.out 0; have hfz25_1 := kF9 BK110.out 1; have hfz25_2 := kF9 BK110.out 2) | (go_at_call 22; (with_reducible refine (r3Is.calls kj1 t111 _ _ t112 _ _ t115 t102 _ _ t103 _ _ t106 true _ ?side1 ?side2 ?side3 ?side4 ?side5 ?side6 ?side7 ?side8 A11.out).mono ?_); (case side1 => refine (Kd.rR9 (e := 3) (base := w.heap.size) (ok := fun k_ => some k_ ≠ (.slice Ao24 t115.length co24 : Value).ownBlock) (n := t112.length) (c := co23) ?_).2.2; exact (by (with_reducible repeat (first | apply Kd.rA9 | apply Kd.rN9 | apply Kd.rD9)); exact (Kd.R_mono (Kd.R_far (p := ⟨gb119, 2, none⟩) (Kd.R_far (p := ⟨gb119, 1, none⟩) (Kd.R_far (p := ⟨gb119, 0, none⟩) (Kd.rT9 HO114.out BK119.out (by decide)) (fun _ hk => hk.2) (.bool t111)) (fun _ hk => hk.2) (.slice Ao23 t112.length co23)) (fun _ hk => hk.2) (.slice Ao24 t115.length co24)) (fun _ h_ => h_.1)))); (case side2 => exact (Kd.rR9 HO114.out).2.1); (case side3 => refine (Kd.rR9 (e := 3) (base := w.heap.size) (ok := fun k_ => some k_ ≠ (.slice Ao23 t112.length co23 : Value).ownBlock) (n := t115.length) (c := co24) ?_).2.2; exact (by (with_reducible repeat (first | apply Kd.rA9 | apply Kd.rN9 | apply Kd.rD9)); exact (Kd.R_mono (Kd.R_far (p := ⟨gb119, 2, none⟩) (Kd.R_far (p := ⟨gb119, 1, none⟩) (Kd.R_far (p := ⟨gb119, 0, none⟩) (Kd.rT9 HO117.out BK119.out (by decide)) (fun _ hk => hk.2) (.bool t111)) (fun _ hk => hk.2) (.slice Ao23 t112.length co23)) (fun _ hk => hk.2) (.slice Ao24 t115.length co24)) (fun _ h_ => h_.1)))); (case side4 => exact (Kd.rR9 HO117.out).2.1); (case side5 => refine (Kd.rR9 (e := 56) (base := w.heap.size) (ok := fun k_ => some k_ ≠ (.slice Ao18 t106.length co18 : Value).ownBlock) (n := t103.length) (c := co17) ?_).2.2; exact (by (with_reducible repeat (first | apply Kd.rA9 | apply Kd.rN9 | apply Kd.rD9)); exact (Kd.R_mono (Kd.R_far (p := ⟨gb119, 2, none⟩) (Kd.R_far (p := ⟨gb119, 1, none⟩) (Kd.R_far (p := ⟨gb119, 0, none⟩) (Kd.rT9 HO105.out BK119.out (by decide)) (fun _ hk => hk.2) (.bool t111)) (fun _ hk => hk.2) (.slice Ao23 t112.length co23)) (fun _ hk => hk.2) (.slice Ao24 t115.length co24)) (fun _ h_ => h_.1)))); (case side6 => exact (Kd.rR9 HO105.out).2.1); (case side7 => refine (Kd.rR9 (e := 56) (base := w.heap.size) (ok := fun k_ => some k_ ≠ (.slice Ao17 t103.length co17 : Value).ownBlock) (n := t106.length) (c := co18) ?_).2.2; exact (by (with_reducible repeat (first | apply Kd.rA9 | apply Kd.rN9 | apply Kd.rD9)); exact (Kd.R_mono (Kd.R_far (p := ⟨gb119, 2, none⟩) (Kd.R_far (p := ⟨gb119, 1, none⟩) (Kd.R_far (p := ⟨gb119, 0, none⟩) (Kd.rT9 HO108.out BK119.out (by decide)) (fun _ hk => hk.2) (.bool t111)) (fun _ hk => hk.2) (.slice Ao23 t112.length co23)) (fun _ hk => hk.2) (.slice Ao24 t115.length co24)) (fun _ h_ => h_.1)))); (case side8 => exact (Kd.rR9 HO108.out).2.1); rintro e w26 ⟨rfl, hb⟩; have n0_ := Aside0.mk (Kd.rB9 (by (with_reducible repeat (first | apply Kd.rA9 | apply Kd.rN9 | apply Kd.rD9)); exact (Kd.R_mono (Kd.R_far (p := ⟨gb119, 2, none⟩) (Kd.R_far (p := ⟨gb119, 1, none⟩) (Kd.R_far (p := ⟨gb119, 0, none⟩) (Kd.rT9 HO105.out BK119.out (by decide)) (fun _ hk => hk.2) (.bool t111)) (fun _ hk => hk.2) (.slice Ao23 t112.length co23)) (fun _ hk => hk.2) (.slice Ao24 t115.length co24)) (fun _ h_ => h_.1))) hb); have n1_ := Aside0.mk (Kd.rB9 (by (with_reducible repeat (first | apply Kd.rA9 | apply Kd.rN9 | apply Kd.rD9)); exact (Kd.R_mono (Kd.R_far (p := ⟨gb119, 2, none⟩) (Kd.R_far (p := ⟨gb119, 1, none⟩) (Kd.R_far (p := ⟨gb119, 0, none⟩) (Kd.rT9 HO108.out BK119.out (by decide)) (fun _ hk => hk.2) (.bool t111)) (fun _ hk => hk.2) (.slice Ao23 t112.length co23)) (fun _ hk => hk.2) (.slice Ao24 t115.length co24)) (fun _ h_ => h_.1))) hb); have n2_ := Aside0.mk (Kd.rB9 (by (with_reducible repeat (first | apply Kd.rA9 | apply Kd.rN9 | apply Kd.rD9)); exact (Kd.R_mono (Kd.R_far (p := ⟨gb119, 2, none⟩) (Kd.R_far (p := ⟨gb119, 1, none⟩) (Kd.R_far (p := ⟨gb119, 0, none⟩) (Kd.rT9 HO114.out BK119.out (by decide)) (fun _ hk => hk.2) (.bool t111)) (fun _ hk => hk.2) (.slice Ao23 t112.length co23)) (fun _ hk => hk.2) (.slice Ao24 t115.length co24)) (fun _ h_ => h_.1))) hb); have n3_ := Aside0.mk (Kd.rB9 (by (with_reducible repeat (first | apply Kd.rA9 | apply Kd.rN9 | apply Kd.rD9)); exact (Kd.R_mono (Kd.R_far (p := ⟨gb119, 2, none⟩) (Kd.R_far (p := ⟨gb119, 1, none⟩) (Kd.R_far (p := ⟨gb119, 0, none⟩) (Kd.rT9 HO117.out BK119.out (by decide)) (fun _ hk => hk.2) (.bool t111)) (fun _ hk => hk.2) (.slice Ao23 t112.length co23)) (fun _ hk => hk.2) (.slice Ao24 t115.length co24)) (fun _ h_ => h_.1))) hb); have n4_ := Aside0.mk (kB9 (g := gb110) (o := .cells #[.bool t102, .slice Ao17 t103.length co17, .slice Ao18 t106.length co18] 35 (0, 0)) (by (with_reducible repeat (first | refine kN9 ?_ _ | refine kD9 ?_ | refine kA9 ?_ _)); refine blk_far ?_ NB110_119.out _; (with_reducible repeat (first | refine kN9 ?_ _ | refine kD9 ?_ | refine kA9 ?_ _)); refine blk_far ?_ NB110_119.out _; (with_reducible repeat (first | refine kN9 ?_ _ | refine kD9 ?_ | refine kA9 ?_ _)); refine blk_far ?_ NB110_119.out _; (with_reducible repeat (first | refine kN9 ?_ _ | refine kD9 ?_ | refine kA9 ?_ _)); exact BK110.out) hb); have n5_ := Aside0.mk (kB9 (g := gb119) (o := .cells #[.bool t111, .slice Ao23 t112.length co23, .slice Ao24 t115.length co24] 39 (0, 0)) (by (with_reducible repeat (first | refine kN9 ?_ _ | refine kD9 ?_ | refine kA9 ?_ _)); refine kP9 (cs := #[.bool t111, .slice Ao23 t112.length co23, .slice none 0 0]) ?_ 2 _ rfl; (with_reducible repeat (first | refine kN9 ?_ _ | refine kD9 ?_ | refine kA9 ?_ _)); refine kP9 (cs := #[.bool t111, .slice none 0 0, .slice none 0 0]) ?_ 1 _ rfl; (with_reducible repeat (first | refine kN9 ?_ _ | refine kD9 ?_ | refine kA9 ?_ _)); refine kP9 (cs := #[.bool false, .slice none 0 0, .slice none 0 0]) ?_ 0 _ rfl; (with_reducible repeat (first | refine kN9 ?_ _ | refine kD9 ?_ | refine kA9 ?_ _)); exact BK119.out) hb); have n6_ := Aside0.mk (bT9 (by repeat (first | (with_reducible first | exact HB.out | apply bA9 | apply bN9 | apply bD9 | refine bS9 ?_ GE110.out | refine bS9 ?_ GE119.out) | exact HB.out)) hb); clear HO105; clear HO108; clear HO114; clear HO117; clear BK110; clear BK119; clear HB; have HO105 := n0_; have HO108 := n1_; have HO114 := n2_; have HO117 := n3_; have BK110 := n4_; have BK119 := n5_; have HB := n6_; clear n0_ n1_ n2_ n3_ n4_ n5_ n6_; (try clear hb); (try clear hb2); (try clear hk); (try clear hi)) | (go_at_call 15; (with_reducible refine (kn9.calls kj1  t121 _ (PowTab.below HT.out (by repeat (first | (with_reducible first | exact HB.out | apply bA9 | apply bN9 | apply bD9 | refine bS9 ?_ GE110.out | refine bS9 ?_ GE119.out) | exact HB.out))) A13.out).mono ?_); rintro e w27 ⟨rfl, hb⟩; have n0_ := Aside0.mk (Kd.rB9 (by (with_reducible repeat (first | apply Kd.rA9 | apply Kd.rN9 | apply Kd.rD9)); exact HO105.out) hb); have n1_ := Aside0.mk (Kd.rB9 (by (with_reducible repeat (first | apply Kd.rA9 | apply Kd.rN9 | apply Kd.rD9)); exact HO108.out) hb); have n2_ := Aside0.mk (Kd.rB9 (by (with_reducible repeat (first | apply Kd.rA9 | apply Kd.rN9 | apply Kd.rD9)); exact HO114.out) hb); have n3_ := Aside0.mk (Kd.rB9 (by (with_reducible repeat (first | apply Kd.rA9 | apply Kd.rN9 | apply Kd.rD9)); exact HO117.out) hb); have n4_ := Aside0.mk (kB9 (g := gb110) (o := .cells #[.bool t102, .slice Ao17 t103.length co17, .slice Ao18 t106.length co18] 35 (0, 0)) (by (with_reducible repeat (first | refine kN9 ?_ _ | refine kD9 ?_ | refine kA9 ?_ _)); exact BK110.out) hb); have n5_ := Aside0.mk (kB9 (g := gb119) (o := .cells #[.bool t111, .slice Ao23 t112.length co23, .slice Ao24 t115.length co24] 39 (0, 0)) (by (with_reducible repeat (first | refine kN9 ?_ _ | refine kD9 ?_ | refine kA9 ?_ _)); exact BK119.out) hb); have n6_ := Aside0.mk (bT9 (by repeat (first | (with_reducible first | exact HB.out | apply bA9 | apply bN9 | apply bD9 | refine bS9 ?_ GE110.out | refine bS9 ?_ GE119.out) | exact HB.out)) hb); clear HO105; clear HO108; clear HO114; clear HO117; clear BK110; clear BK119; clear HB; have HO105 := n0_; have HO108 := n1_; have HO114 := n2_; have HO117 := n3_; have BK110 := n4_; have BK119 := n5_; have HB := n6_; clear n0_ n1_ n2_ n3_ n4_ n5_ n6_; (try clear hb); (try clear hb2); (try clear hk); (try clear hi)))
       go_ret
       exact ⟨by first | rfl | (simp [eN9, eS9] <;> rfl) | (simp [*, eN9, eS9] <;> rfl), by repeat (first | (with_reducible first | exact HB.out | apply bA9 | apply bN9 | apply bD9 | refine bS9 ?_ GE110.out | refine bS9 ?_ GE119.out) | exact HB.out)⟩
      ·replace c12 := Bool.eq_false_iff.mpr c12
       subst c12
       have H1 : (none) = some r := by rw [if_neg (show ¬ (false = true) by decide)] at H; exact H
       clear H
       have H := H1
       clear H1
       exact absurd H (by simp)
     ·rw [if_neg c10] at H
      exact absurd H (by simp)
    ·rw [if_neg c9] at H
     have c9b0 : (t118 == 0) = false := beq_eq_false_iff_ne.mpr c9
     have c9b1 : (t118 != 0) = true := bne_iff_ne.mpr c9
     by_cases c28 : t109 = t118
     ·rw [if_pos c28] at H
      have c28b0 : (t109 == t118) = true := beq_iff_eq.mpr c28
      have c28b1 : (t109 != t118) = false := bne_eq_false_iff_eq.mpr c28
      clear c28
      replace H := Option.bind_eq_some_iff.mp H
      obtain ⟨t122, A290, H⟩ := H
      (try dsimp only at H)
      have A29 := Aside0.mk A290
      clear A290
      by_cases c30 : t122 = true
      ·subst c30
       have H1 : ((kn9.f kj1).bind fun t123 => (some t123)) = some r := by rw [if_pos rfl] at H; exact H
       clear H
       have H := H1
       clear H1
       replace H := Option.bind_eq_some_iff.mp H
       obtain ⟨t123, A310, H⟩ := H
       replace H : (some t123) = some r := H
       have A31 := Aside0.mk A310
       clear A310
       obtain rfl := Option.some.inj H
       go_wp2_with (first | ((with_reducible refine gC9 (f := 19) rfl ?_); refine goesL_ (some 18) rfl rfl Tryz.func19 (by kernel_rfl) rfl #[.string a0] rfl (by (try simp only [List.map_toArray, List.map_cons, List.map_nil]); first | done | rfl | (simp only [List.length_drop, List.length_take]; rfl)) ?_; (with_reducible refine (digits_ParseRat.calls kj1 a0 t102 t103 t106 t109 _ A7.out).mono ?_); rintro e w32 ⟨v104, v107, rfl, ho0, ho1, hb⟩; refine ⟨_, rfl, ?_⟩; have n0_ := Aside0.mk (Kd.rL9 ho0 (bZ9 (by repeat (first | (with_reducible first | exact HB.out | apply bA9 | apply bN9 | apply bD9) | exact HB.out)))); have n1_ := Aside0.mk (Kd.rL9 ho1 (bZ9 (by repeat (first | (with_reducible first | exact HB.out | apply bA9 | apply bN9 | apply bD9) | exact HB.out)))); have n2_ := Aside0.mk (bT9 (by repeat (first | (with_reducible first | exact HB.out | apply bA9 | apply bN9 | apply bD9) | exact HB.out)) hb); clear HB; have HO105 := n0_; have HO108 := n1_; have HB := n2_; clear n0_ n1_ n2_; (try clear hb); (try clear hb2); (try clear hk); (try clear hi); (try clear ho0); (try clear ho1)) | ((with_reducible refine gD9 (N := 3) rfl ?_); (try (refine gate_guard (by rfl) ?_; dsimp only)); refine bE9 ?hg (N := 3) ?hd (cs := #[.bool false, .slice none 0 0, .slice none 0 0]) (t := 35) ?hr ?_; (case hd => rfl); (case hg => rfl); (case hr => first | (go_simp; done) | (go_simp; rfl)); intro gb110 hg w33 hbox hb; have n0_ := Aside0.mk (Kd.rB9 (by (with_reducible repeat (first | apply Kd.rA9 | apply Kd.rN9 | apply Kd.rD9)); exact HO105.out) hb); have n1_ := Aside0.mk (Kd.rB9 (by (with_reducible repeat (first | apply Kd.rA9 | apply Kd.rN9 | apply Kd.rD9)); exact HO108.out) hb); have n2_ := Aside0.mk (bT9 (by repeat (first | (with_reducible first | exact HB.out | apply bA9 | apply bN9 | apply bD9) | exact HB.out)) hb); have n3_ := Aside0.mk (hbox); have n4_ := Aside0.mk ((by rw [hg]; exact (bZ9 (by repeat (first | (with_reducible first | exact HB.out | apply bA9 | apply bN9 | apply bD9) | exact HB.out))) : w.heap.size ≤ gb110)); have n5_ := Aside0.mk ((by rw [hg]; exact (bZ9 (by repeat (first | (with_reducible first | exact HB.out | apply bA9 | apply bN9 | apply bD9) | exact HB.out))) : w.heap.size ≤ gb110)); clear HO105; clear HO108; clear HB; have HO105 := n0_; have HO108 := n1_; have HB := n2_; have BK110 := n3_; have GW110 := n4_; have GE110 := n5_; clear n0_ n1_ n2_ n3_ n4_ n5_; clear hb hbox hg; have hcz34_0 : w33.cell? ⟨gb110, 0, none⟩ = some (.bool false) := (kC9 BK110.out 0).trans rfl; have hcz34_1 : w33.cell? ⟨gb110, 1, none⟩ = some (.slice none 0 0) := (kC9 BK110.out 1).trans rfl; have hcz34_2 : w33.cell? ⟨gb110, 2, none⟩ = some (.slice none 0 0) := (kC9 BK110.out 2).trans rfl; have hfz34_0 := kF9 BK110.out 0; have hfz34_1 := kF9 BK110.out 1; have hfz34_2 := kF9 BK110.out 2; obtain ⟨Ao35, co35, eo35⟩ := Kd.rS9 HO105.out; subst eo35; obtain ⟨Ao36, co36, eo36⟩ := Kd.rS9 HO108.out; subst eo36) | ((with_reducible refine gC9 (f := 20) rfl ?_); refine goesL_ (some 23) rfl rfl Tryz.func20 (by kernel_rfl) rfl #[.string a0] rfl (by (try simp only [List.map_toArray, List.map_cons, List.map_nil]); first | done | rfl | (simp only [List.length_drop, List.length_take]; rfl)) ?_; (with_reducible refine (r4PR.calls kj1 a0 t111 t112 t115 t118 _ A8.out).mono ?_); rintro e w37 ⟨v113, v116, rfl, ho0, ho1, hb⟩; refine ⟨_, rfl, ?_⟩; have n0_ := Aside0.mk (Kd.rB9 (by (with_reducible repeat (first | apply Kd.rA9 | apply Kd.rN9 | apply Kd.rD9)); exact (Kd.R_mono (Kd.R_far (p := ⟨gb110, 2, none⟩) (Kd.R_far (p := ⟨gb110, 1, none⟩) (Kd.R_far (p := ⟨gb110, 0, none⟩) (Kd.rT9 HO105.out BK110.out (by decide)) (fun _ hk => hk.2) (.bool t102)) (fun _ hk => hk.2) (.slice Ao35 t103.length co35)) (fun _ hk => hk.2) (.slice Ao36 t106.length co36)) (fun _ h_ => h_.1))) hb); have n1_ := Aside0.mk (Kd.rB9 (by (with_reducible repeat (first | apply Kd.rA9 | apply Kd.rN9 | apply Kd.rD9)); exact (Kd.R_mono (Kd.R_far (p := ⟨gb110, 2, none⟩) (Kd.R_far (p := ⟨gb110, 1, none⟩) (Kd.R_far (p := ⟨gb110, 0, none⟩) (Kd.rT9 HO108.out BK110.out (by decide)) (fun _ hk => hk.2) (.bool t102)) (fun _ hk => hk.2) (.slice Ao35 t103.length co35)) (fun _ hk => hk.2) (.slice Ao36 t106.length co36)) (fun _ h_ => h_.1))) hb); have n2_ := Aside0.mk (Kd.rL9 ho0 (bZ9 (by repeat (first | (with_reducible first | exact HB.out | apply bA9 | apply bN9 | apply bD9 | refine bS9 ?_ GE110.out) | exact HB.out)))); have n3_ := Aside0.mk (Kd.rL9 ho1 (bZ9 (by repeat (first | (with_reducible first | exact HB.out | apply bA9 | apply bN9 | apply bD9 | refine bS9 ?_ GE110.out) | exact HB.out)))); have n4_ := Aside0.mk (kB9 (g := gb110) (o := .cells #[.bool t102, .slice Ao35 t103.length co35, .slice Ao36 t106.length co36] 35 (0, 0)) (by (with_reducible repeat (first | refine kN9 ?_ _ | refine kD9 ?_ | refine kA9 ?_ _)); refine kP9 (cs := #[.bool t102, .slice Ao35 t103.length co35, .slice none 0 0]) ?_ 2 _ rfl; (with_reducible repeat (first | refine kN9 ?_ _ | refine kD9 ?_ | refine kA9 ?_ _)); refine kP9 (cs := #[.bool t102, .slice none 0 0, .slice none 0 0]) ?_ 1 _ rfl; (with_reducible repeat (first | refine kN9 ?_ _ | refine kD9 ?_ | refine kA9 ?_ _)); refine kP9 (cs := #[.bool false, .slice none 0 0, .slice none 0 0]) ?_ 0 _ rfl; (with_reducible repeat (first | refine kN9 ?_ _ | refine kD9 ?_ | refine kA9 ?_ _)); exact BK110.out) hb); have n5_ := Aside0.mk (bT9 (by repeat (first | (with_reducible first | exact HB.out | apply bA9 | apply bN9 | apply bD9 | refine bS9 ?_ GE110.out) | exact HB.out)) hb); clear HO105; clear HO108; clear BK110; clear HB; have HO105 := n0_; have HO108 := n1_; have HO114 := n2_; have HO117 := n3_; have BK110 := n4_; have HB := n5_; clear n0_ n1_ n2_ n3_ n4_ n5_; (try clear hb); (try clear hb2); (try clear hk); (try clear hi); (try clear ho0); (try clear ho1)) | ((with_reducible refine gD9 (N := 5) rfl ?_); (try (refine gate_guard (by rfl) ?_; dsimp only)); refine bE9 ?hg (N := 5) ?hd (cs := #[.bool false, .slice none 0 0, .slice none 0 0]) (t := 39) ?hr ?_; (case hd => rfl); (case hg => rfl); (case hr => first | (go_simp; done) | (go_simp; rfl)); intro gb119 hg w38 hbox hb; have n0_ := Aside0.mk (Kd.rB9 (by (with_reducible repeat (first | apply Kd.rA9 | apply Kd.rN9 | apply Kd.rD9)); exact HO105.out) hb); have n1_ := Aside0.mk (Kd.rB9 (by (with_reducible repeat (first | apply Kd.rA9 | apply Kd.rN9 | apply Kd.rD9)); exact HO108.out) hb); have n2_ := Aside0.mk (Kd.rB9 (by (with_reducible repeat (first | apply Kd.rA9 | apply Kd.rN9 | apply Kd.rD9)); exact HO114.out) hb); have n3_ := Aside0.mk (Kd.rB9 (by (with_reducible repeat (first | apply Kd.rA9 | apply Kd.rN9 | apply Kd.rD9)); exact HO117.out) hb); have n4_ := Aside0.mk (kB9 (g := gb110) (o := .cells #[.bool t102, .slice Ao35 t103.length co35, .slice Ao36 t106.length co36] 35 (0, 0)) (by (with_reducible repeat (first | refine kN9 ?_ _ | refine kD9 ?_ | refine kA9 ?_ _)); exact BK110.out) hb); have n5_ := Aside0.mk (bT9 (by repeat (first | (with_reducible first | exact HB.out | apply bA9 | apply bN9 | apply bD9 | refine bS9 ?_ GE110.out) | exact HB.out)) hb); have n6_ := Aside0.mk (hbox); have n7_ := Aside0.mk ((by rw [hg]; exact (bZ9 (by repeat (first | (with_reducible first | exact HB.out | apply bA9 | apply bN9 | apply bD9 | refine bS9 ?_ GE110.out) | exact HB.out))) : w.heap.size ≤ gb119)); have n8_ := Aside0.mk ((by rw [hg]; exact (bZ9 (by repeat (first | (with_reducible first | exact HB.out | apply bA9 | apply bN9 | apply bD9 | refine bS9 ?_ GE110.out) | exact HB.out))) : w.heap.size ≤ gb119)); have n9_ := Aside0.mk ((by rw [hg]; exact Nat.ne_of_lt (blk_lt (g := gb110) (o := .cells #[.bool t102, .slice Ao35 t103.length co35, .slice Ao36 t106.length co36] 35 (0, 0)) (by (with_reducible repeat (first | refine kN9 ?_ _ | refine kD9 ?_ | refine kA9 ?_ _)); exact BK110.out)) : gb110 ≠ gb119)); have n10_ := Aside0.mk ((by rw [hg]; exact Nat.ne_of_gt (blk_lt (g := gb110) (o := .cells #[.bool t102, .slice Ao35 t103.length co35, .slice Ao36 t106.length co36] 35 (0, 0)) (by (with_reducible repeat (first | refine kN9 ?_ _ | refine kD9 ?_ | refine kA9 ?_ _)); exact BK110.out)) : gb119 ≠ gb110)); clear HO105; clear HO108; clear HO114; clear HO117; clear BK110; clear HB; have HO105 := n0_; have HO108 := n1_; have HO114 := n2_; have HO117 := n3_; have BK110 := n4_; have HB := n5_; have BK119 := n6_; have GW119 := n7_; have GE119 := n8_; have NB110_119 := n9_; have NB119_110 := n10_; clear n0_ n1_ n2_ n3_ n4_ n5_ n6_ n7_ n8_ n9_ n10_; clear hb hbox hg; have hnb39 := NB119_110.out; have hnc39 := NB110_119.out; have hcz40_0 : w38.cell? ⟨gb119, 0, none⟩ = some (.bool false) := (kC9 BK119.out 0).trans rfl; have hcz40_1 : w38.cell? ⟨gb119, 1, none⟩ = some (.slice none 0 0) := (kC9 BK119.out 1).trans rfl; have hcz40_2 : w38.cell? ⟨gb119, 2, none⟩ = some (.slice none 0 0) := (kC9 BK119.out 2).trans rfl; have hfz40_0 := kF9 BK119.out 0; have hfz40_1 := kF9 BK119.out 1; have hfz40_2 := kF9 BK119.out 2; obtain ⟨Ao41, co41, eo41⟩ := Kd.rS9 HO114.out; subst eo41; obtain ⟨Ao42, co42, eo42⟩ := Kd.rS9 HO117.out; subst eo42) | (go_at_call 21; (with_reducible refine (falls9.calls kj1 a0 t109 true _ A29.out).mono ?_); rintro e w43 ⟨rfl, hb⟩; have n0_ := Aside0.mk (Kd.rB9 (by (with_reducible repeat (first | apply Kd.rA9 | apply Kd.rN9 | apply Kd.rD9)); exact (Kd.R_mono (Kd.R_far (p := ⟨gb119, 2, none⟩) (Kd.R_far (p := ⟨gb119, 1, none⟩) (Kd.R_far (p := ⟨gb119, 0, none⟩) (Kd.rT9 HO105.out BK119.out (by decide)) (fun _ hk => hk.2) (.bool t111)) (fun _ hk => hk.2) (.slice Ao41 t112.length co41)) (fun _ hk => hk.2) (.slice Ao42 t115.length co42)) (fun _ h_ => h_.1))) hb); have n1_ := Aside0.mk (Kd.rB9 (by (with_reducible repeat (first | apply Kd.rA9 | apply Kd.rN9 | apply Kd.rD9)); exact (Kd.R_mono (Kd.R_far (p := ⟨gb119, 2, none⟩) (Kd.R_far (p := ⟨gb119, 1, none⟩) (Kd.R_far (p := ⟨gb119, 0, none⟩) (Kd.rT9 HO108.out BK119.out (by decide)) (fun _ hk => hk.2) (.bool t111)) (fun _ hk => hk.2) (.slice Ao41 t112.length co41)) (fun _ hk => hk.2) (.slice Ao42 t115.length co42)) (fun _ h_ => h_.1))) hb); have n2_ := Aside0.mk (Kd.rB9 (by (with_reducible repeat (first | apply Kd.rA9 | apply Kd.rN9 | apply Kd.rD9)); exact (Kd.R_mono (Kd.R_far (p := ⟨gb119, 2, none⟩) (Kd.R_far (p := ⟨gb119, 1, none⟩) (Kd.R_far (p := ⟨gb119, 0, none⟩) (Kd.rT9 HO114.out BK119.out (by decide)) (fun _ hk => hk.2) (.bool t111)) (fun _ hk => hk.2) (.slice Ao41 t112.length co41)) (fun _ hk => hk.2) (.slice Ao42 t115.length co42)) (fun _ h_ => h_.1))) hb); have n3_ := Aside0.mk (Kd.rB9 (by (with_reducible repeat (first | apply Kd.rA9 | apply Kd.rN9 | apply Kd.rD9)); exact (Kd.R_mono (Kd.R_far (p := ⟨gb119, 2, none⟩) (Kd.R_far (p := ⟨gb119, 1, none⟩) (Kd.R_far (p := ⟨gb119, 0, none⟩) (Kd.rT9 HO117.out BK119.out (by decide)) (fun _ hk => hk.2) (.bool t111)) (fun _ hk => hk.2) (.slice Ao41 t112.length co41)) (fun _ hk => hk.2) (.slice Ao42 t115.length co42)) (fun _ h_ => h_.1))) hb); have n4_ := Aside0.mk (kB9 (g := gb110) (o := .cells #[.bool t102, .slice Ao35 t103.length co35, .slice Ao36 t106.length co36] 35 (0, 0)) (by (with_reducible repeat (first | refine kN9 ?_ _ | refine kD9 ?_ | refine kA9 ?_ _)); refine blk_far ?_ NB110_119.out _; (with_reducible repeat (first | refine kN9 ?_ _ | refine kD9 ?_ | refine kA9 ?_ _)); refine blk_far ?_ NB110_119.out _; (with_reducible repeat (first | refine kN9 ?_ _ | refine kD9 ?_ | refine kA9 ?_ _)); refine blk_far ?_ NB110_119.out _; (with_reducible repeat (first | refine kN9 ?_ _ | refine kD9 ?_ | refine kA9 ?_ _)); exact BK110.out) hb); have n5_ := Aside0.mk (kB9 (g := gb119) (o := .cells #[.bool t111, .slice Ao41 t112.length co41, .slice Ao42 t115.length co42] 39 (0, 0)) (by (with_reducible repeat (first | refine kN9 ?_ _ | refine kD9 ?_ | refine kA9 ?_ _)); refine kP9 (cs := #[.bool t111, .slice Ao41 t112.length co41, .slice none 0 0]) ?_ 2 _ rfl; (with_reducible repeat (first | refine kN9 ?_ _ | refine kD9 ?_ | refine kA9 ?_ _)); refine kP9 (cs := #[.bool t111, .slice none 0 0, .slice none 0 0]) ?_ 1 _ rfl; (with_reducible repeat (first | refine kN9 ?_ _ | refine kD9 ?_ | refine kA9 ?_ _)); refine kP9 (cs := #[.bool false, .slice none 0 0, .slice none 0 0]) ?_ 0 _ rfl; (with_reducible repeat (first | refine kN9 ?_ _ | refine kD9 ?_ | refine kA9 ?_ _)); exact BK119.out) hb); have n6_ := Aside0.mk (bT9 (by repeat (first | (with_reducible first | exact HB.out | apply bA9 | apply bN9 | apply bD9 | refine bS9 ?_ GE110.out | refine bS9 ?_ GE119.out) | exact HB.out)) hb); clear HO105; clear HO108; clear HO114; clear HO117; clear BK110; clear BK119; clear HB; have HO105 := n0_; have HO108 := n1_; have HO114 := n2_; have HO117 := n3_; have BK110 := n4_; have BK119 := n5_; have HB := n6_; clear n0_ n1_ n2_ n3_ n4_ n5_ n6_; (try clear hb); (try clear hb2); (try clear hk); (try clear hi)) | (go_at_call 15; (with_reducible refine (kn9.calls kj1  t123 _ (PowTab.below HT.out (by repeat (first | (with_reducible first | exact HB.out | apply bA9 | apply bN9 | apply bD9 | refine bS9 ?_ GE110.out | refine bS9 ?_ GE119.out) | exact HB.out))) A31.out).mono ?_); rintro e w44 ⟨rfl, hb⟩; have n0_ := Aside0.mk (Kd.rB9 (by (with_reducible repeat (first | apply Kd.rA9 | apply Kd.rN9 | apply Kd.rD9)); exact HO105.out) hb); have n1_ := Aside0.mk (Kd.rB9 (by (with_reducible repeat (first | apply Kd.rA9 | apply Kd.rN9 | apply Kd.rD9)); exact HO108.out) hb); have n2_ := Aside0.mk (Kd.rB9 (by (with_reducible repeat (first | apply Kd.rA9 | apply Kd.rN9 | apply Kd.rD9)); exact HO114.out) hb); have n3_ := Aside0.mk (Kd.rB9 (by (with_reducible repeat (first | apply Kd.rA9 | apply Kd.rN9 | apply Kd.rD9)); exact HO117.out) hb); have n4_ := Aside0.mk (kB9 (g := gb110) (o := .cells #[.bool t102, .slice Ao35 t103.length co35, .slice Ao36 t106.length co36] 35 (0, 0)) (by (with_reducible repeat (first | refine kN9 ?_ _ | refine kD9 ?_ | refine kA9 ?_ _)); exact BK110.out) hb); have n5_ := Aside0.mk (kB9 (g := gb119) (o := .cells #[.bool t111, .slice Ao41 t112.length co41, .slice Ao42 t115.length co42] 39 (0, 0)) (by (with_reducible repeat (first | refine kN9 ?_ _ | refine kD9 ?_ | refine kA9 ?_ _)); exact BK119.out) hb); have n6_ := Aside0.mk (bT9 (by repeat (first | (with_reducible first | exact HB.out | apply bA9 | apply bN9 | apply bD9 | refine bS9 ?_ GE110.out | refine bS9 ?_ GE119.out) | exact HB.out)) hb); clear HO105; clear HO108; clear HO114; clear HO117; clear BK110; clear BK119; clear HB; have HO105 := n0_; have HO108 := n1_; have HO114 := n2_; have HO117 := n3_; have BK110 := n4_; have BK119 := n5_; have HB := n6_; clear n0_ n1_ n2_ n3_ n4_ n5_ n6_; (try clear hb); (try clear hb2); (try clear hk); (try clear hi)))
       go_ret
       exact ⟨by first | rfl | (simp [eN9, eS9] <;> rfl) | (simp [*, eN9, eS9] <;> rfl), by repeat (first | (with_reducible first | exact HB.out | apply bA9 | apply bN9 | apply bD9 | refine bS9 ?_ GE110.out | refine bS9 ?_ GE119.out) | exact HB.out)⟩
      ·replace c30 := Bool.eq_false_iff.mpr c30
       subst c30
       have H1 : (none) = some r := by rw [if_neg (show ¬ (false = true) by decide)] at H; exact H
       clear H
       have H := H1
       clear H1
       exact absurd H (by simp)
     ·rw [if_neg c28] at H
      exact absurd H (by simp)
def Txts9.Pure : Prop := ∀ (a0 : ByteArray), a0.size ≤ 140737488351232 → ∃ k, Txts9.f k a0 = some true
end Go.Proofs.YthppjdmkinbccaaGreatDoor.Print

namespace Go.Proofs.YthppjdmkinbccaaGreatDoor.Ref
open Go.RowKit Go.Proofs.YthppjdmkinbccaaGreatDoorW.PrintWords Go.Proofs.YthppjdmkinbccaaGreatDoorW.PrintLast Go.Proofs.YthppjdmkinbccaaGreatDoor.Print Go.Proofs.YthppjdmkinbccaaGreatDoor.Base
set_option linter.unusedVariables false
set_option linter.unusedSimpArgs false
theorem w64 {x : Int} (h0 : -9223372036854775808 ≤ x) (h1 : x ≤ 9223372036854775807) : wrap64 x = x := by
  unfold wrap64; omega
theorem w64n {n : Nat} (h : n ≤ 9223372036854775807) : wrap64 (n : Int) = (n : Int) := w64 (by omega) (by omega)
theorem tdiv_nat (a b : Nat) : Int.tdiv (a : Int) (b : Int) = ((a / b : Nat) : Int) := rfl
theorem tmod_nat (a b : Nat) : Int.tmod (a : Int) (b : Int) = ((a % b : Nat) : Int) := rfl
theorem rd_limb {B : Nat} {l : List Int} (h : DigB B l) (i : Nat) : rd l (i : Int) = ((limbN l i : Nat) : Int) := by
  unfold rd limbN
  rw [Int.toNat_natCast, Int.toNat_of_nonneg]
  rcases Nat.lt_or_ge i l.length with c | c
  · have := h l[i] (List.getElem_mem c)
    simp [c]; omega
  · simp [List.getElem?_eq_none c]
theorem digit_f {B : Nat} {l : List Int} (h : DigB B l) (i : Nat) : r1d.f l (i : Int) = some ((limbN l i : Nat) : Int) := by
  unfold r1d.f
  by_cases c : i < l.length
  · rw [if_pos (by omega), if_pos (by omega), rd_limb h]
  · rw [if_neg (by omega), limbN_out (by omega)]; rfl
theorem top_pos {B : Nat} {l : List Int} (g : GoodB B l) {m : Nat} (h : m + 1 = l.length) : 0 < limbN l m := by
  have hl : l ≠ [] := fun e => by rw [e] at h; simp at h
  have hg : l.getLast hl ≠ 0 := fun c => g.can (by rw [List.getLast?_eq_some_getLast hl, c])
  have hd := g.dig _ (List.getLast_mem hl)
  have e : l.getD m 0 = l.getLast hl := by
    rw [List.getLast_eq_getElem]
    simp [show m = l.length - 1 by omega, show l.length - 1 < l.length by omega]
  unfold limbN; rw [e]; omega
theorem sumB_mul {B d : Nat} {g : Nat → Nat} : ∀ n, sumB B (fun i => g i * d) n = sumB B g n * d
  | 0 => by simp [sumB]
  | n + 1 => by rw [sumB, sumB, sumB_mul n, Nat.add_mul, Nat.mul_assoc]
theorem digB_step {B v : Nat} (hB : 2 ≤ B) (hv : 0 < v) : digB B v = ((v % B : Nat) : Int) :: digB B (v / B) := by
  have hm := Nat.mod_lt v (show 0 < B by omega)
  refine GoodB.inj (digB_good B hB v) ⟨DigB.cons (by omega) (by omega) (digB_good B hB _).dig, fun c => ?_⟩ ?_
  · cases hr : digB B (v / B) with
    | nil =>
      rw [hr] at c
      have h1 : ((v % B : Nat) : Int) = 0 := by simpa using c
      have h2 : v / B = 0 := by have := digB_val B hB (v / B); rw [hr] at this; exact this.symm
      have := Nat.mod_add_div v B
      rw [h2] at this; omega
    | cons e s =>
      rw [hr, List.getLast?_cons_cons, ← hr] at c
      exact (digB_good B hB _).can c
  · rw [digB_val B hB, valB_cons, digB_val B hB, Int.toNat_natCast, Nat.mod_add_div]
theorem digB_nil (v : Nat) : digB 10000 v = [] ↔ v = 0 :=
  ⟨fun h => by have := digB_val 10000 (by decide) v; rw [h] at this; exact this.symm, fun h => by rw [h]; exact digB_zero _ (by decide)⟩
theorem T_good (v : Nat) : GoodB 10000 (digB 10000 v) := digB_good _ (by decide) v
theorem T_val (v : Nat) : valB 10000 (digB 10000 v) = v := digB_val _ (by decide) v
theorem limb_lt {l : List Int} (h : DigB 10000 l) (i : Nat) : limbN l i < 10000 := limbN_lt (by decide) h i
theorem T_len {x n : Nat} (h : x < 4294967296 ^ n) : (digB 10000 x).length ≤ 3 * n := by
  refine digB_len (by decide) (Nat.lt_of_lt_of_le h ?_)
  rw [Nat.pow_mul]
  exact Nat.pow_le_pow_left (by decide) n
theorem T_len_le {x y : Nat} (h : x ≤ y) : (digB 10000 x).length ≤ (digB 10000 y).length := by
  refine digB_len (by decide) (Nat.lt_of_le_of_lt h ?_)
  have := valB_lt 10000 _ (T_good y).dig
  rwa [T_val] at this
def addF (a b : List Int) (i : Nat) : Nat := limbN a i + limbN b i
theorem addF_small {a b : List Int} (da : DigB 10000 a) (db : DigB 10000 b) (i : Nat) : addF a b i ≤ 2 * (10000 - 1) := by
  have := limb_lt da i; have := limb_lt db i; unfold addF; omega
theorem add_stop {a b : List Int} (ga : GoodB 10000 a) (gb : GoodB 10000 b) (i : Nat) (h1 : a.length ≤ i) (h2 : b.length ≤ i) (h3 : (putB 10000 (addF a b) i).2 = 0)
    (inv : i = 0 ∨ i - 1 < a.length ∨ i - 1 < b.length ∨ 0 < (putB 10000 (addF a b) (i - 1)).2) : (putB 10000 (addF a b) i).1 = digB 10000 (valB 10000 a + valB 10000 b) := by
  obtain ⟨e, d⟩ := putB_spec (B := 10000) (by decide) (f := addF a b) i
  rw [h3, Nat.mul_zero, Nat.add_zero] at e
  have es : sumB 10000 (addF a b) i = valB 10000 a + valB 10000 b := by
    show sumB 10000 (fun j => limbN a j + limbN b j) i = _
    rw [sumB_add, sumB_limb a i h1, sumB_limb b i h2]
  rw [← es, ← e]
  refine GoodB.eq (by decide) ⟨d, ?_⟩
  cases i with
  | zero => simp [putB]
  | succ m =>
    rw [Nat.add_sub_cancel] at inv
    have c2 : (putB 10000 (addF a b) (m + 1)).2 = (addF a b m + (putB 10000 (addF a b) m).2) / 10000 := rfl
    have c1 : (putB 10000 (addF a b) (m + 1)).1 = (putB 10000 (addF a b) m).1 ++ [(((addF a b m + (putB 10000 (addF a b) m).2) % 10000 : Nat) : Int)] := rfl
    rw [c2] at h3
    have hp : 0 < addF a b m + (putB 10000 (addF a b) m).2 := by
      rcases inv with h | h | h | h
      · omega
      · have := top_pos ga (m := m) (by omega); unfold addF; omega
      · have := top_pos gb (m := m) (by omega); unfold addF; omega
      · omega
    rw [c1]
    intro c
    have : (((addF a b m + (putB 10000 (addF a b) m).2) % 10000 : Nat) : Int) = 0 := by simpa using c
    omega
theorem add_loop {a b : List Int} (ga : GoodB 10000 a) (gb : GoodB 10000 b) (la : a.length ≤ 1000000) (lb : b.length ≤ 1000000) : ∀ (m i : Nat), i + m = max a.length b.length + 1 →
    (i = 0 ∨ i - 1 < a.length ∨ i - 1 < b.length ∨ 0 < (putB 10000 (addF a b) (i - 1)).2) →
    Ev (fun k => r1Add.l0 k a b (putB 10000 (addF a b) i).1 (((putB 10000 (addF a b) i).2 : Nat) : Int) (i : Int)) (digB 10000 (valB 10000 a + valB 10000 b)) := by
  have stop : ∀ i : Nat, i ≤ 1000001 → ¬ (i < a.length ∨ i < b.length ∨ 0 < (putB 10000 (addF a b) i).2) → (i = 0 ∨ i - 1 < a.length ∨ i - 1 < b.length ∨ 0 < (putB 10000 (addF a b) (i - 1)).2) →
      Ev (fun k => r1Add.l0 k a b (putB 10000 (addF a b) i).1 (((putB 10000 (addF a b) i).2 : Nat) : Int) (i : Int)) (digB 10000 (valB 10000 a + valB 10000 b)) := by
    intro i hi hc inv
    have h3 : (putB 10000 (addF a b) i).2 = 0 := by omega
    have e := add_stop ga gb i (by omega) (by omega) h3 inv
    refine Ev.step (fun k => ?_) (Ev.step (g := fun k => r1Add.j1 k a b (putB 10000 (addF a b) i).1 (((putB 10000 (addF a b) i).2 : Nat) : Int) (i : Int) false) (f := fun _ => some (putB 10000 (addF a b) i).1) (fun k => ?_) (e ▸ Ev.now _))
    · simp only [r1Add.l0]
      rw [if_neg (by omega), if_neg (by omega), decide_eq_false (by omega)]
    · simp only [r1Add.j1]
      rw [if_neg (by decide)]
  intro m
  induction m with
  | zero =>
    intro i hi inv
    have hb := putB_carry (B := 10000) (by decide) (K := 2) (addF_small ga.dig gb.dig) (i - 1)
    have hi1 : i = (i - 1) + 1 := by omega
    have h0 : (putB 10000 (addF a b) i).2 = 0 := by
      rw [hi1]
      show (addF a b (i - 1) + (putB 10000 (addF a b) (i - 1)).2) / 10000 = 0
      have : addF a b (i - 1) = 0 := by unfold addF; rw [limbN_out (by omega), limbN_out (by omega)]
      omega
    exact stop i (by omega) (by omega) inv
  | succ m ih =>
    intro i hi inv
    by_cases hc : i < a.length ∨ i < b.length ∨ 0 < (putB 10000 (addF a b) i).2
    · have hn := ih (i + 1) (by omega) (by rw [Nat.add_sub_cancel]; omega)
      have hcar := putB_carry (B := 10000) (by decide) (K := 2) (addF_small ga.dig gb.dig) i
      have h1 := limb_lt ga.dig i
      have h2 := limb_lt gb.dig i
      refine Ev.step (fun k => ?_) (Ev.step (g := fun k => r1Add.j1 k a b (putB 10000 (addF a b) i).1 (((putB 10000 (addF a b) i).2 : Nat) : Int) (i : Int) true) (fun k => ?_) hn)
      · simp only [r1Add.l0]
        by_cases c1 : i < a.length
        · rw [if_pos (by omega)]
        · rw [if_neg (by omega)]
          by_cases c2 : i < b.length
          · rw [if_pos (by omega)]
          · rw [if_neg (by omega), decide_eq_true (by omega)]
      · simp only [r1Add.j1]
        rw [if_pos trivial, digit_f ga.dig, digit_f gb.dig, Option.bind_some, Option.bind_some, if_pos (by rw [putB_len]; omega)]
        have ea : addF a b i = limbN a i + limbN b i := rfl
        have e1 : wrap64 (wrap64 (((limbN a i : Nat) : Int) + ((limbN b i : Nat) : Int)) + (((putB 10000 (addF a b) i).2 : Nat) : Int)) = ((addF a b i + (putB 10000 (addF a b) i).2 : Nat) : Int) := by
          rw [← Int.natCast_add, w64n (by omega), ← Int.natCast_add, w64n (by omega)]; rfl
        rw [e1, show (10000 : Int) = ((10000 : Nat) : Int) from rfl, tdiv_nat, tmod_nat, w64n (by omega), w64 (by omega) (by omega)]
        rfl
    · exact stop i (by omega) hc inv
theorem add_ev {x y : Nat} (hx : (digB 10000 x).length ≤ 1000000) (hy : (digB 10000 y).length ≤ 1000000) : Ev (fun k => r1Add.f k (digB 10000 x) (digB 10000 y)) (digB 10000 (x + y)) := by
  have h := add_loop (T_good x) (T_good y) hx hy (max (digB 10000 x).length (digB 10000 y).length + 1) 0 (by omega) (Or.inl rfl)
  rw [T_val, T_val] at h
  exact h
theorem take_snoc {l : List Int} {i : Nat} (h : i < l.length) : l.take (i + 1) = l.take i ++ [rd l (i : Int)] := by
  rw [List.take_succ_eq_append_getElem h]; simp [rd, h]
theorem trim_loop (l : List Int) (hl : l.length ≤ 4611686018427387904) : ∀ i : Nat, i ≤ l.length → Ev (fun k => r1t.l0 k l (i : Int)) (trimL (l.take i))
  | 0, _ => by
    refine Ev.step (f := fun _ => some []) (fun k => ?_) (Ev.now _)
    simp only [r1t.l0]
    rw [if_neg (by omega), if_pos (by omega), if_pos (by omega)]; rfl
  | i + 1, hi => by
    have hw : wrap64 (((i + 1 : Nat) : Int) - 1) = (i : Int) := by rw [w64 (by omega) (by omega)]; omega
    rw [take_snoc (by omega)]
    by_cases h0 : rd l (i : Int) = 0
    · rw [h0, trimL_snoc_zero]
      refine Ev.step (fun k => ?_) (trim_loop l hl i (by omega))
      simp only [r1t.l0]
      rw [hw, if_pos (by omega), if_pos (by omega), if_pos (by omega), if_pos h0]
    · rw [trimL_snoc _ _ h0]
      refine Ev.step (f := fun _ => some (l.take (i + 1))) (fun k => ?_) (by rw [take_snoc (by omega)]; exact Ev.now _)
      simp only [r1t.l0]
      rw [hw, if_pos (by omega), if_pos (by omega), if_pos (by omega), if_neg h0, if_pos (by omega), if_pos (by omega)]; rfl
theorem trim_ev {l : List Int} (hd : DigB 10000 l) (hl : l.length ≤ 4611686018427387904) : Ev (fun k => r1t.f k l) (digB 10000 (valB 10000 l)) := by
  have h := trim_loop l hl l.length (by omega)
  rw [List.take_length, trimL_eq (by decide) hd] at h
  exact h
def timesF (a : List Int) (d : Nat) (i : Nat) : Nat := limbN a i * d
theorem times_carry {a : List Int} (da : DigB 10000 a) (d i : Nat) : (putB 10000 (timesF a d) i).2 ≤ d := by
  refine putB_carry (by decide) (fun j => ?_) i
  have := limb_lt da j
  unfold timesF
  rw [Nat.mul_comm]
  exact Nat.mul_le_mul_left _ (by omega)
theorem times_out {a : List Int} (da : DigB 10000 a) (d : Nat) : ∀ t, (putB 10000 (timesF a d) (a.length + t)).2 ≤ d / 10000 ^ t
  | 0 => by simpa using times_carry da d a.length
  | t + 1 => by
    have ih := times_out da d t
    show (timesF a d (a.length + t) + (putB 10000 (timesF a d) (a.length + t)).2) / 10000 ≤ _
    rw [show timesF a d (a.length + t) = 0 by unfold timesF; rw [limbN_out (by omega), Nat.zero_mul], Nat.zero_add, Nat.pow_succ, ← Nat.div_div_eq_div_mul]
    exact Nat.div_le_div_right ih
theorem times_loop {a : List Int} (da : DigB 10000 a) (la : a.length ≤ 1000000) {d : Nat} (hd : d ≤ 4294967296) : ∀ (m i : Nat), i + m = a.length + 3 →
    Ev (fun k => r1Times.l0 k a (d : Int) (putB 10000 (timesF a d) i).1 (((putB 10000 (timesF a d) i).2 : Nat) : Int) (i : Int)) (digB 10000 (valB 10000 a * d)) := by
  have stop : ∀ i : Nat, i ≤ 1000003 → a.length ≤ i → (putB 10000 (timesF a d) i).2 = 0 →
      Ev (fun k => r1Times.l0 k a (d : Int) (putB 10000 (timesF a d) i).1 (((putB 10000 (timesF a d) i).2 : Nat) : Int) (i : Int)) (digB 10000 (valB 10000 a * d)) := by
    intro i hi hl h3
    obtain ⟨e, g⟩ := putB_spec (B := 10000) (by decide) (f := timesF a d) i
    rw [h3, Nat.mul_zero, Nat.add_zero] at e
    have es : sumB 10000 (timesF a d) i = valB 10000 a * d := by
      show sumB 10000 (fun j => limbN a j * d) i = _
      rw [sumB_mul, sumB_limb a i hl]
    have ht := trim_ev g (by rw [putB_len]; omega)
    rw [e, es] at ht
    refine Ev.step (fun k => ?_) (Ev.bind ht (f := fun _ t => some t) (Ev.now _))
    simp only [r1Times.l0]
    rw [if_neg (by omega), if_neg (by omega)]
  intro m
  induction m with
  | zero =>
    intro i hi
    have := times_out da d 3
    rw [show a.length + 3 = i by omega] at this
    exact stop i (by omega) (by omega) (by omega)
  | succ m ih =>
    intro i hi
    have hn := ih (i + 1) (by omega)
    have hcar := times_carry da d i
    have h1 := limb_lt da i
    have hp : timesF a d i ≤ 9999 * 4294967296 := by unfold timesF; exact Nat.mul_le_mul (by omega) hd
    have e1 : wrap64 (wrap64 (((limbN a i : Nat) : Int) * (d : Int)) + (((putB 10000 (timesF a d) i).2 : Nat) : Int)) = ((timesF a d i + (putB 10000 (timesF a d) i).2 : Nat) : Int) := by
      rw [← Int.natCast_mul]
      show wrap64 (wrap64 ((timesF a d i : Nat) : Int) + _) = _
      rw [w64n (by omega), ← Int.natCast_add, w64n (by omega)]
    have e2 : ∀ k, (if (putB 10000 (timesF a d) i).1.length < 17592186044416 then r1Times.l0 k a (d : Int) ((putB 10000 (timesF a d) i).1 ++ [Int.tmod (wrap64 (wrap64 (((limbN a i : Nat) : Int) * (d : Int)) + (((putB 10000 (timesF a d) i).2 : Nat) : Int))) 10000]) (wrap64 (Int.tdiv (wrap64 (wrap64 (((limbN a i : Nat) : Int) * (d : Int)) + (((putB 10000 (timesF a d) i).2 : Nat) : Int))) 10000)) (wrap64 ((i : Int) + 1)) else none) =
        r1Times.l0 k a (d : Int) (putB 10000 (timesF a d) (i + 1)).1 (((putB 10000 (timesF a d) (i + 1)).2 : Nat) : Int) ((i + 1 : Nat) : Int) := by
      intro k
      rw [if_pos (by rw [putB_len]; omega), e1, show (10000 : Int) = ((10000 : Nat) : Int) from rfl, tdiv_nat, tmod_nat, w64n (by omega), w64 (by omega) (by omega)]
      rfl
    by_cases c1 : i < a.length
    · refine Ev.step (fun k => ?_) hn
      simp only [r1Times.l0]
      rw [if_pos (by omega), digit_f da, Option.bind_some, e2]
    · by_cases c2 : 0 < (putB 10000 (timesF a d) i).2
      · refine Ev.step (fun k => ?_) hn
        simp only [r1Times.l0]
        rw [if_neg (by omega), if_pos (by omega), digit_f da, Option.bind_some, e2]
      · exact stop i (by omega) (by omega) (by omega)
theorem times_ev {x d : Nat} (hx : (digB 10000 x).length ≤ 1000000) (hd : d ≤ 4294967296) : Ev (fun k => r1Times.f k (digB 10000 x) (d : Int)) (digB 10000 (x * d)) := by
  have h := times_loop (T_good x).dig hx hd ((digB 10000 x).length + 3) 0 (by omega)
  rw [T_val] at h
  exact h
theorem times_lit {x : Nat} (hx : (digB 10000 x).length ≤ 1000000) : Ev (fun k => r1Times.f k (digB 10000 x) 65536) (digB 10000 (x * 65536)) := by
  have h := times_ev (d := 65536) hx (by decide)
  rw [show ((65536 : Nat) : Int) = 65536 from rfl] at h
  exact h
theorem times_ten {x : Nat} (hx : (digB 10000 x).length ≤ 1000000) : Ev (fun k => r1Times.f k (digB 10000 x) 10) (digB 10000 (x * 10)) := by
  have h := times_ev (d := 10) hx (by decide)
  rw [show ((10 : Nat) : Int) = 10 from rfl] at h
  exact h
theorem small_loop : ∀ (m v : Nat) (acc : List Int), v < 10000 ^ m → v ≤ 9223372036854775807 → acc.length + m ≤ 1000000 → Ev (fun k => r1Sm.l0 k (v : Int) acc) (acc ++ digB 10000 v)
  | 0, v, acc, h, _, _ => by
    obtain rfl : v = 0 := by simpa using h
    rw [digB_zero _ (by decide), List.append_nil]
    refine Ev.step (f := fun _ => some acc) (fun k => ?_) (Ev.now _)
    simp only [r1Sm.l0]; rw [if_neg (by omega)]
  | m + 1, v, acc, h, h63, hl => by
    by_cases h0 : v = 0
    · subst h0
      rw [digB_zero _ (by decide), List.append_nil]
      refine Ev.step (f := fun _ => some acc) (fun k => ?_) (Ev.now _)
      simp only [r1Sm.l0]; rw [if_neg (by omega)]
    · have ih := small_loop m (v / 10000) (acc ++ [((v % 10000 : Nat) : Int)]) (Nat.div_lt_of_lt_mul (by rw [Nat.pow_succ, Nat.mul_comm] at h; exact h)) (by omega) (by simp; omega)
      rw [List.append_assoc, List.singleton_append, ← digB_step (by decide) (by omega)] at ih
      refine Ev.step (fun k => ?_) ih
      simp only [r1Sm.l0]
      rw [if_pos (by omega), if_pos (by omega), show (10000 : Int) = ((10000 : Nat) : Int) from rfl, tdiv_nat, tmod_nat, w64n (by omega)]
theorem small_ev {v : Nat} (h : v < 1000000000000) : Ev (fun k => r1Sm.f k (v : Int)) (digB 10000 v) := by
  have := small_loop 3 v [] (by omega) (by omega) (by simp)
  exact this
theorem valB_drop {B : Nat} {l : List Int} {j : Nat} (h : j < l.length) : valB B (l.drop j) = limbN l j + B * valB B (l.drop (j + 1)) := by
  rw [List.drop_eq_getElem_cons h, valB_cons]
  simp [limbN, h]
theorem of_loop {l : List Int} (hd : DigB 4294967296 l) (hl : l.length ≤ 100000) : ∀ i : Nat, i ≤ l.length → Ev (fun k => r1Of.l0 k l (digB 10000 (valB 4294967296 (l.drop i))) ((i : Int) - 1)) (digB 10000 (valB 4294967296 l))
  | 0, _ => by
    refine Ev.step (f := fun _ => some (digB 10000 (valB 4294967296 l))) (fun k => ?_) (Ev.now _)
    simp only [r1Of.l0]; rw [if_neg (by omega)]; rfl
  | j + 1, hj => by
    have ih := of_loop hd hl j (by omega)
    rw [valB_drop (B := 4294967296) (j := j) (by omega)] at ih
    have hX := valB_lt 4294967296 _ (hd.drop (j + 1))
    rw [List.length_drop] at hX
    generalize valB 4294967296 (l.drop (j + 1)) = X at hX ih ⊢
    have l1 := T_len hX
    have hX1 : X * 65536 < 4294967296 ^ (l.length - (j + 1) + 1) := by
      rw [Nat.pow_succ]
      exact Nat.lt_of_lt_of_le (Nat.mul_lt_mul_of_pos_right hX (by decide)) (Nat.mul_le_mul_left _ (by decide))
    have l2 := T_len hX1
    have hX2 : X * 65536 * 65536 < 4294967296 ^ (l.length - (j + 1) + 1) := by
      rw [Nat.pow_succ, Nat.mul_assoc]
      exact Nat.mul_lt_mul_of_pos_right hX (by decide)
    have l3 := T_len hX2
    have hw := limbN_lt (by decide) hd j
    have l4 := T_len (x := limbN l j) (n := 1) (by rw [Nat.pow_one]; exact hw)
    have e3 : X * 65536 * 65536 + limbN l j = limbN l j + 4294967296 * X := by omega
    obtain ⟨X1, x1⟩ : ∃ X1, X * 65536 = X1 := ⟨_, rfl⟩
    rw [x1] at e3 l2 l3
    obtain ⟨X2, x2⟩ : ∃ X2, X1 * 65536 = X2 := ⟨_, rfl⟩
    rw [x2] at e3 l3
    have t1 := times_lit (x := X) (by omega)
    rw [x1] at t1
    have t2 := times_lit (x := X1) (by omega)
    rw [x2] at t2
    rw [← e3] at ih
    have s3 := Ev.bind (f := fun k t => r1Of.l0 k l t ((j : Int) - 1)) (add_ev (x := X2) (y := limbN l j) (by omega) (by omega)) ih
    have s2 := Ev.bind (f := fun k t => (r1Add.f k (digB 10000 X2) t).bind fun u => r1Of.l0 k l u ((j : Int) - 1)) (small_ev (v := limbN l j) (by omega)) s3
    have s1 := Ev.bind (f := fun k t => (r1Sm.f k ((limbN l j : Nat) : Int)).bind fun v => (r1Add.f k t v).bind fun u => r1Of.l0 k l u ((j : Int) - 1)) t2 s2
    have s0 := Ev.bind (f := fun k s => (r1Times.f k s 65536).bind fun t => (r1Sm.f k ((limbN l j : Nat) : Int)).bind fun v => (r1Add.f k t v).bind fun u => r1Of.l0 k l u ((j : Int) - 1)) t1 s1
    have p0 : (0 : Int) ≤ (j : Int) := by omega
    have p1 : (j : Int) < (l.length : Int) := by omega
    have p2 : wrap64 ((j : Int) - 1) = (j : Int) - 1 := w64 (by omega) (by omega)
    have p3 : wrap64 ((limbN l j : Nat) : Int) = ((limbN l j : Nat) : Int) := w64n (by omega)
    have p4 : ((j + 1 : Nat) : Int) - 1 = (j : Int) := by omega
    refine Ev.step (fun k => ?_) s0
    simp only [r1Of.l0, p4, ge_iff_le, if_pos p0, if_pos p1, rd_limb hd, p2, p3]
theorem of_ev {l : List Int} (hd : DigB 4294967296 l) (hl : l.length ≤ 100000) : Ev (fun k => r1Of.f k l) (digB 10000 (valB 4294967296 l)) := by
  have h := of_loop hd hl l.length (by omega)
  rw [List.drop_length, show valB 4294967296 [] = 0 from rfl, digB_zero _ (by decide)] at h
  refine Ev.congr (fun k => ?_) h
  unfold r1Of.f
  rw [w64 (by omega) (by omega)]
theorem cmp_loop {a b : List Int} (da : DigB 10000 a) (db : DigB 10000 b) (hl : a.length = b.length) (h9 : a.length ≤ 4611686018427387904) : ∀ i : Nat, i ≤ a.length → (∀ j, i ≤ j → j < a.length → limbN a j = limbN b j) →
    Ev (fun k => r1Cmp.l0 k a b ((i : Int) - 1)) (cmpN (valB 10000 a) (valB 10000 b))
  | 0, _, he => by
    have e : valB 10000 a = valB 10000 b := by
      rw [← sumB_limb a a.length (by omega), ← sumB_limb b a.length (by omega)]
      exact sumB_congr (fun j hj => he j (by omega) hj)
    refine Ev.step (f := fun _ => some (cmpN (valB 10000 a) (valB 10000 b))) (fun k => ?_) (Ev.now _)
    simp only [r1Cmp.l0]
    rw [if_neg (by omega), e]; unfold cmpN; simp
  | j + 1, hj, he => by
    have hlt : ∀ {x y : List Int}, DigB 10000 x → DigB 10000 y → x.length = a.length → y.length = a.length → (∀ t, j + 1 ≤ t → t < a.length → limbN x t = limbN y t) → limbN x j < limbN y j → valB 10000 x < valB 10000 y := by
      intro x y dx dy lx ly hxy hc
      rw [← sumB_limb x a.length (by omega), ← sumB_limb y a.length (by omega)]
      exact sum_lt (by decide) (limb_lt dx) a.length j (by omega) (fun t ht h2 => hxy t (by omega) h2) hc
    have pre : ∀ k, r1Cmp.l0 (k + 1) a b (((j + 1 : Nat) : Int) - 1) = if ((limbN a j : Nat) : Int) < ((limbN b j : Nat) : Int) then some (-1) else if ((limbN a j : Nat) : Int) > ((limbN b j : Nat) : Int) then some 1 else r1Cmp.l0 k a b ((j : Int) - 1) := by
      intro k
      simp only [r1Cmp.l0]
      rw [show ((j + 1 : Nat) : Int) - 1 = (j : Int) by omega, if_pos (by omega), if_pos (by omega), if_pos (by omega), if_pos (by omega), rd_limb da, rd_limb db, w64 (by omega) (by omega)]
    rcases Nat.lt_trichotomy (limbN a j) (limbN b j) with c | c | c
    · have := hlt da db rfl hl.symm he c
      refine Ev.step (f := fun _ => some (-1)) (fun k => by rw [pre, if_pos (by omega)]) ?_
      unfold cmpN; rw [if_pos this]; exact Ev.now _
    · refine Ev.step (fun k => by rw [pre, if_neg (by omega), if_neg (by omega)]) (cmp_loop da db hl h9 j (by omega) (fun t h1 h2 => ?_))
      rcases Nat.eq_or_lt_of_le h1 with h | h
      · rw [← h]; exact c
      · exact he t h h2
    · have := hlt db da hl.symm rfl (fun t h1 h2 => (he t h1 h2).symm) c
      refine Ev.step (f := fun _ => some 1) (fun k => by rw [pre, if_neg (by omega), if_pos (by omega)]) ?_
      unfold cmpN; rw [if_neg (by omega), if_pos this]; exact Ev.now _
theorem good_lt {a b : List Int} (ga : GoodB 10000 a) (gb : GoodB 10000 b) (h : a.length < b.length) : valB 10000 a < valB 10000 b := by
  have h1 := valB_lt 10000 a ga.dig
  have h2 := gb.len_lt (fun e => by rw [e] at h; simp at h)
  exact Nat.lt_of_lt_of_le h1 (Nat.le_trans (Nat.pow_le_pow_right (by decide) (by omega)) h2)
theorem cmp_good {a b : List Int} (ga : GoodB 10000 a) (gb : GoodB 10000 b) (h9 : a.length ≤ 4611686018427387904) : Ev (fun k => r1Cmp.f k a b) (cmpN (valB 10000 a) (valB 10000 b)) := by
  rcases Nat.lt_trichotomy a.length b.length with c | c | c
  · have := good_lt ga gb c
    refine Ev.congr (f := fun _ => some (-1)) (fun k => ?_) (by unfold cmpN; rw [if_pos this]; exact Ev.now _)
    unfold r1Cmp.f; rw [if_neg (by omega), if_pos (by omega)]
  · refine Ev.congr (fun k => ?_) (cmp_loop ga.dig gb.dig c h9 a.length (by omega) (fun j h1 h2 => by omega))
    unfold r1Cmp.f; rw [if_pos (by omega), w64 (by omega) (by omega)]
  · have := good_lt gb ga c
    refine Ev.congr (f := fun _ => some 1) (fun k => ?_) (by unfold cmpN; rw [if_neg (by omega), if_pos this]; exact Ev.now _)
    unfold r1Cmp.f; rw [if_neg (by omega), if_neg (by omega)]
theorem cmp_ev (x y : Nat) (h9 : (digB 10000 x).length ≤ 4611686018427387904) : Ev (fun k => r1Cmp.f k (digB 10000 x) (digB 10000 y)) (cmpN x y) := by
  have := cmp_good (T_good x) (T_good y) h9
  rwa [T_val, T_val] at this
theorem canon_f {l : List Int} (h : GoodB 4294967296 l) (h9 : l.length ≤ 4611686018427387904) : fluxionref01_Canonical.f l = some true := by
  unfold fluxionref01_Canonical.f
  by_cases c : l.length = 0
  · rw [if_pos (by omega)]
  · rw [if_neg (by omega), w64 (by omega) (by omega), if_pos (by omega), if_pos (by omega)]
    have e : ((l.length : Int) - 1) = ((l.length - 1 : Nat) : Int) := by omega
    have hp := top_pos h (m := l.length - 1) (by omega)
    rw [e, rd_limb h.dig]
    congr 1
    rw [bne_iff_ne]; omega
theorem is_ev {x y n : Nat} (hy : y < 4294967296 ^ n) (hn : n ≤ 50000) : Ev (fun k => r1Is.f k (digB 10000 x) (digB 4294967296 y)) (decide (x = y)) := by
  have g := digB_good 4294967296 (by decide) y
  have hl : (digB 4294967296 y).length ≤ n := digB_len (by decide) hy
  have ho := of_ev g.dig (by omega)
  rw [digB_val _ (by decide)] at ho
  have l1 := T_len hy
  refine Ev.congr (fun k => ?_) (Ev.bind ho (f := fun k t => (r1Cmp.f k t (digB 10000 x)).bind fun u => some (u == 0)) (Ev.bind (cmp_ev y x (by omega)) ?_))
  · unfold r1Is.f
    rw [canon_f g (by omega), Option.bind_some, if_pos rfl]
  · have : (cmpN y x == 0) = decide (x = y) := by
      unfold cmpN
      rcases Nat.lt_trichotomy x y with c | c | c
      · rw [if_neg (by omega), if_pos c, decide_eq_false (by omega)]; rfl
      · subst c; simp
      · rw [if_pos c, decide_eq_false (by omega)]; rfl
    rw [this]; exact Ev.now _
end Go.Proofs.YthppjdmkinbccaaGreatDoor.Ref
