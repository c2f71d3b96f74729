/- Written by wip/tools/claimtexts.py: these texts, one behind another, without what this claim does not use: E1, HNatural, HRead, HStr. -/
import Derived.Test.YthppjdmkinbccaaGreatDoorMgUnlike2
import Derived.Test.YthppjdmkinbccaaGreatDoorMgUnlike4
import Derived.Test.YthppjdmkinbccaaGreatDoorMgUnlike3
import Derived.Ground.NamesProg
import Derived.Ground.GgwProg
import Derived.Shelf.Lay
import Derived.Laws.RangeString
import Derived.Laws.RangeAny
import Derived.Shelf.GgClosure.StringsIndexFuncTop
import Derived.Ground.MpProg
import Derived.Lib.AtoiErrMem
import Derived.Shelf.Pu.ParseUintPublic10
import Derived.Shelf.Strings.Search3
import Derived.Shelf.Small.Wraps
import Derived.Laws.Strings3
namespace Go.Proofs.YthppjdmkinbccaaGreatDoor.Print
open Go.RowKit Go.Proofs.YthppjdmkinbccaaGreatDoorW.PrintWords Go.Proofs.YthppjdmkinbccaaGreatDoorW.PrintLast Go.Proofs.YthppjdmkinbccaaGreatDoorW.PrintMore
attribute [local go_sem] max2_int min2_int max_two min_two max_three min_three max_four min_four   -- for this text's walks alone
set_option linter.unusedVariables false
set_option linter.unusedSimpArgs false
def digits_Rat.j0 : Nat → ByteArray → Bool → List Int → List Int → Option (ByteArray)
 | 0, _, _, _, _ => none
 | k + 1, x3, x102000, x102001, x102002 => (nat_Of.f 1).bind fun t110 => ((nat_Cmp.f x102002 t110).bind fun t113 => (if t113 = 0 then (some x3) else ((digits_Nat.f x102002).bind fun t114 => (if 1 + t114.size ≤ 9223372036854775807 then (if x3.size + ((⟨#[47]⟩ : ByteArray) ++ t114).size ≤ 9223372036854775807 then (some (x3 ++ ((⟨#[47]⟩ : ByteArray) ++ t114))) else (none)) else (none)))))
def digits_Rat.f (k : Nat) (a0_0 : Bool) (l0_1 : List Int) (l0_2 : List Int) : Option (ByteArray) := (rat_Norm.f a0_0 l0_1 l0_2).bind fun bt102 => ((digits_Nat.f bt102.2.1).bind fun t109 => (if bt102.1 = true then (if 1 + t109.size ≤ 9223372036854775807 then (digits_Rat.j0 k ((⟨#[45]⟩ : ByteArray) ++ t109) bt102.1 bt102.2.1 bt102.2.2) else (none)) else (digits_Rat.j0 k t109 bt102.1 bt102.2.1 bt102.2.2)))
theorem digits_Rat.mono_l : ∀ k, (∀ y0 y1 y2 y3, LeO (digits_Rat.j0 k y0 y1 y2 y3) (digits_Rat.j0 (k + 1) y0 y1 y2 y3))
 | 0 => fun _ _ _ _ r h => by simp [digits_Rat.j0] at h
 | k + 1 => by
  have ih0 := digits_Rat.mono_l k
  ·intro y0 y1 y2 y3
   unfold digits_Rat.j0
   repeat' first
   | (with_reducible exact ih0 _ _ _ _)
   | (with_reducible exact LeO.refl _)
   | (with_reducible exact LeO.none _)
   | (with_reducible refine LeO.ite ?_ ?_)
   | (with_reducible refine LeO.bind ?_ (fun _ => ?_))
   | exact ih0 _ _ _ _
   | exact LeO.none _
   | refine LeO.ite ?_ ?_
   | refine LeO.bind ?_ (fun _ => ?_)
theorem digits_Rat.mono : ∀ a0 a1 a2 k, LeO (digits_Rat.f k a0 a1 a2) (digits_Rat.f (k + 1) a0 a1 a2) := by
 intro a0 a1 a2 k
 have ih0 := digits_Rat.mono_l k
 unfold digits_Rat.f
 repeat' first
   | (with_reducible exact ih0 _ _ _ _)
   | (with_reducible exact LeO.refl _)
   | (with_reducible exact LeO.none _)
   | (with_reducible refine LeO.ite ?_ ?_)
   | (with_reducible refine LeO.bind ?_ (fun _ => ?_))
   | exact ih0 _ _ _ _
   | exact LeO.none _
   | refine LeO.ite ?_ ?_
   | refine LeO.bind ?_ (fun _ => ?_)
set_option maxHeartbeats 8000000 in
set_option maxRecDepth 100000 in
theorem digits_Rat.calls (k : Nat) (a0_0 : Bool) (A0_1 : Option Addr) (c0_1 : Nat) (l0_1 : List Int) (A0_2 : Option Addr) (c0_2 : Nat) (l0_2 : List Int) (r : ByteArray) (w : World) (ht : PowTab w) (hr0_1 : Kd.C (Kd.int .u32) w A0_1 l0_1.length l0_1) (hc0_1 : l0_1.length ≤ c0_1) (hr0_2 : Kd.C (Kd.int .u32) w A0_2 l0_2.length l0_2) (hc0_2 : l0_2.length ≤ c0_2) (h : digits_Rat.f k a0_0 l0_1 l0_2 = some r) :
  Calls Tryz.prog 16 #[.agg #[.bool a0_0, .slice A0_1 l0_1.length c0_1, .slice A0_2 l0_2.length c0_2]] w fun e w' => e = .returned (.string r) ∧ Below w.heap.size w w' := by
 have HT := Aside0.mk ht
 clear ht
 have hu35 := Tryz.underlying35
 have HR0_1 := Aside0.mk hr0_1
 have HC0_1 := Aside0.mk hc0_1
 clear hr0_1 hc0_1
 have HR0_2 := Aside0.mk hr0_2
 have HC0_2 := Aside0.mk hc0_2
 clear hr0_2 hc0_2
 have HB := Aside0.mk (Below.refl w.heap.size w)
 have H : ((rat_Norm.f a0_0 l0_1 l0_2).bind fun bt102 => ((digits_Nat.f bt102.2.1).bind fun t109 => (if bt102.1 = true then (if 1 + t109.size ≤ 9223372036854775807 then (digits_Rat.j0 k ((⟨#[45]⟩ : ByteArray) ++ t109) bt102.1 bt102.2.1 bt102.2.2) else (none)) else (digits_Rat.j0 k t109 bt102.1 bt102.2.1 bt102.2.2)))) = some r := h
 clear h
 replace H := Option.bind_eq_some_iff.mp H
 obtain ⟨⟨t102, t103, t106⟩, A20, H⟩ := H
 (try dsimp only at H)
 have A2 := Aside0.mk A20
 clear A20
 replace H := Option.bind_eq_some_iff.mp H
 obtain ⟨t109, A30, H⟩ := H
 (try dsimp only at H)
 have A3 := Aside0.mk A30
 clear A30
 have HC4 := Aside0.mk H
 clear H
 go_enter Tryz.func16, Tryz.ntmps16
 go_upto_if 10 with (first | ((with_reducible refine gD9 (N := 1) rfl ?_); refine bE9 ?hg (N := 1) ?hd (cs := #[.bool a0_0, .slice A0_1 l0_1.length c0_1, .slice A0_2 l0_2.length c0_2]) (t := 35) ?hr ?_; (case hd => rfl); (case hg => rfl); (case hr => first | (go_simp; done) | (go_simp; rfl)); intro gb101 hg w5 hbox hb; have n0_ := Aside0.mk (bT9 (by repeat (first | (with_reducible first | exact HB.out | apply bA9 | apply bN9 | apply bD9) | exact HB.out)) hb); have n1_ := Aside0.mk (hbox); have n2_ := Aside0.mk ((by rw [hg]; exact (bZ9 (by repeat (first | (with_reducible first | exact HB.out | apply bA9 | apply bN9 | apply bD9) | exact HB.out))) : w.heap.size ≤ gb101)); have n3_ := Aside0.mk ((by rw [hg]; exact (bZ9 (by repeat (first | (with_reducible first | exact HB.out | apply bA9 | apply bN9 | apply bD9) | exact HB.out))) : w.heap.size ≤ gb101)); clear HB; have HB := n0_; have BK101 := n1_; have GW101 := n2_; have GE101 := n3_; clear n0_ n1_ n2_ n3_; clear hb hbox hg; have hcz6_0 : w5.cell? ⟨gb101, 0, none⟩ = some (.bool a0_0) := (kC9 BK101.out 0).trans rfl; have hcz6_1 : w5.cell? ⟨gb101, 1, none⟩ = some (.slice A0_1 l0_1.length c0_1) := (kC9 BK101.out 1).trans rfl; have hcz6_2 : w5.cell? ⟨gb101, 2, none⟩ = some (.slice A0_2 l0_2.length c0_2) := (kC9 BK101.out 2).trans rfl; have hfz6_0 := kF9 BK101.out 0; have hfz6_1 := kF9 BK101.out 1; have hfz6_2 := kF9 BK101.out 2) | ((with_reducible refine gC9 (f := 39) rfl ?_); refine goesL_ (some 5) rfl rfl Tryz.func39 (by kernel_rfl) rfl #[.agg #[.bool a0_0, .slice A0_1 l0_1.length c0_1, .slice A0_2 l0_2.length c0_2]] rfl (by (try simp only [List.map_toArray, List.map_cons, List.map_nil]); first | done | rfl | (simp only [List.length_drop, List.length_take]; rfl)) ?_; (with_reducible refine (rat_Norm.calls a0_0 _ _ l0_1 _ _ l0_2 t102 t103 t106 _ ?side1 ?side2 ?side3 ?side4 A2.out).mono ?_); (case side1 => repeat (first | exact (Kd.cB9 HR0_1.out HB.out) | (with_reducible refine Kd.cA9 ?_ _) | (with_reducible refine Kd.cN9 ?_ _) | (with_reducible refine Kd.cD9 ?_))); (case side2 => exact HC0_1.out); (case side3 => repeat (first | exact (Kd.cB9 HR0_2.out HB.out) | (with_reducible refine Kd.cA9 ?_ _) | (with_reducible refine Kd.cN9 ?_ _) | (with_reducible refine Kd.cD9 ?_))); (case side4 => exact HC0_2.out); rintro e w7 ⟨v104, v107, rfl, ho0, ho1, hb⟩; refine ⟨_, rfl, ?_⟩; have n0_ := Aside0.mk (Kd.rL9 ho0 (bZ9 (by repeat (first | (with_reducible first | exact HB.out | apply bA9 | apply bN9 | apply bD9 | refine bS9 ?_ GE101.out) | exact HB.out)))); have n1_ := Aside0.mk (Kd.rL9 ho1 (bZ9 (by repeat (first | (with_reducible first | exact HB.out | apply bA9 | apply bN9 | apply bD9 | refine bS9 ?_ GE101.out) | exact HB.out)))); have n2_ := Aside0.mk (kB9 (g := gb101) (o := .cells #[.bool a0_0, .slice A0_1 l0_1.length c0_1, .slice A0_2 l0_2.length c0_2] 35 (0, 0)) (by (with_reducible repeat (first | refine kN9 ?_ _ | refine kD9 ?_ | refine kA9 ?_ _)); exact BK101.out) hb); have n3_ := Aside0.mk (bT9 (by repeat (first | (with_reducible first | exact HB.out | apply bA9 | apply bN9 | apply bD9 | refine bS9 ?_ GE101.out) | exact HB.out)) hb); clear BK101; clear HB; have HO105 := n0_; have HO108 := n1_; have BK101 := n2_; have HB := n3_; clear n0_ n1_ n2_ n3_; (try clear hb); (try clear hb2); (try clear hk); (try clear hi); (try clear ho0); (try clear ho1); have hcz8_0 : w7.cell? ⟨gb101, 0, none⟩ = some (.bool a0_0) := (kC9 BK101.out 0).trans rfl; have hcz8_1 : w7.cell? ⟨gb101, 1, none⟩ = some (.slice A0_1 l0_1.length c0_1) := (kC9 BK101.out 1).trans rfl; have hcz8_2 : w7.cell? ⟨gb101, 2, none⟩ = some (.slice A0_2 l0_2.length c0_2) := (kC9 BK101.out 2).trans rfl; have hfz8_0 := kF9 BK101.out 0; have hfz8_1 := kF9 BK101.out 1; have hfz8_2 := kF9 BK101.out 2; obtain ⟨Ao9, co9, eo9⟩ := Kd.rS9 HO105.out; subst eo9; obtain ⟨Ao10, co10, eo10⟩ := Kd.rS9 HO108.out; subst eo10) | ((with_reducible refine gC9 (f := 23) rfl ?_); refine goesL_ (some 8) rfl rfl Tryz.func23 (by kernel_rfl) rfl #[.slice Ao9 t103.length co9] rfl (by (try simp only [List.map_toArray, List.map_cons, List.map_nil]); first | done | rfl | (simp only [List.length_drop, List.length_take]; rfl)) ?_; (with_reducible refine (digits_Nat.calls _ _ t103 t109 _ (PowTab.below HT.out (by repeat (first | (with_reducible first | exact HB.out | apply bA9 | apply bN9 | apply bD9 | refine bS9 ?_ GE101.out) | exact HB.out))) ?side1 ?side2 A3.out).mono ?_); (case side1 => refine (Kd.rR9 (e := 56) (base := w.heap.size) (ok := fun k_ => some k_ ≠ (.slice Ao10 t106.length co10 : Value).ownBlock) (n := t103.length) (c := co9) ?_).2.2; exact (by (with_reducible repeat (first | apply Kd.rA9 | apply Kd.rN9 | apply Kd.rD9)); exact (Kd.R_mono (Kd.R_far (p := ⟨gb101, 2, none⟩) (Kd.R_far (p := ⟨gb101, 1, none⟩) (Kd.R_far (p := ⟨gb101, 0, none⟩) (Kd.rT9 HO105.out BK101.out (by decide)) (fun _ hk => hk.2) (.bool t102)) (fun _ hk => hk.2) (.slice Ao9 t103.length co9)) (fun _ hk => hk.2) (.slice Ao10 t106.length co10)) (fun _ h_ => h_.1)))); (case side2 => exact (Kd.rR9 HO105.out).2.1); rintro e w11 ⟨rfl, hb⟩; refine ⟨_, rfl, ?_⟩; have n0_ := Aside0.mk (Kd.rB9 (by (with_reducible repeat (first | apply Kd.rA9 | apply Kd.rN9 | apply Kd.rD9)); exact (Kd.R_mono (Kd.R_far (p := ⟨gb101, 2, none⟩) (Kd.R_far (p := ⟨gb101, 1, none⟩) (Kd.R_far (p := ⟨gb101, 0, none⟩) (Kd.rT9 HO105.out BK101.out (by decide)) (fun _ hk => hk.2) (.bool t102)) (fun _ hk => hk.2) (.slice Ao9 t103.length co9)) (fun _ hk => hk.2) (.slice Ao10 t106.length co10)) (fun _ h_ => h_.1))) hb); have n1_ := Aside0.mk (Kd.rB9 (by (with_reducible repeat (first | apply Kd.rA9 | apply Kd.rN9 | apply Kd.rD9)); exact (Kd.R_mono (Kd.R_far (p := ⟨gb101, 2, none⟩) (Kd.R_far (p := ⟨gb101, 1, none⟩) (Kd.R_far (p := ⟨gb101, 0, none⟩) (Kd.rT9 HO108.out BK101.out (by decide)) (fun _ hk => hk.2) (.bool t102)) (fun _ hk => hk.2) (.slice Ao9 t103.length co9)) (fun _ hk => hk.2) (.slice Ao10 t106.length co10)) (fun _ h_ => h_.1))) hb); have n2_ := Aside0.mk (kB9 (g := gb101) (o := .cells #[.bool t102, .slice Ao9 t103.length co9, .slice Ao10 t106.length co10] 35 (0, 0)) (by (with_reducible repeat (first | refine kN9 ?_ _ | refine kD9 ?_ | refine kA9 ?_ _)); refine kP9 (cs := #[.bool t102, .slice Ao9 t103.length co9, .slice A0_2 l0_2.length c0_2]) ?_ 2 _ rfl; (with_reducible repeat (first | refine kN9 ?_ _ | refine kD9 ?_ | refine kA9 ?_ _)); refine kP9 (cs := #[.bool t102, .slice A0_1 l0_1.length c0_1, .slice A0_2 l0_2.length c0_2]) ?_ 1 _ rfl; (with_reducible repeat (first | refine kN9 ?_ _ | refine kD9 ?_ | refine kA9 ?_ _)); refine kP9 (cs := #[.bool a0_0, .slice A0_1 l0_1.length c0_1, .slice A0_2 l0_2.length c0_2]) ?_ 0 _ rfl; (with_reducible repeat (first | refine kN9 ?_ _ | refine kD9 ?_ | refine kA9 ?_ _)); exact BK101.out) hb); have n3_ := Aside0.mk (bT9 (by repeat (first | (with_reducible first | exact HB.out | apply bA9 | apply bN9 | apply bD9 | refine bS9 ?_ GE101.out) | exact HB.out)) hb); clear HO105; clear HO108; clear BK101; clear HB; have HO105 := n0_; have HO108 := n1_; have BK101 := n2_; have HB := n3_; clear n0_ n1_ n2_ n3_; (try clear hb); (try clear hb2); (try clear hk); (try clear hi); have hcz12_0 : w11.cell? ⟨gb101, 0, none⟩ = some (.bool t102) := (kC9 BK101.out 0).trans rfl; have hcz12_1 : w11.cell? ⟨gb101, 1, none⟩ = some (.slice Ao9 t103.length co9) := (kC9 BK101.out 1).trans rfl; have hcz12_2 : w11.cell? ⟨gb101, 2, none⟩ = some (.slice Ao10 t106.length co10) := (kC9 BK101.out 2).trans rfl; have hfz12_0 := kF9 BK101.out 0; have hfz12_1 := kF9 BK101.out 1; have hfz12_2 := kF9 BK101.out 2))
 (try simp only [Act.put, List.setIfInBounds_toArray, List.set_cons_zero, List.set_cons_succ])
 go_cut [3] (fun v3 wc => ∃ (kq : Nat) (x3_3 : ByteArray), v3 = .string x3_3 ∧ Aside0 (digits_Rat.j0 kq x3_3 t102 t103 t106 = some r) ∧ Aside0 (kq ≤ k) ∧ Aside0 (Kd.R (Kd.int .u32) 56 wc w.heap.size (fun k_ => some k_ ≠ ((.slice Ao10 t106.length co10) : Value).ownBlock) (.slice Ao9 t103.length co9) t103) ∧ Aside0 (Kd.R (Kd.int .u32) 56 wc w.heap.size (fun k_ => some k_ ≠ ((.slice Ao9 t103.length co9) : Value).ownBlock) (.slice Ao10 t106.length co10) t106) ∧ Aside0 (wc.heap[gb101]? = some (.cells #[.bool t102, (.slice Ao9 t103.length co9), (.slice Ao10 t106.length co10)] 35 (0, 0))) ∧ Aside0 (Below w.heap.size w wc))
 case first =>
  have H := HC4.out
  clear HC4
  by_cases c13 : t102 = true
  ·subst c13
   have H1 : (if 1 + t109.size ≤ 9223372036854775807 then (digits_Rat.j0 k ((⟨#[45]⟩ : ByteArray) ++ t109) true t103 t106) else (none)) = some r := by rw [if_pos rfl] at H; exact H
   clear H
   have H := H1
   clear H1
   by_cases c14 : 1 + t109.size ≤ 9223372036854775807
   ·rw [if_pos c14] at H
    have c14b0 := eq_true c14
    try (have h_c14 := c14; rw [ByteArray.size_append] at h_c14; have c14b3 := eq_true h_c14; have c14b4 := eq_false (Nat.not_lt.2 h_c14); clear h_c14)
    have c14b1 : decide (1 + t109.size ≤ 9223372036854775807) = true := decide_eq_true c14
    try have c14b2 : (9223372036854775807 < 1 + t109.size) = False := eq_false (Nat.not_lt.2 c14)
    have H' := Aside0.mk H
    clear H
    go_wp2
    go_meet
    case rel => exact ⟨_, ((⟨#[45]⟩ : ByteArray) ++ t109), (by first | rfl | (simp; done) | (simp [*]; done)), H', ⟨by first | omega | exact Nat.le_refl _⟩, ⟨by (with_reducible repeat (first | apply Kd.rA9 | apply Kd.rN9 | apply Kd.rD9)); exact HO105.out⟩, ⟨by (with_reducible repeat (first | apply Kd.rA9 | apply Kd.rN9 | apply Kd.rD9)); exact HO108.out⟩, ⟨by (with_reducible repeat (first | refine kN9 ?_ _ | refine kD9 ?_ | refine kA9 ?_ _)); exact BK101.out⟩, ⟨by repeat (first | (with_reducible first | exact HB.out | apply bA9 | apply bN9 | apply bD9 | refine bS9 ?_ GE101.out) | exact HB.out)⟩⟩
   ·rw [if_neg c14] at H
    exact absurd H (by simp)
  ·replace c13 := Bool.eq_false_iff.mpr c13
   subst c13
   have H1 : (digits_Rat.j0 k t109 false t103 t106) = some r := by rw [if_neg (show ¬ (false = true) by decide)] at H; exact H
   clear H
   have H := H1
   clear H1
   have H' := Aside0.mk H
   clear H
   go_wp2
   go_meet
   case rel => exact ⟨_, (t109), (by first | rfl | (simp; done) | (simp [*]; done)), H', ⟨by first | omega | exact Nat.le_refl _⟩, ⟨by (with_reducible repeat (first | apply Kd.rA9 | apply Kd.rN9 | apply Kd.rD9)); exact HO105.out⟩, ⟨by (with_reducible repeat (first | apply Kd.rA9 | apply Kd.rN9 | apply Kd.rD9)); exact HO108.out⟩, ⟨by (with_reducible repeat (first | refine kN9 ?_ _ | refine kD9 ?_ | refine kA9 ?_ _)); exact BK101.out⟩, ⟨by repeat (first | (with_reducible first | exact HB.out | apply bA9 | apply bN9 | apply bD9 | refine bS9 ?_ GE101.out) | exact HB.out)⟩⟩
 case rest =>
  clear HC4
  try clear c1
  try clear c2
  try clear p2
  try clear c3
  try clear c13
  try clear c14
  try clear c14b0
  try clear c14b1
  try clear c14b2
  try clear hcz12_0
  try clear hcz12_1
  try clear hcz12_2
  try clear hcz6_0
  try clear hcz6_1
  try clear hcz6_2
  try clear hcz8_0
  try clear hcz8_1
  try clear hcz8_2
  try clear hfz12_0
  try clear hfz12_1
  try clear hfz12_2
  try clear hfz6_0
  try clear hfz6_1
  try clear hfz6_2
  try clear hfz8_0
  try clear hfz8_1
  try clear hfz8_2
  obtain ⟨kq, x3_3, rfl, HA, HJ3, HO_102001, HO_102002, BK101, HB⟩ := hcut
  cases kq with
  | zero => exact absurd HA.out (by simp [digits_Rat.j0])
  | succ kj3 =>
   have H := HA.out
   clear HA
   simp only [digits_Rat.j0] at H
   replace H := Option.bind_eq_some_iff.mp H
   obtain ⟨t110, A150, H⟩ := H
   (try dsimp only at H)
   have A15 := Aside0.mk A150
   clear A150
   replace H := Option.bind_eq_some_iff.mp H
   obtain ⟨t113, A160, H⟩ := H
   (try dsimp only at H)
   have A16 := Aside0.mk A160
   clear A160
   by_cases c17 : t113 = 0
   ·rw [if_pos c17] at H
    have c17b0 : (t113 == 0) = true := beq_iff_eq.mpr c17
    have c17b1 : (t113 != 0) = false := bne_eq_false_iff_eq.mpr c17
    clear c17
    obtain rfl := Option.some.inj H
    try go_wp2
    have n0_ := Aside0.mk (Kd.rD9 HO_102001.out)
    have n1_ := Aside0.mk (Kd.rD9 HO_102002.out)
    have n2_ := Aside0.mk (kD9 BK101.out)
    have n3_ := Aside0.mk (bD9 HB.out)
    clear HO_102001
    clear HO_102002
    clear BK101
    clear HB
    have HO_102001 := n0_
    have HO_102002 := n1_
    have BK101 := n2_
    have HB := n3_
    clear n0_ n1_ n2_ n3_
    refine start_ (n := 5) (S := fun w' => w'.cell? ⟨gb101, 0, none⟩ = some (.bool t102) ∧ w'.cell? ⟨gb101, 1, none⟩ = some (.slice Ao9 t103.length co9) ∧ w'.cell? ⟨gb101, 2, none⟩ = some (.slice Ao10 t106.length co10)) (ds := []) #[false, false, false, false, false] (by kernel_rfl) rfl rfl ⟨(kC9 BK101.out 0).trans rfl, (kC9 BK101.out 1).trans rfl, (kC9 BK101.out 2).trans rfl⟩ (fun hHeld => ?_)
    generalize wc.drew = w18 at HO_102001 HO_102002 BK101 HB hHeld ⊢
    refine pure_ (i := 0) (N := some 13) (v := ?_) (a' := ?_) #[true, false, false, false, false] rfl rfl (by kernel_rfl) (fun _ _ _ h => h) (Or.inl ⟨by rfl, ?_⟩) ?_ ?_
    rotate_left
    ·intro w'
     go_simp
     with_reducible rfl
    rotate_left
    ·simp only [Act.put, List.setIfInBounds_toArray, List.set_cons_zero, List.set_cons_succ, i64_w, i32_w]
     rfl
    refine take_ (i := 1) (N := some 14) (v := ?_) (a' := ?_) #[true, true, false, false, false] rfl rfl (by kernel_rfl) (fun _ _ _ h => h) (Or.inl ⟨by rfl, ?_⟩) hHeld ?_ ?_
    rotate_left
    ·rintro w' ⟨s0, s1, s2⟩
     go_simp
     with_reducible rfl
    rotate_left
    ·simp only [Act.put, List.setIfInBounds_toArray, List.set_cons_zero, List.set_cons_succ, i64_w, i32_w]
     rfl
    refine one_ (i := 2) (N := some 15) #[true, true, true, false, false] rfl rfl (by kernel_rfl) (by decide) (fun K hK => ?_)
    refine goes_ Tryz.func30 (by kernel_rfl) rfl #[.int .u64 1] (by rfl) rfl rfl (by (try simp only [List.map_toArray, List.map_cons, List.map_nil]); first | done | rfl | (simp only [List.length_drop, List.length_take]; rfl)) ?_
    with_reducible refine (nat_Of.calls 1 t110 _ A15.out).mono ?_
    rintro e w19 ⟨v111, rfl, ho0, hb⟩
    refine ⟨_, rfl, ?_⟩
    have n0_ := Aside0.mk (Kd.R_elder' (by (with_reducible repeat (first | apply Kd.rA9 | apply Kd.rN9 | apply Kd.rD9)); exact HO_102001.out) (Kd.R_base ho0) hb)
    have n1_ := Aside0.mk (Kd.R_elder' (by (with_reducible repeat (first | apply Kd.rA9 | apply Kd.rN9 | apply Kd.rD9)); exact HO_102002.out) (Kd.R_base ho0) hb)
    have n2_ := Aside0.mk (Kd.rL9 (Kd.R_new' (Kd.R_new' ho0 (Kd.R_lt (by (with_reducible repeat (first | apply Kd.rA9 | apply Kd.rN9 | apply Kd.rD9)); exact HO_102001.out))) (Kd.R_lt (by (with_reducible repeat (first | apply Kd.rA9 | apply Kd.rN9 | apply Kd.rD9)); exact HO_102002.out))) (bZ9 (by repeat (first | (with_reducible first | exact HB.out | apply bA9 | apply bN9 | apply bD9 | refine bS9 ?_ GE101.out) | exact HB.out))))
    have n3_ := Aside0.mk (kB9 (g := gb101) (o := .cells #[.bool t102, .slice Ao9 t103.length co9, .slice Ao10 t106.length co10] 35 (0, 0)) (by (with_reducible repeat (first | refine kN9 ?_ _ | refine kD9 ?_ | refine kA9 ?_ _)); exact BK101.out) hb)
    have n4_ := Aside0.mk (bT9 (by repeat (first | (with_reducible first | exact HB.out | apply bA9 | apply bN9 | apply bD9 | refine bS9 ?_ GE101.out) | exact HB.out)) hb)
    clear HO_102001
    clear HO_102002
    clear BK101
    clear HB
    have HO_102001 := n0_
    have HO_102002 := n1_
    have HO112 := n2_
    have BK101 := n3_
    have HB := n4_
    clear n0_ n1_ n2_ n3_ n4_
    (try clear hb)
    (try clear hb2)
    (try clear hk)
    (try clear hi)
    (try clear ho0)
    obtain ⟨Ao20, co20, eo20⟩ := Kd.rS9 HO112.out
    (first | subst eo20 | (injection eo20 with f1_ f2_ f3_; have f4_ := f1_.symm; have f5_ := f3_.symm; clear f1_ f2_ f3_; subst f4_; subst f5_))
    refine hK.out _ _ ⟨(kC9 BK101.out 0).trans rfl, (kC9 BK101.out 1).trans rfl, (kC9 BK101.out 2).trans rfl⟩ (fun hHeld => ?_)
    clear hK K
    refine norm_ (a' := ?_) ?_ ?_
    rotate_left
    ·show Act.put _ (some 15) _ = _
     simp only [Act.put, List.setIfInBounds_toArray, List.set_cons_zero, List.set_cons_succ, i64_w, i32_w]
     rfl
    refine one_ (i := 3) (N := some 16) #[true, true, true, true, false] rfl rfl (by kernel_rfl) (by decide) (fun K hK => ?_)
    refine goes_ Tryz.func28 (by kernel_rfl) rfl #[.slice Ao10 t106.length co10, .slice Ao20 t110.length co20] (by rfl) rfl rfl (by (try simp only [List.map_toArray, List.map_cons, List.map_nil]); first | done | rfl | (simp only [List.length_drop, List.length_take]; rfl)) ?_
    with_reducible refine (nat_Cmp.calls _ _ t106 _ _ t110 t113 _ ?side1 ?side2 ?side3 ?side4 A16.out).mono ?_
    (case side1 => repeat (first | exact (Kd.rR9 HO_102002.out).2.2 | (with_reducible refine Kd.cA9 ?_ _) | (with_reducible refine Kd.cN9 ?_ _) | (with_reducible refine Kd.cD9 ?_)))
    (case side2 => exact (Kd.rR9 HO_102002.out).2.1)
    (case side3 => repeat (first | exact (Kd.rR9 HO112.out).2.2 | (with_reducible refine Kd.cA9 ?_ _) | (with_reducible refine Kd.cN9 ?_ _) | (with_reducible refine Kd.cD9 ?_)))
    (case side4 => exact (Kd.rR9 HO112.out).2.1)
    rintro e w21 ⟨rfl, hb⟩
    refine ⟨_, rfl, ?_⟩
    have n0_ := Aside0.mk (Kd.rB9 (by (with_reducible repeat (first | apply Kd.rA9 | apply Kd.rN9 | apply Kd.rD9)); exact HO_102001.out) hb)
    have n1_ := Aside0.mk (Kd.rB9 (by (with_reducible repeat (first | apply Kd.rA9 | apply Kd.rN9 | apply Kd.rD9)); exact HO_102002.out) hb)
    have n2_ := Aside0.mk (Kd.rB9 (by (with_reducible repeat (first | apply Kd.rA9 | apply Kd.rN9 | apply Kd.rD9)); exact HO112.out) hb)
    have n3_ := Aside0.mk (kB9 (g := gb101) (o := .cells #[.bool t102, .slice Ao9 t103.length co9, .slice Ao10 t106.length co10] 35 (0, 0)) (by (with_reducible repeat (first | refine kN9 ?_ _ | refine kD9 ?_ | refine kA9 ?_ _)); exact BK101.out) hb)
    have n4_ := Aside0.mk (bT9 (by repeat (first | (with_reducible first | exact HB.out | apply bA9 | apply bN9 | apply bD9 | refine bS9 ?_ GE101.out) | exact HB.out)) hb)
    clear HO_102001
    clear HO_102002
    clear HO112
    clear BK101
    clear HB
    have HO_102001 := n0_
    have HO_102002 := n1_
    have HO112 := n2_
    have BK101 := n3_
    have HB := n4_
    clear n0_ n1_ n2_ n3_ n4_
    (try clear hb)
    (try clear hb2)
    (try clear hk)
    (try clear hi)
    refine hK.out _ _ ⟨(kC9 BK101.out 0).trans rfl, (kC9 BK101.out 1).trans rfl, (kC9 BK101.out 2).trans rfl⟩ (fun hHeld => ?_)
    clear hK K
    refine norm_ (a' := ?_) ?_ ?_
    rotate_left
    ·show Act.put _ (some 16) _ = _
     simp only [Act.put, List.setIfInBounds_toArray, List.set_cons_zero, List.set_cons_succ, i64_w, i32_w]
     rfl
    refine pure_ (i := 4) (N := some 17) (v := ?_) (a' := ?_) #[true, true, true, true, true] rfl rfl (by kernel_rfl) (fun _ _ _ h => h) (Or.inl ⟨by rfl, ?_⟩) ?_ ?_
    rotate_left
    ·intro w'
     go_simp
     with_reducible rfl
    rotate_left
    ·simp only [Act.put, List.setIfInBounds_toArray, List.set_cons_zero, List.set_cons_succ, i64_w, i32_w]
     rfl
    refine done_ (by kernel_rfl) ?_
    try go_wp2
    go_ret
    exact ⟨by first | rfl | (simp [eN9, eS9] <;> rfl) | (simp [*, eN9, eS9] <;> rfl), by repeat (first | (with_reducible first | exact HB.out | apply bA9 | apply bN9 | apply bD9 | refine bS9 ?_ GE101.out) | exact HB.out)⟩
   ·rw [if_neg c17] at H
    have c17b0 : (t113 == 0) = false := beq_eq_false_iff_ne.mpr c17
    have c17b1 : (t113 != 0) = true := bne_iff_ne.mpr c17
    replace H := Option.bind_eq_some_iff.mp H
    obtain ⟨t114, A220, H⟩ := H
    (try dsimp only at H)
    have A22 := Aside0.mk A220
    clear A220
    by_cases c23 : 1 + t114.size ≤ 9223372036854775807
    ·rw [if_pos c23] at H
     have c23b0 := eq_true c23
     try (have h_c23 := c23; rw [ByteArray.size_append] at h_c23; have c23b3 := eq_true h_c23; have c23b4 := eq_false (Nat.not_lt.2 h_c23); clear h_c23)
     have c23b1 : decide (1 + t114.size ≤ 9223372036854775807) = true := decide_eq_true c23
     try have c23b2 : (9223372036854775807 < 1 + t114.size) = False := eq_false (Nat.not_lt.2 c23)
     by_cases c24 : x3_3.size + ((⟨#[47]⟩ : ByteArray) ++ t114).size ≤ 9223372036854775807
     ·rw [if_pos c24] at H
      have c24b0 := eq_true c24
      try (have h_c24 := c24; rw [ByteArray.size_append] at h_c24; have c24b3 := eq_true h_c24; have c24b4 := eq_false (Nat.not_lt.2 h_c24); clear h_c24)
      have c24b1 : decide (x3_3.size + ((⟨#[47]⟩ : ByteArray) ++ t114).size ≤ 9223372036854775807) = true := decide_eq_true c24
      try have c24b2 : (9223372036854775807 < x3_3.size + ((⟨#[47]⟩ : ByteArray) ++ t114).size) = False := eq_false (Nat.not_lt.2 c24)
      obtain rfl := Option.some.inj H
      try go_wp2
      have n0_ := Aside0.mk (Kd.rD9 HO_102001.out)
      have n1_ := Aside0.mk (Kd.rD9 HO_102002.out)
      have n2_ := Aside0.mk (kD9 BK101.out)
      have n3_ := Aside0.mk (bD9 HB.out)
      clear HO_102001
      clear HO_102002
      clear BK101
      clear HB
      have HO_102001 := n0_
      have HO_102002 := n1_
      have BK101 := n2_
      have HB := n3_
      clear n0_ n1_ n2_ n3_
      refine start_ (n := 5) (S := fun w' => w'.cell? ⟨gb101, 0, none⟩ = some (.bool t102) ∧ w'.cell? ⟨gb101, 1, none⟩ = some (.slice Ao9 t103.length co9) ∧ w'.cell? ⟨gb101, 2, none⟩ = some (.slice Ao10 t106.length co10)) (ds := []) #[false, false, false, false, false] (by kernel_rfl) rfl rfl ⟨(kC9 BK101.out 0).trans rfl, (kC9 BK101.out 1).trans rfl, (kC9 BK101.out 2).trans rfl⟩ (fun hHeld => ?_)
      generalize wc.drew = w25 at HO_102001 HO_102002 BK101 HB hHeld ⊢
      refine pure_ (i := 0) (N := some 13) (v := ?_) (a' := ?_) #[true, false, false, false, false] rfl rfl (by kernel_rfl) (fun _ _ _ h => h) (Or.inl ⟨by rfl, ?_⟩) ?_ ?_
      rotate_left
      ·intro w'
       go_simp
       with_reducible rfl
      rotate_left
      ·simp only [Act.put, List.setIfInBounds_toArray, List.set_cons_zero, List.set_cons_succ, i64_w, i32_w]
       rfl
      refine take_ (i := 1) (N := some 14) (v := ?_) (a' := ?_) #[true, true, false, false, false] rfl rfl (by kernel_rfl) (fun _ _ _ h => h) (Or.inl ⟨by rfl, ?_⟩) hHeld ?_ ?_
      rotate_left
      ·rintro w' ⟨s0, s1, s2⟩
       go_simp
       with_reducible rfl
      rotate_left
      ·simp only [Act.put, List.setIfInBounds_toArray, List.set_cons_zero, List.set_cons_succ, i64_w, i32_w]
       rfl
      refine one_ (i := 2) (N := some 15) #[true, true, true, false, false] rfl rfl (by kernel_rfl) (by decide) (fun K hK => ?_)
      refine goes_ Tryz.func30 (by kernel_rfl) rfl #[.int .u64 1] (by rfl) rfl rfl (by (try simp only [List.map_toArray, List.map_cons, List.map_nil]); first | done | rfl | (simp only [List.length_drop, List.length_take]; rfl)) ?_
      with_reducible refine (nat_Of.calls 1 t110 _ A15.out).mono ?_
      rintro e w26 ⟨v111, rfl, ho0, hb⟩
      refine ⟨_, rfl, ?_⟩
      have n0_ := Aside0.mk (Kd.R_elder' (by (with_reducible repeat (first | apply Kd.rA9 | apply Kd.rN9 | apply Kd.rD9)); exact HO_102001.out) (Kd.R_base ho0) hb)
      have n1_ := Aside0.mk (Kd.R_elder' (by (with_reducible repeat (first | apply Kd.rA9 | apply Kd.rN9 | apply Kd.rD9)); exact HO_102002.out) (Kd.R_base ho0) hb)
      have n2_ := Aside0.mk (Kd.rL9 (Kd.R_new' (Kd.R_new' ho0 (Kd.R_lt (by (with_reducible repeat (first | apply Kd.rA9 | apply Kd.rN9 | apply Kd.rD9)); exact HO_102001.out))) (Kd.R_lt (by (with_reducible repeat (first | apply Kd.rA9 | apply Kd.rN9 | apply Kd.rD9)); exact HO_102002.out))) (bZ9 (by repeat (first | (with_reducible first | exact HB.out | apply bA9 | apply bN9 | apply bD9 | refine bS9 ?_ GE101.out) | exact HB.out))))
      have n3_ := Aside0.mk (kB9 (g := gb101) (o := .cells #[.bool t102, .slice Ao9 t103.length co9, .slice Ao10 t106.length co10] 35 (0, 0)) (by (with_reducible repeat (first | refine kN9 ?_ _ | refine kD9 ?_ | refine kA9 ?_ _)); exact BK101.out) hb)
      have n4_ := Aside0.mk (bT9 (by repeat (first | (with_reducible first | exact HB.out | apply bA9 | apply bN9 | apply bD9 | refine bS9 ?_ GE101.out) | exact HB.out)) hb)
      clear HO_102001
      clear HO_102002
      clear BK101
      clear HB
      have HO_102001 := n0_
      have HO_102002 := n1_
      have HO112 := n2_
      have BK101 := n3_
      have HB := n4_
      clear n0_ n1_ n2_ n3_ n4_
      (try clear hb)
      (try clear hb2)
      (try clear hk)
      (try clear hi)
      (try clear ho0)
      obtain ⟨Ao27, co27, eo27⟩ := Kd.rS9 HO112.out
      (first | subst eo27 | (injection eo27 with f1_ f2_ f3_; have f4_ := f1_.symm; have f5_ := f3_.symm; clear f1_ f2_ f3_; subst f4_; subst f5_))
      refine hK.out _ _ ⟨(kC9 BK101.out 0).trans rfl, (kC9 BK101.out 1).trans rfl, (kC9 BK101.out 2).trans rfl⟩ (fun hHeld => ?_)
      clear hK K
      refine norm_ (a' := ?_) ?_ ?_
      rotate_left
      ·show Act.put _ (some 15) _ = _
       simp only [Act.put, List.setIfInBounds_toArray, List.set_cons_zero, List.set_cons_succ, i64_w, i32_w]
       rfl
      refine one_ (i := 3) (N := some 16) #[true, true, true, true, false] rfl rfl (by kernel_rfl) (by decide) (fun K hK => ?_)
      refine goes_ Tryz.func28 (by kernel_rfl) rfl #[.slice Ao10 t106.length co10, .slice Ao27 t110.length co27] (by rfl) rfl rfl (by (try simp only [List.map_toArray, List.map_cons, List.map_nil]); first | done | rfl | (simp only [List.length_drop, List.length_take]; rfl)) ?_
      with_reducible refine (nat_Cmp.calls _ _ t106 _ _ t110 t113 _ ?side1 ?side2 ?side3 ?side4 A16.out).mono ?_
      (case side1 => repeat (first | exact (Kd.rR9 HO_102002.out).2.2 | (with_reducible refine Kd.cA9 ?_ _) | (with_reducible refine Kd.cN9 ?_ _) | (with_reducible refine Kd.cD9 ?_)))
      (case side2 => exact (Kd.rR9 HO_102002.out).2.1)
      (case side3 => repeat (first | exact (Kd.rR9 HO112.out).2.2 | (with_reducible refine Kd.cA9 ?_ _) | (with_reducible refine Kd.cN9 ?_ _) | (with_reducible refine Kd.cD9 ?_)))
      (case side4 => exact (Kd.rR9 HO112.out).2.1)
      rintro e w28 ⟨rfl, hb⟩
      refine ⟨_, rfl, ?_⟩
      have n0_ := Aside0.mk (Kd.rB9 (by (with_reducible repeat (first | apply Kd.rA9 | apply Kd.rN9 | apply Kd.rD9)); exact HO_102001.out) hb)
      have n1_ := Aside0.mk (Kd.rB9 (by (with_reducible repeat (first | apply Kd.rA9 | apply Kd.rN9 | apply Kd.rD9)); exact HO_102002.out) hb)
      have n2_ := Aside0.mk (Kd.rB9 (by (with_reducible repeat (first | apply Kd.rA9 | apply Kd.rN9 | apply Kd.rD9)); exact HO112.out) hb)
      have n3_ := Aside0.mk (kB9 (g := gb101) (o := .cells #[.bool t102, .slice Ao9 t103.length co9, .slice Ao10 t106.length co10] 35 (0, 0)) (by (with_reducible repeat (first | refine kN9 ?_ _ | refine kD9 ?_ | refine kA9 ?_ _)); exact BK101.out) hb)
      have n4_ := Aside0.mk (bT9 (by repeat (first | (with_reducible first | exact HB.out | apply bA9 | apply bN9 | apply bD9 | refine bS9 ?_ GE101.out) | exact HB.out)) hb)
      clear HO_102001
      clear HO_102002
      clear HO112
      clear BK101
      clear HB
      have HO_102001 := n0_
      have HO_102002 := n1_
      have HO112 := n2_
      have BK101 := n3_
      have HB := n4_
      clear n0_ n1_ n2_ n3_ n4_
      (try clear hb)
      (try clear hb2)
      (try clear hk)
      (try clear hi)
      refine hK.out _ _ ⟨(kC9 BK101.out 0).trans rfl, (kC9 BK101.out 1).trans rfl, (kC9 BK101.out 2).trans rfl⟩ (fun hHeld => ?_)
      clear hK K
      refine norm_ (a' := ?_) ?_ ?_
      rotate_left
      ·show Act.put _ (some 16) _ = _
       simp only [Act.put, List.setIfInBounds_toArray, List.set_cons_zero, List.set_cons_succ, i64_w, i32_w]
       rfl
      refine pure_ (i := 4) (N := some 17) (v := ?_) (a' := ?_) #[true, true, true, true, true] rfl rfl (by kernel_rfl) (fun _ _ _ h => h) (Or.inl ⟨by rfl, ?_⟩) ?_ ?_
      rotate_left
      ·intro w'
       go_simp
       with_reducible rfl
      rotate_left
      ·simp only [Act.put, List.setIfInBounds_toArray, List.set_cons_zero, List.set_cons_succ, i64_w, i32_w]
       rfl
      refine done_ (by kernel_rfl) ?_
      have hcz29_0 : w28.cell? ⟨gb101, 0, none⟩ = some (.bool t102) := (kC9 BK101.out 0).trans rfl
      have hcz29_1 : w28.cell? ⟨gb101, 1, none⟩ = some (.slice Ao9 t103.length co9) := (kC9 BK101.out 1).trans rfl
      have hcz29_2 : w28.cell? ⟨gb101, 2, none⟩ = some (.slice Ao10 t106.length co10) := (kC9 BK101.out 2).trans rfl
      have hfz29_0 := kF9 BK101.out 0
      have hfz29_1 := kF9 BK101.out 1
      have hfz29_2 := kF9 BK101.out 2
      try go_wp2_with (first | ((with_reducible refine gC9 (f := 23) rfl ?_); refine goesL_ (some 21) rfl rfl Tryz.func23 (by kernel_rfl) rfl #[.slice Ao10 t106.length co10] rfl (by (try simp only [List.map_toArray, List.map_cons, List.map_nil]); first | done | rfl | (simp only [List.length_drop, List.length_take]; rfl)) ?_; (with_reducible refine (digits_Nat.calls _ _ t106 t114 _ (PowTab.below HT.out (by repeat (first | (with_reducible first | exact HB.out | apply bA9 | apply bN9 | apply bD9 | refine bS9 ?_ GE101.out) | exact HB.out))) ?side1 ?side2 A22.out).mono ?_); (case side1 => repeat (first | exact (Kd.rR9 HO_102002.out).2.2 | (with_reducible refine Kd.cA9 ?_ _) | (with_reducible refine Kd.cN9 ?_ _) | (with_reducible refine Kd.cD9 ?_))); (case side2 => exact (Kd.rR9 HO_102002.out).2.1); rintro e w30 ⟨rfl, hb⟩; refine ⟨_, rfl, ?_⟩; have n0_ := Aside0.mk (Kd.rB9 (by (with_reducible repeat (first | apply Kd.rA9 | apply Kd.rN9 | apply Kd.rD9)); exact HO_102001.out) hb); have n1_ := Aside0.mk (Kd.rB9 (by (with_reducible repeat (first | apply Kd.rA9 | apply Kd.rN9 | apply Kd.rD9)); exact HO_102002.out) hb); have n2_ := Aside0.mk (Kd.rB9 (by (with_reducible repeat (first | apply Kd.rA9 | apply Kd.rN9 | apply Kd.rD9)); exact HO112.out) hb); have n3_ := Aside0.mk (kB9 (g := gb101) (o := .cells #[.bool t102, .slice Ao9 t103.length co9, .slice Ao10 t106.length co10] 35 (0, 0)) (by (with_reducible repeat (first | refine kN9 ?_ _ | refine kD9 ?_ | refine kA9 ?_ _)); exact BK101.out) hb); have n4_ := Aside0.mk (bT9 (by repeat (first | (with_reducible first | exact HB.out | apply bA9 | apply bN9 | apply bD9 | refine bS9 ?_ GE101.out) | exact HB.out)) hb); clear HO_102001; clear HO_102002; clear HO112; clear BK101; clear HB; have HO_102001 := n0_; have HO_102002 := n1_; have HO112 := n2_; have BK101 := n3_; have HB := n4_; clear n0_ n1_ n2_ n3_ n4_; (try clear hb); (try clear hb2); (try clear hk); (try clear hi)))
      go_ret
      exact ⟨by first | rfl | (simp [eN9, eS9] <;> rfl) | (simp [*, eN9, eS9] <;> rfl), by repeat (first | (with_reducible first | exact HB.out | apply bA9 | apply bN9 | apply bD9 | refine bS9 ?_ GE101.out) | exact HB.out)⟩
     ·rw [if_neg c24] at H
      exact absurd H (by simp)
    ·rw [if_neg c23] at H
     exact absurd H (by simp)
end Go.Proofs.YthppjdmkinbccaaGreatDoor.Print

namespace Go.Proofs
open Go.RowKit Go.Shelf
shelf_lay LaysGw.n17 Ggw 17 at Tryz as Tryz.layContFunc
end Go.Proofs
namespace Go.Proofs.YthppjdmkinbccaaGreatDoor.Print
open Go.RowKit Go.Shelf Go.Proofs.YthppjdmkinbccaaGreatDoorW.PrintWords Go.Proofs.YthppjdmkinbccaaGreatDoorW.PrintLast Go.Proofs.YthppjdmkinbccaaGreatDoorW.PrintMore Go.Proofs.YthppjdmkinbccaaGreatDoor.Base
set_option linter.unusedVariables false
set_option linter.unusedSimpArgs false
def isDig (c : UInt8) : Bool := decide (48 ≤ c.toNat) && decide (c.toNat ≤ 57)
def natB (l : List UInt8) : Bool := !(l == [] || (decide (1 < l.length) && l.head? == some 48)) && l.all isDig
theorem natB_iff {l : List UInt8} : natB l = true ↔ NatL l := by
  unfold natB NatL DigL
  cases l with
  | nil => simp
  | cons c r =>
    cases r with
    | nil => simp [isDig]
    | cons d r2 =>
      simp [isDig]
      constructor
      · rintro ⟨h1, h2⟩; exact ⟨h2, fun e => by simp_all⟩
      · rintro ⟨h2, h1⟩; exact ⟨fun e => by simp_all, h2⟩
def badR (r : Nat) : Bool := decide (r < 48) || decide (57 < r)
theorem bad_at (w : World) : PredAt Tryz.prog 64 #[] encR badR w := fun W r _ => by
  unfold FnGives
  by_cases h1 : r < 48 <;> by_cases h2 : 57 < r
  all_goals
    have z1 : (r : Int) < 48 ↔ r < 48 := by omega
    have z2 : (57 : Int) < (r : Int) ↔ 57 < r := by omega
    have d1 : decide ((r : Int) < 48) = decide (r < 48) := by simp [z1]
    have d2 : decide ((57 : Int) < (r : Int)) = decide (57 < r) := by simp [z2]
    go_enter Tryz.func64, Tryz.ntmps64
    go_wp2
    all_goals first | (exfalso; omega) | (go_ret; exact ⟨by simp [badR, h1, h2], 0, rfl⟩)
theorem drop_at (s : ByteArray) (pos : Nat) (h : pos < s.size) : s.data.toList.drop pos = s[pos]'h :: s.data.toList.drop (pos + 1) := by
  have hl : pos < s.data.toList.length := by simpa using h
  rw [List.drop_eq_getElem_cons hl]
  rfl
theorem bad_from (s : ByteArray) : ∀ (f pos : Nat), s.size ≤ pos + f → (decide (0 ≤ Lib.idxFuncFrom badR true s f pos)) = !((s.data.toList.drop pos).all isDig)
  | 0, pos, h => by
    have : s.data.toList.drop pos = [] := by apply List.drop_eq_nil_of_le; simpa using h
    rw [this]; rfl
  | f + 1, pos, h => by
    unfold Lib.idxFuncFrom
    by_cases hp : pos < s.size
    · rw [if_pos hp, drop_at s pos hp, List.all_cons]
      by_cases ha : (s[pos]'hp).toNat < 128
      · rw [Go.decode_ascii s pos hp ha]
        by_cases hb : isDig (s[pos]'hp) = true
        · rw [if_neg (by unfold isDig at hb; unfold badR; simp at hb ⊢; omega), hb, Bool.true_and]
          exact bad_from s f (pos + 1) (by omega)
        · rw [if_pos (by unfold isDig at hb; unfold badR; simp at hb ⊢; omega)]
          have : isDig (s[pos]'hp) = false := by simpa using hb
          rw [this]; simp
      · have h8 := (Go.decode_high s pos hp (by omega)).1
        rw [if_pos (by unfold badR; simp; omega)]
        have : isDig (s[pos]'hp) = false := by unfold isDig; simp; omega
        rw [this]; simp
    · rw [if_neg hp]
      have : s.data.toList.drop pos = [] := by apply List.drop_eq_nil_of_le; simpa using Nat.le_of_not_lt hp
      rw [this]; rfl
theorem bad_law (s : ByteArray) : decide (0 ≤ Lib.idxFunc badR true s) = !(s.data.toList.all isDig) := by
  have h := bad_from s s.size 0 (by omega)
  rw [List.drop_zero] at h
  exact h
theorem contf_calls (s : ByteArray) (w : World) :
    Calls Tryz.prog 63 #[.string s, .func (.func 64) #[] #[]] w fun e w' => e = .returned (.bool (!(s.data.toList.all isDig))) ∧ Below w.heap.size w w' := by
  have h := Any.strings_ContainsFunc Tryz.layContFunc 64 #[] (enters_of Tryz.func64 (by kernel_rfl) rfl) badR s w (bad_at w)
  rw [bad_law] at h
  exact h
def digits_natural.f (a0 : ByteArray) : Option Bool := some (natB a0.data.toList)
set_option maxRecDepth 100000 in
set_option maxHeartbeats 4000000 in
theorem digits_natural.calls (a0 : ByteArray) (r : Bool) (w : World) (h : digits_natural.f a0 = some r) :
    Calls Tryz.prog 34 #[.string a0] w fun e w' => e = .returned (.bool r) ∧ Below w.heap.size w w' := by
  unfold digits_natural.f at h
  obtain rfl := Option.some.inj h
  clear h
  have CF := fun W => contf_calls a0 W
  have hb : ∀ b0 : Bool, b0 = natB a0.data.toList → Calls Tryz.prog 34 #[.string a0] w fun e w' => e = .returned (.bool b0) ∧ Below w.heap.size w w' := by
    intro b0 hb0
    obtain ⟨q, hq⟩ : ∃ q, a0.data.toList.all isDig = q := ⟨_, rfl⟩
    rw [hq] at CF
    have HQ := Aside0.mk hq
    have HB := Aside0.mk hb0
    clear hb0 hq
    by_cases h0 : a0 = ⟨#[]⟩
    · have c1 : decide (a0 = ⟨#[]⟩) = true := decide_eq_true h0
      go_enter Tryz.func34, Tryz.ntmps34
      go_wp2
      go_ret
      exact ⟨by rw [HB.out, h0]; rfl, Below.refl _ _⟩
    · obtain ⟨c, r, hl⟩ : ∃ c r, a0.data.toList = c :: r := by
        cases e : a0.data.toList with
        | nil => exact absurd (by cases a0 with | mk d => congr; exact Array.toList_eq_nil_iff.1 e) h0
        | cons c r => exact ⟨c, r, rfl⟩
      have hsz : a0.size = r.length + 1 := by
        have : a0.data.toList.length = a0.size := by cases a0; rfl
        rw [← this, hl]; rfl
      have c1 : a0.toList.isEmpty = false := by rw [ByteArray.toList_eq, hl]; rfl
      have hp0 : 0 < a0.size := by omega
      have hc : a0[0]'hp0 = c := by
        have h := drop_at a0 0 hp0
        rw [List.drop_zero, hl] at h
        exact (List.cons.inj h).1.symm
      have HL := Aside0.mk hl
      have HSZ := Aside0.mk hsz
      clear h0 hl
      by_cases h1 : 1 < a0.size
      · have c2 : decide (1 < (a0.size : Int)) = true := decide_eq_true (by omega)
        by_cases h48 : c = 48
        · have c3 : ((((a0[0]'hp0).toNat : Nat) : Int) == 48) = true := by rw [hc, h48]; rfl
          have H48 := Aside0.mk h48
          clear hc h48 hsz
          go_enter Tryz.func34, Tryz.ntmps34
          go_wp2_with (go_at_call 63; refine (CF _).mono ?_; rintro e w' ⟨rfl, hb1⟩; have HB1 := Aside0.mk hb1; clear hb1)
          go_ret
          refine ⟨?_, Below.refl _ _⟩
          rw [HB.out, HL.out]
          have := HSZ.out
          unfold natB
          rw [H48.out]
          simp
          intro e
          exfalso
          rw [e] at this
          simp at this
          omega
        · have c3 : ((((a0[0]'hp0).toNat : Nat) : Int) == 48) = false := by
            rw [hc, beq_eq_false_iff_ne]
            intro e
            apply h48
            apply UInt8.toNat_inj.1
            exact Int.ofNat.inj e
          have H48 := Aside0.mk h48
          clear hc h48 hsz
          go_enter Tryz.func34, Tryz.ntmps34
          go_wp2_with (go_at_call 63; refine (CF _).mono ?_; rintro e w' ⟨rfl, hb1⟩; have HB1 := Aside0.mk hb1; clear hb1)
          go_ret
          refine ⟨?_, HB1.out⟩
          rw [HB.out]
          unfold natB
          rw [HQ.out, HL.out]
          simp [H48.out]
      · have c2 : decide (1 < (a0.size : Int)) = false := decide_eq_false (by omega)
        clear hc hsz
        go_enter Tryz.func34, Tryz.ntmps34
        go_wp2_with (go_at_call 63; refine (CF _).mono ?_; rintro e w' ⟨rfl, hb1⟩; have HB1 := Aside0.mk hb1; clear hb1)
        go_ret
        refine ⟨?_, HB1.out⟩
        rw [HB.out]
        unfold natB
        rw [HQ.out, HL.out]
        have : r.length = 0 := by have := HSZ.out; omega
        rw [List.eq_nil_of_length_eq_zero this]
        simp
  exact hb _ rfl
end Go.Proofs.YthppjdmkinbccaaGreatDoor.Print

namespace Go.Proofs
open Go.RowKit Go.Shelf
shelf_lay LaysPu.n14 Mp 14 at Tryz as Tryz.layParseUint
end Go.Proofs
namespace Go.Proofs.YthppjdmkinbccaaGreatDoor.Print
open Go.RowKit Go.Shelf Go.Proofs.YthppjdmkinbccaaGreatDoorW.PrintWords Go.Proofs.YthppjdmkinbccaaGreatDoorW.PrintLast Go.Proofs.YthppjdmkinbccaaGreatDoorW.PrintMore Go.Proofs.YthppjdmkinbccaaGreatDoor.Base
set_option linter.unusedVariables false
set_option linter.unusedSimpArgs false
def numF (acc : Nat) (l : List UInt8) : Nat := l.foldl (fun a c => 10 * a + (c.toNat - 48)) acc
theorem numF_eq : ∀ (l : List UInt8) (acc : Nat), numF acc l = acc * 10 ^ l.length + numD l
  | [], acc => by simp [numF, numD]
  | c :: r, acc => by
    have e1 : numF acc (c :: r) = numF (10 * acc + (c.toNat - 48)) r := rfl
    have e2 : numD (c :: r) = numF (10 * 0 + (c.toNat - 48)) r := rfl
    rw [e1, e2, numF_eq r, numF_eq r, List.length_cons, Nat.pow_succ]
    rw [Nat.add_mul, Nat.mul_zero, Nat.zero_add, Nat.add_assoc]
    congr 1
    rw [Nat.mul_comm 10 acc, Nat.mul_assoc, Nat.mul_comm 10]
theorem numD_append (a b : List UInt8) : numD (a ++ b) = numD a * 10 ^ b.length + numD b := by
  rw [← numF_eq]
  simp [numD, numF, List.foldl_append]
theorem numD_lt : ∀ (l : List UInt8), DigL l → numD l < 10 ^ l.length
  | [], _ => by simp [numD]
  | c :: r, h => by
    have hc := h c (List.mem_cons_self ..)
    have ih := numD_lt r (fun x hx => h x (List.mem_cons_of_mem _ hx))
    have e2 : numD (c :: r) = numF (10 * 0 + (c.toNat - 48)) r := rfl
    rw [e2, numF_eq, List.length_cons, Nat.pow_succ, Nat.mul_zero, Nat.zero_add]
    have : (c.toNat - 48) * 10 ^ r.length ≤ 9 * 10 ^ r.length := Nat.mul_le_mul_right _ (by omega)
    omega
theorem parse_from : ∀ (l : List UInt8) (acc : Nat), DigL l → (acc + 1) * 10 ^ l.length ≤ 1000000000 → Lib.parseUintM 4294967295 acc l = .ok (numF acc l)
  | [], acc, _, _ => rfl
  | c :: r, acc, h, hb => by
    have hc := h c (List.mem_cons_self ..)
    rw [List.length_cons, Nat.pow_succ] at hb
    have hp : 1 ≤ 10 ^ r.length := Nat.pos_of_ne_zero (by simp)
    have h1 : (acc + 1) * 10 ≤ 1000000000 := by
      refine Nat.le_trans ?_ hb
      rw [Nat.mul_comm (10 ^ r.length)]
      rw [← Nat.mul_assoc]
      exact Nat.le_mul_of_pos_right _ hp
    unfold Lib.parseUintM
    rw [if_pos hc, if_neg (by omega), if_neg (by omega)]
    have e : acc * 10 + (c.toNat - 48) = 10 * acc + (c.toNat - 48) := by omega
    rw [e]
    refine parse_from r _ (fun x hx => h x (List.mem_cons_of_mem _ hx)) ?_
    refine Nat.le_trans (Nat.mul_le_mul_right _ (show 10 * acc + (c.toNat - 48) + 1 ≤ (acc + 1) * 10 by omega)) ?_
    rw [Nat.mul_assoc, Nat.mul_comm 10]
    exact hb
theorem parse_ok {l : List UInt8} (h : DigL l) (h0 : l ≠ []) (h9 : l.length ≤ 9) : Lib.parseUintB 32 l = .ok (numD l) := by
  unfold Lib.parseUintB
  rw [if_neg h0]
  refine parse_from l 0 h ?_
  rw [Nat.zero_add, Nat.one_mul]
  exact Nat.pow_le_pow_right (by decide) h9
theorem parse_calls (s : ByteArray) (hs : s.size ≤ 9) (h0 : s.data.toList ≠ []) (hd : DigL s.data.toList) (w : World) :
    Calls Tryz.prog 65 #[.string s, .int .i64 10, .int .i64 32] w fun e w' => e = .returned (.tuple #[.int .u64 ((numD s.data.toList : Nat) : Int), .nilIface]) ∧ Below w.heap.size w w' := by
  have hl : s.data.toList.length = s.size := by cases s; rfl
  refine (Any.strconv_ParseUint_10_at32_ok Tryz.layParseUint s (by omega) _ (parse_ok hd h0 (by omega)) w).mono ?_
  rintro e w' ⟨rfl, h⟩
  refine ⟨rfl, ?_⟩
  rcases h with rfl | rfl
  · exact Below.refl _ _
  · exact Lib.bytesWorld_below _ _ _
theorem big_ok {v : Nat} (h : v < (10 ^ 110) ^ 3) : (digB 4294967296 v).length ≤ 35 ∧ okN (digB 4294967296 v) = true := by
  have h2 : v < 4294967296 ^ 35 := Nat.lt_of_lt_of_le h (Nat.le_of_ble_eq_true rfl)
  exact ⟨digB_len (by decide) h2, okN_digB h2 (by decide)⟩
theorem of2_calls (p : Nat) (hp : p < 18446744073709551616) (w : World) :
    Calls Tryz.prog 30 #[.int .u64 (p : Int)] w fun e w' => ∃ A c, ∃ q : List Int, e = .returned (.slice A q.length c) ∧ q = digB 4294967296 p ∧ q.length ≤ c ∧ Kd.C (Kd.int .u32) w' A q.length q ∧ Below w.heap.size w w' := by
  refine (nat_Of.calls (p : Int) (digB 4294967296 p) w (by unfold nat_Of.f; rw [if_pos ⟨by omega, by omega⟩, Int.toNat_natCast])).mono ?_
  rintro e w' ⟨v, rfl, h, hb⟩
  obtain ⟨A, c, rfl, h1, h2⟩ := Kd.R_reads h
  exact ⟨A, c, _, rfl, rfl, h1, h2, hb⟩
theorem mul2_calls (A0 : Option Addr) (c0 : Nat) (x : List Int) (A1 : Option Addr) (c1 : Nat) (y : List Int) (a b : Nat) (w : World) (hr0 : Kd.C (Kd.int .u32) w A0 x.length x) (hc0 : x.length ≤ c0) (hr1 : Kd.C (Kd.int .u32) w A1 y.length y) (hc1 : y.length ≤ c1) (hx : x = digB 4294967296 a) (hy : y = digB 4294967296 b) (ha : a < (10 ^ 110) ^ 3) (hb : b < (10 ^ 110) ^ 3) :
    Calls Tryz.prog 33 #[.slice A0 x.length c0, .slice A1 y.length c1] w fun e w' => ∃ A c, ∃ q : List Int, e = .returned (.slice A q.length c) ∧ q = digB 4294967296 (a * b) ∧ q.length ≤ c ∧ Kd.C (Kd.int .u32) w' A q.length q ∧ Below w.heap.size w w' := by
  have h1 := big_ok ha
  have h2 := big_ok hb
  rw [← hx] at h1
  rw [← hy] at h2
  refine (nat_MulC.calls A0 c0 x A1 c1 y (digB 4294967296 (a * b)) w hr0 hc0 hr1 hc1 ?_).mono ?_
  · unfold nat_MulC.f
    rw [if_pos ⟨h1.2, h2.2, by omega⟩, hx, hy, digB_val 4294967296 (by decide), digB_val 4294967296 (by decide)]
  rintro e w' ⟨v, rfl, h, hb⟩
  obtain ⟨A, c, rfl, h1, h2⟩ := Kd.R_reads h
  exact ⟨A, c, _, rfl, rfl, h1, h2, hb⟩
theorem add2_calls (A0 : Option Addr) (c0 : Nat) (x : List Int) (A1 : Option Addr) (c1 : Nat) (y : List Int) (a b : Nat) (w : World) (hr0 : Kd.C (Kd.int .u32) w A0 x.length x) (hc0 : x.length ≤ c0) (hr1 : Kd.C (Kd.int .u32) w A1 y.length y) (hc1 : y.length ≤ c1) (hx : x = digB 4294967296 a) (hy : y = digB 4294967296 b) (ha : a < (10 ^ 110) ^ 3) (hb : b < (10 ^ 110) ^ 3) :
    Calls Tryz.prog 29 #[.slice A0 x.length c0, .slice A1 y.length c1] w fun e w' => ∃ A c, ∃ q : List Int, e = .returned (.slice A q.length c) ∧ q = digB 4294967296 (a + b) ∧ q.length ≤ c ∧ Kd.R (Kd.int .u32) 56 w' w.heap.size (fun _ => True) (.slice A q.length c) q ∧ Below w.heap.size w w' := by
  have h1 := big_ok ha
  have h2 := big_ok hb
  rw [← hx] at h1
  rw [← hy] at h2
  refine (nat_Add.calls A0 c0 x A1 c1 y (digB 4294967296 (a + b)) w hr0 hc0 hr1 hc1 ?_).mono ?_
  · unfold nat_Add.f
    rw [if_pos ⟨h1.2, h2.2⟩, hx, hy, digB_val 4294967296 (by decide), digB_val 4294967296 (by decide)]
  rintro e w' ⟨v, rfl, h, hb⟩
  obtain ⟨A, c, rfl, h1, h2⟩ := Kd.R_reads h
  exact ⟨A, c, _, rfl, rfl, h1, h, hb⟩
def digits_read.f (a0 : ByteArray) : Option (List Int × Int) := if natB a0.data.toList = true then (if 309 < a0.size then some ([], 14) else if numD a0.data.toList < 4294967296 ^ 32 then some (digB 4294967296 (numD a0.data.toList), 0) else some ([], 14)) else none
theorem size_toList2 (s : ByteArray) : s.data.toList.length = s.size := by cases s; rfl
theorem extract_list (s : ByteArray) (i j : Nat) : (s.extract i j).data.toList = (s.data.toList.drop i).take (j - i) := by
  rw [ByteArray.data_extract, Array.toList_extract, List.extract_eq_take_drop]
theorem lt_add9 {v : Nat} (h : v < (10 ^ 103) ^ 3) : v * 1000000000 < (10 ^ 110) ^ 3 :=
  Nat.lt_of_lt_of_le ((Nat.mul_lt_mul_right (by decide)).2 h) (Nat.le_of_ble_eq_true rfl)
theorem lt_310 {v : Nat} (h : v < (10 ^ 103) ^ 3) : v < (10 ^ 110) ^ 3 := Nat.lt_of_lt_of_le h (Nat.le_of_ble_eq_true rfl)
theorem lt_p9 {p : Nat} (h : p < 1000000000) : p < (10 ^ 110) ^ 3 := Nat.lt_of_lt_of_le h (Nat.le_of_ble_eq_true rfl)
theorem lt_e9 : 1000000000 < (10 ^ 110) ^ 3 := Nat.lt_of_lt_of_le (Nat.lt_succ_self _) (Nat.le_of_ble_eq_true rfl)
theorem pow_le10 {k a b : Nat} (h : k ≤ a * b) : 10 ^ k ≤ (10 ^ a) ^ b := by
  rw [← Nat.pow_mul]
  exact Nat.pow_le_pow_right (by decide) h
set_option maxRecDepth 100000 in
set_option maxHeartbeats 16000000 in
theorem read_calls (a0 : ByteArray) (hd : DigL a0.data.toList) (hs : a0.size ≤ 309) (r1 : List Int) (r2 : Int) (hr : (if numD a0.data.toList < 4294967296 ^ 32 then (digB 4294967296 (numD a0.data.toList), (0 : Int)) else ([], 14)) = (r1, r2)) (w : World) :
    Calls Tryz.prog 35 #[.string a0] w fun e w' => ∃ v0_ : Value, e = .returned (.tuple #[v0_, .int .i64 r2]) ∧ Kd.R (Kd.int .u32) 56 w' w.heap.size (fun _ => True) v0_ r1 ∧ Below w.heap.size w w' := by
  obtain ⟨T, hT⟩ : ∃ T, numD a0.data.toList = T := ⟨_, rfl⟩
  have hT9 : T < (10 ^ 103) ^ 3 := by
    rw [← hT]
    refine Nat.lt_of_lt_of_le (numD_lt _ hd) (pow_le10 ?_)
    rw [size_toList2]; exact hs
  rw [hT] at hr
  have HR := Aside0.mk hr
  have HD := Aside0.mk hd
  have HT := Aside0.mk hT
  have HT9 := Aside0.mk hT9
  have c0 : decide (309 < (a0.size : Int)) = false := decide_eq_false (by omega)
  clear hr hd hT hT9
  go_enter Tryz.func35, Tryz.ntmps35
  go_wp2
  go_loopg [0, 4] (a0.size + 1) (fun kq v0 v4 wr => ∃ (st : ByteArray) (A : Option Addr) (c : Nat) (xs : List Int) (v : Nat), v0 = .string st ∧ v4 = .slice A xs.length c ∧ Aside0 (st.size < kq ∧ st.size ≤ 309) ∧ Aside0 (DigL st.data.toList ∧ xs = digB 4294967296 v ∧ v * 10 ^ st.size + numD st.data.toList = T ∧ (v = 0 ∨ st.size % 9 = 0)) ∧ Aside0 (Kd.R (Kd.int .u32) 56 wr w.heap.size (fun _ => True) (.slice A xs.length c) xs) ∧ Aside0 (Below w.heap.size w wr))
  case atStart => exact ⟨a0, none, 0, [], 0, rfl, rfl, ⟨Nat.lt_succ_self _, hs⟩, ⟨HD.out, (digB_zero _ (by decide)).symm, by rw [HT.out]; simp, .inl rfl⟩, ⟨Kd.R_nil _ _ _ _ _⟩, ⟨Below.refl _ _⟩⟩
  case round =>
    obtain ⟨st, A, c, xs, v, rfl, rfl, HK, HF, HRR, HB⟩ := hrel
    by_cases h0 : 0 < st.size
    · have c1 : decide (0 < (st.size : Int)) = true := decide_eq_true (by omega)
      have hk := HK.out
      obtain ⟨n, hnn⟩ : ∃ n, (st.size - 1) % 9 + 1 = n := ⟨_, rfl⟩
      have hn : n ≤ st.size := by omega
      have hn9 : n ≤ 9 := by omega
      have hn1 : 1 ≤ n := by omega
      have hw : wrap64 ((wrap64 ((st.size : Int) - 1)).tmod 9 + 1) = (n : Int) := by
        rw [show wrap64 ((st.size : Int) - 1) = ((st.size - 1 : Nat) : Int) from by unfold wrap64; omega]
        rw [show ((st.size - 1 : Nat) : Int).tmod 9 = (((st.size - 1) % 9 : Nat) : Int) from rfl]
        unfold wrap64; omega
      have b1 : (0 : Int) ≤ (n : Int) := by omega
      have b2 : (n : Int) ≤ (st.size : Int) := by omega
      have hg : (st.extract 0 n).data.toList = st.data.toList.take n := by rw [extract_list, List.drop_zero, Nat.sub_zero]
      have hgr : (st.extract n st.size).data.toList = st.data.toList.drop n := by
        rw [extract_list]
        exact List.take_of_length_le (by rw [List.length_drop, size_toList2]; omega)
      have hgl : (st.extract 0 n).data.toList.length = n := by rw [hg, List.length_take, size_toList2]; omega
      have hgd : DigL (st.extract 0 n).data.toList := by rw [hg]; exact fun x hx => HF.out.1 x (List.mem_of_mem_take hx)
      have hrd : DigL (st.extract n st.size).data.toList := by rw [hgr]; exact fun x hx => HF.out.1 x (List.mem_of_mem_drop hx)
      have hrs : (st.extract n st.size).size = st.size - n := by rw [← size_toList2, hgr, List.length_drop, size_toList2]
      have PU := parse_calls (st.extract 0 n) (by rw [← size_toList2, hgl]; omega) (by intro e; rw [e] at hgl; simp at hgl; omega) hgd
      have hpl := numD_lt _ hgd
      rw [hgl] at hpl
      have htot : numD st.data.toList = numD (st.extract 0 n).data.toList * 10 ^ (st.size - n) + numD (st.extract n st.size).data.toList := by
        rw [hg, hgr]
        conv => lhs; rw [← List.take_append_drop n st.data.toList]
        rw [numD_append, List.length_drop, size_toList2]
      obtain ⟨p, hp⟩ : ∃ p, numD (st.extract 0 n).data.toList = p := ⟨_, rfl⟩
      rw [hp] at PU hpl htot
      have hp9 : p < 1000000000 := Nat.lt_of_lt_of_le hpl (Nat.pow_le_pow_right (by decide) hn9)
      have hv9 : v < (10 ^ 103) ^ 3 := by
        have h1 := HF.out.2.2.1
        have h2 := HT9.out
        have h3 : 1 ≤ 10 ^ st.size := Nat.pos_of_ne_zero (by simp)
        have h4 : v * 1 ≤ v * 10 ^ st.size := Nat.mul_le_mul_left _ h3
        exact Nat.lt_of_le_of_lt (show v ≤ T by rw [← h1]; omega) h2
      have OF1 : ∀ W, Calls Tryz.prog 30 #[.int .u64 1000000000] W fun e w' => ∃ A c, ∃ q : List Int, e = .returned (.slice A q.length c) ∧ q = digB 4294967296 1000000000 ∧ q.length ≤ c ∧ Kd.C (Kd.int .u32) w' A q.length q ∧ Below W.heap.size W w' := fun W => of2_calls 1000000000 (by decide) W
      have OF2 := fun W => of2_calls p (by omega) W
      have HP9 := Aside0.mk hp9
      have HV9 := Aside0.mk hv9
      have HTOT := Aside0.mk htot
      have HN := Aside0.mk (And.intro hnn (And.intro hn (And.intro hn9 hn1)))
      have HREST := Aside0.mk (And.intro hrd hrs)
      have HH0 := Aside0.mk h0
      have HC := Aside0.mk (Kd.rR9 HRR.out)
      clear hnn hn hn9 hn1 hg hgr hgl hgd hpl htot hp hp9 hv9 hk hrd hrs
      go_wp2_with (first | (go_at_call 65; refine (PU _).mono ?_; rintro e w1 ⟨rfl, hb1⟩; have B1 := Aside0.mk hb1; clear hb1) | (go_at_call 30; (with_reducible refine (OF1 _).mono ?_); rintro e w2 ⟨A2, c2, q2, rfl, hq2, hc2, hr2, hb2⟩; have Q2 := Aside0.mk (And.intro hq2 (And.intro hc2 hr2)); have B2 := Aside0.mk (B1.out.trans (hb2.mono B1.out.size)); clear hq2 hc2 hr2 hb2) | (go_at_call 33; refine (mul2_calls A c xs A2 c2 q2 v 1000000000 w2 (Kd.cB9 HC.out.2.2 B2.out) HC.out.2.1 Q2.out.2.2 Q2.out.2.1 HF.out.2.1 Q2.out.1 (by have := HV9.out; exact lt_310 this) lt_e9).mono ?_; rintro e w3 ⟨A3, c3, q3, rfl, hq3, hc3, hr3, hb3⟩; have Q3 := Aside0.mk (And.intro hq3 (And.intro hc3 hr3)); have B3 := Aside0.mk (B2.out.trans (hb3.mono B2.out.size)); clear hq3 hc3 hr3 hb3) | (go_at_call 30; (with_reducible refine (OF2 _).mono ?_); rintro e w4 ⟨A4, c4, q4, rfl, hq4, hc4, hr4, hb4⟩; have Q4 := Aside0.mk (And.intro hq4 (And.intro hc4 hr4)); have B4 := Aside0.mk (B3.out.trans (hb4.mono B3.out.size)); have B34 := Aside0.mk hb4; clear hq4 hc4 hr4 hb4) | (go_at_call 29; refine (add2_calls A3 c3 q3 A4 c4 q4 (v * 1000000000) p w4 (Kd.cB9 Q3.out.2.2 B34.out) Q3.out.2.1 Q4.out.2.2 Q4.out.2.1 Q3.out.1 Q4.out.1 (by have := HV9.out; exact lt_add9 this) (by have := HP9.out; exact lt_p9 this)).mono ?_; rintro e w5 ⟨A5, c5, q5, rfl, hq5, hc5, hr5, hb5⟩; have Q5 := Aside0.mk (And.intro hq5 (And.intro hc5 hr5)); have B5 := Aside0.mk (B4.out.trans (hb5.mono B4.out.size)); clear hq5 hc5 hr5 hb5) | (go_at_call 30; apply Classical.byContradiction; intro DBG) | (go_at_call 33; apply Classical.byContradiction; intro DBG) | (go_at_call 29; apply Classical.byContradiction; intro DBG) | (go_at_call 65; apply Classical.byContradiction; intro DBG))
      have hsd : wr.heap.size ≤ w4.heap.size := B4.out.size
      cases gk with
      | zero => exact absurd HK.out.1 (Nat.not_lt_zero _)
      | succ k1 =>
        go_roundg k1
        case measure => omega
        case rel =>
          have h1 := HN.out
          have h2 := HREST.out
          have h3 := HK.out
          refine ⟨_, A5, c5, q5, v * 1000000000 + p, rfl, rfl, ⟨by omega, by omega⟩, ⟨h2.1, Q5.out.1, ?_, .inr (by omega)⟩, ⟨Kd.rL9 Q5.out.2.2 (Nat.le_trans HB.out.size hsd)⟩, ⟨HB.out.trans (B5.out.mono HB.out.size)⟩⟩
          have h4 := HF.out.2.2.1
          have h5 := HTOT.out
          rw [h2.2]
          rw [h5] at h4
          rw [← h4, Nat.add_mul, ← Nat.add_assoc]
          congr 2
          rcases HF.out.2.2.2 with e | e
          · rw [e]; simp
          · have hn9 : n = 9 := by omega
            rw [hn9, Nat.mul_assoc]
            congr 1
            rw [show (1000000000 : Nat) = 10 ^ 9 from rfl, ← Nat.pow_add]
            congr 1
            omega
    · have c1 : decide (0 < (st.size : Int)) = false := decide_eq_false (by omega)
      have hz : st.size = 0 := by omega
      have hvT : v = T := by
        have h := HF.out.2.2.1
        have e : st.data.toList = [] := List.eq_nil_of_length_eq_zero (by rw [size_toList2]; exact hz)
        rw [hz, e] at h
        simpa [numD] using h
      have hxs := HF.out.2.1
      rw [hvT] at hxs
      have HX := Aside0.mk hxs
      clear hxs hvT
      by_cases hbig : T < 4294967296 ^ 32
      · have hl : xs.length ≤ 32 := by rw [HX.out]; exact digB_len (by decide) hbig
        have c2 : decide (32 < (xs.length : Int)) = false := decide_eq_false (by omega)
        have hr := HR.out
        rw [if_pos hbig] at hr
        obtain ⟨rfl, rfl⟩ := Prod.mk.inj hr
        clear hr
        go_wp2
        go_ret2
        exact ⟨_, rfl, by rw [← HX.out]; exact HRR.out, HB.out⟩
      · have hl : 32 < xs.length := by rw [HX.out]; exact digB_len_ge (by decide) (Nat.le_of_not_lt hbig)
        have c2 : decide (32 < (xs.length : Int)) = true := decide_eq_true (by omega)
        have hr := HR.out
        rw [if_neg hbig] at hr
        obtain ⟨rfl, rfl⟩ := Prod.mk.inj hr
        clear hr
        go_wp2
        go_ret2
        exact ⟨_, rfl, Kd.R_nil _ _ _ _ _, HB.out⟩
set_option maxRecDepth 100000 in
set_option maxHeartbeats 4000000 in
theorem digits_read.calls (a0 : ByteArray) (r1 : List Int) (r2 : Int) (w : World) (h : digits_read.f a0 = some (r1, r2)) :
    Calls Tryz.prog 35 #[.string a0] w fun e w' => ∃ v0_ : Value, e = .returned (.tuple #[v0_, .int .i64 r2]) ∧ Kd.R (Kd.int .u32) 56 w' w.heap.size (fun _ => True) v0_ r1 ∧ Below w.heap.size w w' := by
  unfold digits_read.f at h
  by_cases hn : natB a0.data.toList = true
  · rw [if_pos hn] at h
    by_cases hs : 309 < a0.size
    · rw [if_pos hs] at h
      obtain ⟨rfl, rfl⟩ := Prod.mk.inj (Option.some.inj h)
      have c0 : decide (309 < (a0.size : Int)) = true := decide_eq_true (by omega)
      clear h hn
      go_enter Tryz.func35, Tryz.ntmps35
      go_wp2
      go_ret2
      exact ⟨_, rfl, Kd.R_nil _ _ _ _ _, Below.refl _ _⟩
    · rw [if_neg hs] at h
      refine read_calls a0 (natB_iff.1 hn).2.1 (by omega) r1 r2 ?_ w
      by_cases hb : numD a0.data.toList < 4294967296 ^ 32
      · rw [if_pos hb] at h ⊢
        exact Option.some.inj h
      · rw [if_neg hb] at h ⊢
        exact Option.some.inj h
  · rw [if_neg hn] at h; cases h
end Go.Proofs.YthppjdmkinbccaaGreatDoor.Print

namespace Go.Proofs
open Go.RowKit Go.Shelf
shelf_lay Lays.n219 Nm 219 at Tryz as Tryz.layIndexLite
shelf_lay Lays.n103 Nm 103 at Tryz as Tryz.layCutPrefix
end Go.Proofs
namespace Go.Proofs.YthppjdmkinbccaaGreatDoor.Print
open Go.RowKit Go.Shelf Go.Proofs.YthppjdmkinbccaaGreatDoorW.PrintWords Go.Proofs.YthppjdmkinbccaaGreatDoorW.PrintLast
set_option linter.unusedVariables false
set_option linter.unusedSimpArgs false
theorem indexByte_lt (l : List UInt8) (c : UInt8) : Lib.indexByte l c < (l.length : Int) := by
  induction l with
  | nil => show (-1 : Int) < 0; decide
  | cons b l ih =>
    unfold Lib.indexByte
    split
    · simp only [List.length_cons]; omega
    · split
      · simp only [List.length_cons]; omega
      · simp only [List.length_cons]; omega
def slAt (s : ByteArray) : Int := Lib.indexByte s.data.toList 47
theorem slAt_lt (s : ByteArray) : slAt s < (s.size : Int) := by
  have := indexByte_lt s.data.toList 47
  have e : s.data.toList.length = s.size := by cases s; rfl
  rw [e] at this; exact this
def cutSL (s : ByteArray) : ByteArray × ByteArray × Bool := if 0 ≤ slAt s then (s.extract 0 (slAt s).toNat, s.extract ((slAt s).toNat + 1) s.size, true) else (s, ⟨#[]⟩, false)
set_option maxRecDepth 100000 in
set_option maxHeartbeats 2000000 in
theorem cutlite_calls (s : ByteArray) (hs : s.size ≤ 140737488351232) (w : World) :
    Calls Tryz.prog 71 #[.string s, .string ⟨#[47]⟩] w fun e w' => e = .returned (.tuple #[.string (cutSL s).1, .string (cutSL s).2.1, .bool (cutSL s).2.2]) ∧ Drawn0 w w' := by
  by_cases h : 0 ≤ slAt s
  · obtain ⟨i, hi⟩ : ∃ i : Nat, slAt s = (i : Int) := ⟨(slAt s).toNat, by omega⟩
    have hlt := slAt_lt s
    rw [show cutSL s = (s.extract 0 (slAt s).toNat, s.extract ((slAt s).toNat + 1) s.size, true) from if_pos h, hi]
    have c1 : (0 : Int) ≤ ↑i := by omega
    have c2 : (↑i : Int) ≤ ↑s.size := by omega
    have c3 : (0 : Int) ≤ ↑i + 1 := by omega
    have c4 : (↑i + 1 : Int) ≤ ↑s.size := by omega
    have c5 : IntKind.i64.wrap ((i : Int) + 1) = (i : Int) + 1 := by rw [i64_w]; unfold wrap64; omega
    have mixed : Tryz.prog.follows .mixedOrders = true := by kernel_rfl
    have hI := fun w => Any.stringslite_Index_one Tryz.layIndexLite s 47 w
    rw [show Lib.indexByte s.data.toList 47 = (i : Int) from hi] at hI
    go_enter Tryz.func71, Tryz.ntmps71
    go_wp2_with (go_at_call 98; refine (hI _).mono ?_; rintro e w' ⟨rfl, rfl⟩)
    go_region_o
    go_wp2
    go_ret3
    exact ⟨rfl, 1, rfl⟩
  · rw [show cutSL s = (s, ⟨#[]⟩, false) from if_neg h]
    have hd : decide (0 ≤ slAt s) = false := decide_eq_false h
    have hI := fun w => Any.stringslite_Index_one Tryz.layIndexLite s 47 w
    rw [show Lib.indexByte s.data.toList 47 = slAt s from rfl] at hI
    generalize slAt s = i at hd hI
    go_enter Tryz.func71, Tryz.ntmps71
    go_wp2_with (go_at_call 98; refine (hI _).mono ?_; rintro e w' ⟨rfl, rfl⟩)
    go_ret3
    exact ⟨rfl, 0, rfl⟩
def strings_Cut.f (a0 a1 : ByteArray) : Option (ByteArray × ByteArray × Bool) := if a1 = ⟨#[47]⟩ ∧ a0.size ≤ 140737488351232 then some (cutSL a0) else none
set_option maxRecDepth 100000 in
theorem strings_Cut.calls (a0 a1 : ByteArray) (r1 r2 : ByteArray) (r3 : Bool) (w : World) (h : strings_Cut.f a0 a1 = some (r1, r2, r3)) :
    Calls Tryz.prog 42 #[.string a0, .string a1] w fun e w' => e = .returned (.tuple #[.string r1, .string r2, .bool r3]) ∧ Drawn0 w w' := by
  unfold strings_Cut.f at h
  by_cases ha : a1 = ⟨#[47]⟩ ∧ a0.size ≤ 140737488351232
  · rw [if_pos ha] at h
    obtain ⟨rfl, hs⟩ := ha
    have h := Option.some.inj h
    have hC := cutlite_calls a0 hs
    rw [h] at hC
    go_enter Tryz.func42, Tryz.ntmps42
    go_wp2_with (go_at_call 71; refine (hC _).mono ?_; rintro e w' ⟨rfl, ⟨n, rfl⟩⟩)
    go_ret3
    exact ⟨rfl, n, rfl⟩
  · rw [if_neg ha] at h; cases h
def strings_CutPrefix.f (a0 a1 : ByteArray) : Option (ByteArray × Bool) := some (⟨(Lib.trimPrefix a0.data.toList a1.data.toList).toArray⟩, Lib.hasPrefix a0.data.toList a1.data.toList)
theorem strings_CutPrefix.calls (a0 a1 : ByteArray) (r1 : ByteArray) (r2 : Bool) (w : World) (h : strings_CutPrefix.f a0 a1 = some (r1, r2)) :
    Calls Tryz.prog 41 #[.string a0, .string a1] w fun e w' => e = .returned (.tuple #[.string r1, .bool r2]) ∧ Drawn0 w w' := by
  unfold strings_CutPrefix.f at h
  have h := Option.some.inj h
  obtain ⟨rfl, rfl⟩ := Prod.mk.inj h
  exact (Any.strings_CutPrefix Tryz.layCutPrefix a0 a1 w).mono fun e w' ⟨he, hw⟩ => ⟨he, 0, by rw [hw]; rfl⟩
end Go.Proofs.YthppjdmkinbccaaGreatDoor.Print
