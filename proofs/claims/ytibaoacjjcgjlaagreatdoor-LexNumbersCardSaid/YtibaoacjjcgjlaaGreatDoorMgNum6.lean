/- Written by wip/tools/claimtexts.py: these texts, one behind another, without what this claim does not use: C1, HMake, D1, HNatural, HRead, HStr. -/
import Derived.Test.YtibaoacjjcgjlaaGreatDoorMgNum2
import Derived.Test.YtibaoacjjcgjlaaGreatDoorMgNum5
import Derived.Test.YtibaoacjjcgjlaaGreatDoorMgNum4
import Derived.Ground.NamesProg
import Derived.Ground.GgwProg
import Derived.Shelf.Lay
import Derived.Laws.RangeString
import Derived.Laws.RangeAny
import Derived.Shelf.GgClosure.StringsIndexFuncTop
import Derived.Ground.MpProg
import Derived.Lib.AtoiErrMem
import Derived.Shelf.Pu.ParseUintPublic10
import Derived.Shelf.Strings.Search3
import Derived.Shelf.Small.Wraps
import Derived.Laws.Strings3
namespace Go.Proofs.YtibaoacjjcgjlaaGreatDoor.Print
open Go.RowKit Go.Proofs.YtibaoacjjcgjlaaGreatDoorW.PrintWords Go.Proofs.YtibaoacjjcgjlaaGreatDoorW.PrintLast Go.Proofs.YtibaoacjjcgjlaaGreatDoorW.PrintMore
attribute [local go_sem] max2_int min2_int max_two min_two max_three min_three max_four min_four   -- for this text's walks alone
set_option linter.unusedVariables false
set_option linter.unusedSimpArgs false
def quo_Gcd.l0 : Nat → List Int → List Int → Option (List Int)
 | 0, _, _ => none
 | k + 1, x0, x1 => if (x1.length : Int) > 0 then ((quo_DivMod.f x0 x1).bind fun bt107 => (quo_Gcd.l0 k x1 bt107.2.1)) else (some x0)
def quo_Gcd.f (k : Nat) (l0 : List Int) (l1 : List Int) : Option (List Int) := (nat_Trim.f l0).bind fun t101 => ((nat_Trim.f l1).bind fun t104 => (quo_Gcd.l0 k t101 t104))
set_option maxHeartbeats 8000000 in
set_option maxRecDepth 100000 in
theorem quo_Gcd.calls (k : Nat) (A0 : Option Addr) (c0 : Nat) (l0 : List Int) (A1 : Option Addr) (c1 : Nat) (l1 : List Int) (r : List Int) (w : World) (hr0 : Kd.C (Kd.int .u32) w A0 l0.length l0) (hc0 : l0.length ≤ c0) (hr1 : Kd.C (Kd.int .u32) w A1 l1.length l1) (hc1 : l1.length ≤ c1) (h : quo_Gcd.f k l0 l1 = some r) :
  Calls Tryz.prog 89 #[.slice A0 l0.length c0, .slice A1 l1.length c1] w fun e w' => ∃ v0_ : Value, e = .returned (v0_) ∧ Kd.R (Kd.int .u32) 88 w' w.heap.size (fun _ => True) v0_ r ∧ Below w.heap.size w w' := by
 have HR0 := Aside0.mk hr0
 have HC0 := Aside0.mk hc0
 clear hr0 hc0
 have HR1 := Aside0.mk hr1
 have HC1 := Aside0.mk hc1
 clear hr1 hc1
 have HB := Aside0.mk (Below.refl w.heap.size w)
 have H : ((nat_Trim.f l0).bind fun t101 => ((nat_Trim.f l1).bind fun t104 => (quo_Gcd.l0 k t101 t104))) = some r := h
 clear h
 replace H := Option.bind_eq_some_iff.mp H
 obtain ⟨t101, A30, H⟩ := H
 (try dsimp only at H)
 have A3 := Aside0.mk A30
 clear A30
 replace H := Option.bind_eq_some_iff.mp H
 obtain ⟨t104, A40, H⟩ := H
 replace H : (quo_Gcd.l0 k t101 t104) = some r := H
 have A4 := Aside0.mk A40
 clear A40
 have H' := Aside0.mk H
 clear H
 go_enter Tryz.func89, Tryz.ntmps89
 go_wp2_with (first | ((with_reducible refine gC9 (f := 56) rfl ?_); refine goesL_ (some 9) rfl rfl Tryz.func56 (by kernel_rfl) rfl #[.slice A0 l0.length c0] rfl (by (try simp only [List.map_toArray, List.map_cons, List.map_nil]); first | done | rfl | (simp only [List.length_drop, List.length_take]; rfl)) ?_; (with_reducible refine (nat_Trim.calls _ _ l0 t101 _ ?side1 ?side2 A3.out).mono ?_); (case side1 => repeat (first | exact HR0.out | (with_reducible refine Kd.cA9 ?_ _) | (with_reducible refine Kd.cN9 ?_ _) | (with_reducible refine Kd.cD9 ?_))); (case side2 => exact HC0.out); rintro e w5 ⟨v102, rfl, ho0, hb⟩; refine ⟨_, rfl, ?_⟩; have n0_ := Aside0.mk (Kd.rL9 ho0 (bZ9 (by repeat (first | (with_reducible first | exact HB.out | apply bA9 | apply bN9 | apply bD9) | exact HB.out)))); have n1_ := Aside0.mk (bT9 (by repeat (first | (with_reducible first | exact HB.out | apply bA9 | apply bN9 | apply bD9) | exact HB.out)) hb); clear HB; have HO103 := n0_; have HB := n1_; clear n0_ n1_; (try clear hb); (try clear hb2); (try clear hk); (try clear hi); (try clear ho0)) | ((with_reducible refine gC9 (f := 56) rfl ?_); refine goesL_ (some 11) rfl rfl Tryz.func56 (by kernel_rfl) rfl #[.slice A1 l1.length c1] rfl (by (try simp only [List.map_toArray, List.map_cons, List.map_nil]); first | done | rfl | (simp only [List.length_drop, List.length_take]; rfl)) ?_; (with_reducible refine (nat_Trim.calls _ _ l1 t104 _ ?side1 ?side2 A4.out).mono ?_); (case side1 => repeat (first | exact (Kd.cB9 HR1.out HB.out) | (with_reducible refine Kd.cA9 ?_ _) | (with_reducible refine Kd.cN9 ?_ _) | (with_reducible refine Kd.cD9 ?_))); (case side2 => exact HC1.out); rintro e w6 ⟨v105, rfl, ho0, hb⟩; refine ⟨_, rfl, ?_⟩; have n0_ := Aside0.mk (Kd.R_elder' (by (with_reducible repeat (first | apply Kd.rA9 | apply Kd.rN9 | apply Kd.rD9)); exact HO103.out) (Kd.R_base ho0) hb); have n1_ := Aside0.mk (Kd.rL9 (Kd.R_new' ho0 (Kd.R_lt (by (with_reducible repeat (first | apply Kd.rA9 | apply Kd.rN9 | apply Kd.rD9)); exact HO103.out))) (bZ9 (by repeat (first | (with_reducible first | exact HB.out | apply bA9 | apply bN9 | apply bD9) | exact HB.out)))); have n2_ := Aside0.mk (bT9 (by repeat (first | (with_reducible first | exact HB.out | apply bA9 | apply bN9 | apply bD9) | exact HB.out)) hb); clear HO103; clear HB; have HO103 := n0_; have HO106 := n1_; have HB := n2_; clear n0_ n1_ n2_; (try clear hb); (try clear hb2); (try clear hk); (try clear hi); (try clear ho0)))
 go_loopg [0, 1] k (fun kq v0 v1 w' => ∃ (x0_1 : List Int) (x1_1 : List Int), Aside0 (quo_Gcd.l0 kq x0_1 x1_1 = some r) ∧ Aside0 (kq ≤ k) ∧ Aside0 (Kd.R (Kd.int .u32) 88 w' w.heap.size (fun k_ => some k_ ≠ (v1 : Value).ownBlock) v0 x0_1) ∧ Aside0 (Kd.R (Kd.int .u32) 88 w' w.heap.size (fun k_ => some k_ ≠ (v0 : Value).ownBlock) v1 x1_1) ∧ Aside0 (Below w.heap.size w w'))
 case atStart => exact ⟨(t101), (t104), H', ⟨Nat.le_refl _⟩, ⟨by (with_reducible repeat (first | apply Kd.rA9 | apply Kd.rN9 | apply Kd.rD9)); exact Kd.R_mono HO103.out (fun _ hk => hk.2)⟩, ⟨by (with_reducible repeat (first | apply Kd.rA9 | apply Kd.rN9 | apply Kd.rD9)); exact Kd.R_mono HO106.out (fun _ hk => hk.2)⟩, ⟨by repeat (first | (with_reducible first | exact HB.out | apply bA9 | apply bN9 | apply bD9) | exact HB.out)⟩⟩
 case round =>
  clear H'
  try clear c1
  try clear p2
  try clear c5
  obtain ⟨x0_1, x1_1, HA, HK1, HO_0, HO_1, HB⟩ := hrel
  cases gk with
  | zero => exact absurd HA.out (by simp [quo_Gcd.l0])
  | succ k1 =>
   have H := HA.out
   clear HA
   simp only [quo_Gcd.l0] at H
   by_cases c7 : (x1_1.length : Int) > 0
   ·rw [if_pos c7] at H
    have c7b0 : decide (0 < (x1_1.length : Int)) = true := decide_eq_true c7
    have c7b1 : decide (0 < x1_1.length) = true := decide_eq_true (by omega)
    clear c7
    replace H := Option.bind_eq_some_iff.mp H
    obtain ⟨⟨t107, t108, t109⟩, A80, H⟩ := H
    replace H : (quo_Gcd.l0 k1 x1_1 t108) = some r := H
    have A8 := Aside0.mk A80
    clear A80
    have H' := Aside0.mk H
    clear H
    obtain ⟨Ao9, co9, eo9⟩ := Kd.rS9 HO_1.out
    subst eo9
    obtain ⟨Ao10, co10, eo10⟩ := Kd.rS9 HO_0.out
    subst eo10
    go_wp2_with (first | ((with_reducible refine gC9 (f := 118) rfl ?_); refine goesL_ (some 18) rfl rfl Tryz.func118 (by kernel_rfl) rfl #[.slice Ao10 x0_1.length co10, .slice Ao9 x1_1.length co9] rfl (by (try simp only [List.map_toArray, List.map_cons, List.map_nil]); first | done | rfl | (simp only [List.length_drop, List.length_take]; rfl)) ?_; (with_reducible refine (quo_DivMod.calls _ _ x0_1 _ _ x1_1 t107 t108 t109 _ ?side1 ?side2 ?side3 ?side4 A8.out).mono ?_); (case side1 => repeat (first | exact (Kd.rR9 HO_0.out).2.2 | (with_reducible refine Kd.cA9 ?_ _) | (with_reducible refine Kd.cN9 ?_ _) | (with_reducible refine Kd.cD9 ?_))); (case side2 => exact (Kd.rR9 HO_0.out).2.1); (case side3 => repeat (first | exact (Kd.rR9 HO_1.out).2.2 | (with_reducible refine Kd.cA9 ?_ _) | (with_reducible refine Kd.cN9 ?_ _) | (with_reducible refine Kd.cD9 ?_))); (case side4 => exact (Kd.rR9 HO_1.out).2.1); rintro e w11 ⟨v110, v112, rfl, ho0, ho1, hb⟩; refine ⟨_, rfl, ?_⟩; have n0_ := Aside0.mk (Kd.R_mono (Kd.R_told (Kd.R_told (Kd.R_old (by (with_reducible repeat (first | apply Kd.rA9 | apply Kd.rN9 | apply Kd.rD9)); exact HO_0.out) hb) (Kd.R_base ho0)) (Kd.R_base ho1)) (fun _ h_ => h_.1)); have n1_ := Aside0.mk (Kd.R_mono (Kd.R_told (Kd.R_told (Kd.R_old (by (with_reducible repeat (first | apply Kd.rA9 | apply Kd.rN9 | apply Kd.rD9)); exact HO_1.out) hb) (Kd.R_base ho0)) (Kd.R_base ho1)) (fun _ h_ => h_.1)); have n2_ := Aside0.mk (Kd.rL9 (Kd.R_new' (Kd.R_new' ho0 (Kd.R_lt (by (with_reducible repeat (first | apply Kd.rA9 | apply Kd.rN9 | apply Kd.rD9)); exact HO_0.out))) (Kd.R_lt (by (with_reducible repeat (first | apply Kd.rA9 | apply Kd.rN9 | apply Kd.rD9)); exact HO_1.out))) (bZ9 (by repeat (first | (with_reducible first | exact HB.out | apply bA9 | apply bN9 | apply bD9) | exact HB.out)))); have n3_ := Aside0.mk (Kd.rL9 (Kd.R_new' (Kd.R_new' ho1 (Kd.R_lt (by (with_reducible repeat (first | apply Kd.rA9 | apply Kd.rN9 | apply Kd.rD9)); exact HO_0.out))) (Kd.R_lt (by (with_reducible repeat (first | apply Kd.rA9 | apply Kd.rN9 | apply Kd.rD9)); exact HO_1.out))) (bZ9 (by repeat (first | (with_reducible first | exact HB.out | apply bA9 | apply bN9 | apply bD9) | exact HB.out)))); have n4_ := Aside0.mk (bT9 (by repeat (first | (with_reducible first | exact HB.out | apply bA9 | apply bN9 | apply bD9) | exact HB.out)) hb); clear HO_0; clear HO_1; clear HB; have HO_0 := n0_; have HO_1 := n1_; have HO111 := n2_; have HO113 := n3_; have HB := n4_; clear n0_ n1_ n2_ n3_ n4_; (try clear hb); (try clear hb2); (try clear hk); (try clear hi); (try clear ho0); (try clear ho1)))
    go_roundg k1
    case measure => have := HK1.out; omega
    case rel => exact ⟨(x1_1), (t108), H', ⟨by have := HK1.out; omega⟩, ⟨by (with_reducible repeat (first | apply Kd.rA9 | apply Kd.rN9 | apply Kd.rD9)); exact Kd.R_mono HO_1.out (fun _ hk => hk.2)⟩, ⟨by (with_reducible repeat (first | apply Kd.rA9 | apply Kd.rN9 | apply Kd.rD9)); exact Kd.R_mono HO113.out (fun _ hk => hk.2)⟩, ⟨by repeat (first | (with_reducible first | exact HB.out | apply bA9 | apply bN9 | apply bD9) | exact HB.out)⟩⟩
   ·rw [if_neg c7] at H
    have c7b0 : decide (0 < (x1_1.length : Int)) = false := decide_eq_false c7
    have c7b1 : decide (0 < x1_1.length) = false := decide_eq_false (by omega)
    clear c7
    obtain rfl := Option.some.inj H
    obtain ⟨Ao12, co12, eo12⟩ := Kd.rS9 HO_1.out
    subst eo12
    go_wp2
    go_ret
    exact ⟨_, by first | rfl | (simp [eN9, eS9] <;> rfl) | (simp [*, eN9, eS9] <;> rfl), by (with_reducible repeat (first | apply Kd.rA9 | apply Kd.rN9 | apply Kd.rD9)); exact Kd.R_mono HO_0.out (fun _ hk => trivial), by repeat (first | (with_reducible first | exact HB.out | apply bA9 | apply bN9 | apply bD9) | exact HB.out)⟩
def rat_by.f (l0 : List Int) (l1 : List Int) : Option (List Int) := (quo_DivMod.f l0 l1).bind fun bt114 => (some bt114.1)
set_option maxHeartbeats 8000000 in
set_option maxRecDepth 100000 in
theorem rat_by.calls (A0 : Option Addr) (c0 : Nat) (l0 : List Int) (A1 : Option Addr) (c1 : Nat) (l1 : List Int) (r : List Int) (w : World) (hr0 : Kd.C (Kd.int .u32) w A0 l0.length l0) (hc0 : l0.length ≤ c0) (hr1 : Kd.C (Kd.int .u32) w A1 l1.length l1) (hc1 : l1.length ≤ c1) (h : rat_by.f l0 l1 = some r) :
  Calls Tryz.prog 91 #[.slice A0 l0.length c0, .slice A1 l1.length c1] w fun e w' => ∃ v0_ : Value, e = .returned (v0_) ∧ Kd.R (Kd.int .u32) 88 w' w.heap.size (fun _ => True) v0_ r ∧ Below w.heap.size w w' := by
 have HR0 := Aside0.mk hr0
 have HC0 := Aside0.mk hc0
 clear hr0 hc0
 have HR1 := Aside0.mk hr1
 have HC1 := Aside0.mk hc1
 clear hr1 hc1
 have HB := Aside0.mk (Below.refl w.heap.size w)
 have H : ((quo_DivMod.f l0 l1).bind fun bt114 => (some bt114.1)) = some r := h
 clear h
 replace H := Option.bind_eq_some_iff.mp H
 obtain ⟨⟨t114, t115, t116⟩, A30, H⟩ := H
 replace H : (some t114) = some r := H
 have A3 := Aside0.mk A30
 clear A30
 obtain rfl := Option.some.inj H
 go_enter Tryz.func91, Tryz.ntmps91
 go_wp2_with (first | ((with_reducible refine gC9 (f := 118) rfl ?_); refine goesL_ (some 11) rfl rfl Tryz.func118 (by kernel_rfl) rfl #[.slice A0 l0.length c0, .slice A1 l1.length c1] rfl (by (try simp only [List.map_toArray, List.map_cons, List.map_nil]); first | done | rfl | (simp only [List.length_drop, List.length_take]; rfl)) ?_; (with_reducible refine (quo_DivMod.calls _ _ l0 _ _ l1 t114 t115 t116 _ ?side1 ?side2 ?side3 ?side4 A3.out).mono ?_); (case side1 => repeat (first | exact HR0.out | (with_reducible refine Kd.cA9 ?_ _) | (with_reducible refine Kd.cN9 ?_ _) | (with_reducible refine Kd.cD9 ?_))); (case side2 => exact HC0.out); (case side3 => repeat (first | exact HR1.out | (with_reducible refine Kd.cA9 ?_ _) | (with_reducible refine Kd.cN9 ?_ _) | (with_reducible refine Kd.cD9 ?_))); (case side4 => exact HC1.out); rintro e w4 ⟨v117, v119, rfl, ho0, ho1, hb⟩; refine ⟨_, rfl, ?_⟩; have n0_ := Aside0.mk (Kd.rL9 ho0 (bZ9 (by repeat (first | (with_reducible first | exact HB.out | apply bA9 | apply bN9 | apply bD9) | exact HB.out)))); have n1_ := Aside0.mk (Kd.rL9 ho1 (bZ9 (by repeat (first | (with_reducible first | exact HB.out | apply bA9 | apply bN9 | apply bD9) | exact HB.out)))); have n2_ := Aside0.mk (bT9 (by repeat (first | (with_reducible first | exact HB.out | apply bA9 | apply bN9 | apply bD9) | exact HB.out)) hb); clear HB; have HO118 := n0_; have HO120 := n1_; have HB := n2_; clear n0_ n1_ n2_; (try clear hb); (try clear hb2); (try clear hk); (try clear hi); (try clear ho0); (try clear ho1)))
 go_ret
 exact ⟨_, by first | rfl | (simp [eN9, eS9] <;> rfl) | (simp [*, eN9, eS9] <;> rfl), by (with_reducible repeat (first | apply Kd.rA9 | apply Kd.rN9 | apply Kd.rD9)); exact Kd.R_mono HO118.out (fun _ hk => trivial), by repeat (first | (with_reducible first | exact HB.out | apply bA9 | apply bN9 | apply bD9) | exact HB.out)⟩
def rat_one.f  : Option (List Int) := (nat_Of.f 1).bind fun t121 => (some t121)
set_option maxHeartbeats 8000000 in
set_option maxRecDepth 100000 in
theorem rat_one.calls  (r : List Int) (w : World) (h : rat_one.f  = some r) :
  Calls Tryz.prog 55 #[] w fun e w' => ∃ v0_ : Value, e = .returned (v0_) ∧ Kd.R (Kd.int .u32) 88 w' w.heap.size (fun _ => True) v0_ r ∧ Below w.heap.size w w' := by
 have HB := Aside0.mk (Below.refl w.heap.size w)
 have H : ((nat_Of.f 1).bind fun t121 => (some t121)) = some r := h
 clear h
 replace H := Option.bind_eq_some_iff.mp H
 obtain ⟨t121, A10, H⟩ := H
 replace H : (some t121) = some r := H
 have A1 := Aside0.mk A10
 clear A10
 obtain rfl := Option.some.inj H
 go_enter Tryz.func55, Tryz.ntmps55
 go_wp2_with (first | ((with_reducible refine gC9 (f := 34) rfl ?_); refine goesL_ (some 1) rfl rfl Tryz.func34 (by kernel_rfl) rfl #[.int .u64 1] rfl (by (try simp only [List.map_toArray, List.map_cons, List.map_nil]); first | done | rfl | (simp only [List.length_drop, List.length_take]; rfl)) ?_; (with_reducible refine (nat_Of.calls 1 t121 _ A1.out).mono ?_); rintro e w2 ⟨v122, rfl, ho0, hb⟩; refine ⟨_, rfl, ?_⟩; have n0_ := Aside0.mk (Kd.rL9 ho0 (bZ9 (by repeat (first | (with_reducible first | exact HB.out | apply bA9 | apply bN9 | apply bD9) | exact HB.out)))); have n1_ := Aside0.mk (bT9 (by repeat (first | (with_reducible first | exact HB.out | apply bA9 | apply bN9 | apply bD9) | exact HB.out)) hb); clear HB; have HO123 := n0_; have HB := n1_; clear n0_ n1_; (try clear hb); (try clear hb2); (try clear hk); (try clear hi); (try clear ho0)))
 go_ret
 exact ⟨_, by first | rfl | (simp [eN9, eS9] <;> rfl) | (simp [*, eN9, eS9] <;> rfl), by (with_reducible repeat (first | apply Kd.rA9 | apply Kd.rN9 | apply Kd.rD9)); exact HO123.out, by repeat (first | (with_reducible first | exact HB.out | apply bA9 | apply bN9 | apply bD9) | exact HB.out)⟩
end Go.Proofs.YtibaoacjjcgjlaaGreatDoor.Print

namespace Go.Proofs
open Go.RowKit Go.Shelf
shelf_lay Lays.n128 Nm 128 at Tryz as Tryz.layLen32
end Go.Proofs
namespace Go.Proofs.YtibaoacjjcgjlaaGreatDoor.Print
open Go.RowKit Go.Proofs.YtibaoacjjcgjlaaGreatDoorW.PrintWords Go.Proofs.YtibaoacjjcgjlaaGreatDoorW.PrintLast Go.Proofs.YtibaoacjjcgjlaaGreatDoorW.PrintMore Go.Proofs.YtibaoacjjcgjlaaGreatDoor.Base
set_option linter.unusedVariables false
set_option linter.unusedSimpArgs false
set_option linter.unusedSectionVars false
def bitsL (l : List Int) : Int := if (trimL l).length = 0 then 0 else 32 * (((trimL l).length : Int) - 1) + (Lib.bitLen (limbN l ((trimL l).length - 1)) : Int)
theorem bitLen_pos {x : Nat} (h : 1 ≤ x) (h2 : x < 4294967296) : 1 ≤ Lib.bitLen x := by
  rcases Nat.eq_zero_or_pos (Lib.bitLen x) with h0 | h0
  · have := lt_bitLen h2
    rw [h0] at this; simp at this; omega
  · exact h0
theorem limbN_last {l : List Int} (hd : DigB 4294967296 l) (h : (trimL l).length ≠ 0) : 1 ≤ limbN l ((trimL l).length - 1) := by
  have hle := trimL_len_le l
  have hc := trimL_can l
  have hi : (trimL l).length - 1 < l.length := by omega
  have e : (trimL l)[(trimL l).length - 1]? = l[(trimL l).length - 1]? := by
    have h1 : (trimL l)[(trimL l).length - 1]? = (l.take (trimL l).length)[(trimL l).length - 1]? := by rw [← trimL_take]
    rw [h1, List.getElem?_take, if_pos (by omega)]
  rw [List.getLast?_eq_getElem?, e, List.getElem?_eq_getElem hi] at hc
  have := hd l[(trimL l).length - 1] (List.getElem_mem hi)
  simp only [limbN, List.getD_eq_getElem?_getD, List.getElem?_eq_getElem hi, Option.getD_some]
  have hne : l[(trimL l).length - 1] ≠ 0 := fun hz => hc (by rw [hz])
  omega
theorem bitsL_zero {l : List Int} (hd : DigB 4294967296 l) : bitsL l = 0 ↔ valB 4294967296 l = 0 := by
  unfold bitsL
  have hg : GoodB 4294967296 (trimL l) := trimL_good hd
  have hv := trimL_val 4294967296 l
  by_cases h : (trimL l).length = 0
  · rw [if_pos h]
    have := List.eq_nil_of_length_eq_zero h
    rw [this, valB_nil] at hv
    exact ⟨fun _ => hv.symm, fun _ => rfl⟩
  · rw [if_neg h]
    refine ⟨fun hz => ?_, fun hz => ?_⟩
    · exfalso
      have hx : 1 ≤ limbN l ((trimL l).length - 1) := by
        have hlast := limbN_last hd h
        exact hlast
      have h2 := limbN_lt (by decide) hd ((trimL l).length - 1)
      have := bitLen_pos hx h2
      omega
    · exfalso
      have := hg.zero (by rw [hv, hz])
      rw [this] at h
      exact h rfl
def nat_Bits.f (l0 : List Int) : Option Int := if okN l0 = true then some (bitsL l0) else none
set_option maxRecDepth 100000 in
set_option maxHeartbeats 4000000 in
theorem nat_Bits.calls (A0 : Option Addr) (c0 : Nat) (l0 : List Int) (r : Int) (w : World) (hr0 : Kd.C (Kd.int .u32) w A0 l0.length l0) (hc0 : l0.length ≤ c0) (h : nat_Bits.f l0 = some r) :
    Calls Tryz.prog 88 #[.slice A0 l0.length c0] w fun e w' => e = .returned (.int .i64 r) ∧ Drawn0 w w' := by
  unfold nat_Bits.f at h
  by_cases hg : okN l0 = true
  · rw [if_pos hg] at h
    obtain rfl := Option.some.inj h
    obtain ⟨n0, d0⟩ := okN_iff.1 hg
    have TOP := top_calls A0 c0 l0 w hr0 hc0 (by omega)
    have hle := trimL_len_le l0
    unfold bitsL
    by_cases h0 : (trimL l0).length = 0
    · rw [if_pos h0]
      rw [h0] at TOP
      have HT := Aside0.mk TOP
      clear TOP
      go_enter Tryz.func88, Tryz.ntmps88
      go_wp2_with (go_at_call 93; refine HT.out.mono ?_; rintro e w1 ⟨rfl, ⟨q, rfl⟩⟩)
      go_ret
      exact ⟨rfl, ⟨_, rfl⟩⟩
    · rw [if_neg h0]
      have hl := limbN_last d0 h0
      obtain ⟨m, hm⟩ : ∃ m, (trimL l0).length = m := ⟨_, rfl⟩
      rw [hm] at hl TOP hle h0 ⊢
      obtain ⟨hx, hx2⟩ := rd_nat d0 (show m - 1 < l0.length by omega)
      obtain ⟨x, hxe⟩ : ∃ x, limbN l0 (m - 1) = x := ⟨_, rfl⟩
      rw [hxe] at hx hx2 hl ⊢
      obtain ⟨ad, hA, hcell⟩ := Kd.at_int hr0 ((m - 1 : Nat) : Int) (by omega) (by omega)
      rw [hx, Int.toNat_natCast] at hcell
      have LEN := fun W => Any.bits_Len32 Tryz.layLen32 (x : Int) W (by omega) (by omega)
      rw [Int.toNat_natCast] at LEN
      have hb := Any.bitLen_le32 (x : Int) (by omega) (by omega)
      rw [Int.toNat_natCast] at hb
      obtain ⟨b, hbb⟩ : ∃ b, Lib.bitLen x = b := ⟨_, rfl⟩
      rw [hbb] at LEN hb ⊢
      have hd0 : ((m : Int) == 0) = false := beq_eq_false_iff_ne.mpr (by omega)
      have q1 : (0 : Int) ≤ (m : Int) - 1 := by omega
      have q2 : (m : Int) - 1 < (l0.length : Int) := by omega
      have q3 : ((m : Int) - 1).toNat = m - 1 := by omega
      cases hA
      have HT := Aside0.mk TOP
      clear TOP hr0 hm hxe hbb hx
      go_enter Tryz.func88, Tryz.ntmps88
      go_wp2_with (first | (go_at_call 93; refine HT.out.mono ?_; rintro e w1 ⟨rfl, ⟨q, rfl⟩⟩) | (go_at_call 117; refine (LEN _).mono ?_; rintro e w1 ⟨rfl, rfl⟩))
      go_ret
      exact ⟨rfl, ⟨_, rfl⟩⟩
  · rw [if_neg hg] at h; cases h
theorem divmod_f {a b : List Int} (ha : okN a = true) (hb : okN b = true) (la : a.length ≤ 1048000) (lb : b.length ≤ 1048000) (h0 : valB 4294967296 b ≠ 0) : quo_DivMod.f a b = some (digB 4294967296 (valB 4294967296 a / valB 4294967296 b), digB 4294967296 (valB 4294967296 a % valB 4294967296 b), 0) := by
  unfold quo_DivMod.f
  rw [if_pos ⟨ha, hb, la, lb⟩, if_neg h0]
theorem gcd_law (n : Nat) (hn : n ≤ 1048000) : ∀ (y x k : Nat), x < 4294967296 ^ n → y < 4294967296 ^ n → y < k → quo_Gcd.l0 k (digB 4294967296 x) (digB 4294967296 y) = some (digB 4294967296 (Nat.gcd x y)) := by
  intro y
  induction y using Nat.strongRecOn with
  | ind y ih =>
    intro x k hx hy hk
    obtain ⟨k, rfl⟩ : ∃ m, k = m + 1 := ⟨k - 1, by omega⟩
    simp only [quo_Gcd.l0]
    by_cases h0 : y = 0
    · subst h0
      rw [digB_zero _ (by decide), if_neg (by simp), Nat.gcd_zero_right]
    · have hpos : 0 < (digB 4294967296 y).length := digB_len_ge (by decide) (n := 0) (by rw [Nat.pow_zero]; omega)
      have hlx := digB_len (B := 4294967296) (by decide) hx
      have hly := digB_len (B := 4294967296) (by decide) hy
      have hm : x % y < y := Nat.mod_lt _ (by omega)
      rw [if_pos (by omega), divmod_f (okN_digB hx (by omega)) (okN_digB hy (by omega)) (by omega) (by omega) (by rw [digB_val _ (by decide)]; exact h0)]
      simp only [Option.bind_some, digB_val 4294967296 (by decide)]
      rw [ih (x % y) hm y k hy (by omega) (by omega), gcd_rests x y (by omega)]
def quo_GcdC.f (l0 l1 : List Int) : Option (List Int) := if okN l0 = true ∧ okN l1 = true ∧ l0.length ≤ 1048000 ∧ l1.length ≤ 1048000 then some (digB 4294967296 (Nat.gcd (valB 4294967296 l0) (valB 4294967296 l1))) else none
theorem quo_GcdC.calls (A0 : Option Addr) (c0 : Nat) (l0 : List Int) (A1 : Option Addr) (c1 : Nat) (l1 : List Int) (r : List Int) (w : World) (hr0 : Kd.C (Kd.int .u32) w A0 l0.length l0) (hc0 : l0.length ≤ c0) (hr1 : Kd.C (Kd.int .u32) w A1 l1.length l1) (hc1 : l1.length ≤ c1) (h : quo_GcdC.f l0 l1 = some r) :
    Calls Tryz.prog 89 #[.slice A0 l0.length c0, .slice A1 l1.length c1] w fun e w' => ∃ v0_ : Value, e = .returned (v0_) ∧ Kd.R (Kd.int .u32) 88 w' w.heap.size (fun _ => True) v0_ r ∧ Below w.heap.size w w' := by
  unfold quo_GcdC.f at h
  by_cases hg : okN l0 = true ∧ okN l1 = true ∧ l0.length ≤ 1048000 ∧ l1.length ≤ 1048000
  · rw [if_pos hg] at h
    obtain ⟨k0, k1, n0, n1⟩ := hg
    refine quo_Gcd.calls (valB 4294967296 l1 + 1) A0 c0 l0 A1 c1 l1 r w hr0 hc0 hr1 hc1 ?_
    have d0 := (okN_iff.1 k0).2
    have d1 := (okN_iff.1 k1).2
    unfold quo_Gcd.f
    rw [trim_f k0, Option.bind_some, trim_f k1, Option.bind_some, trimL_eq (by decide) d0, trimL_eq (by decide) d1, ← h]
    obtain ⟨n, hn⟩ : ∃ n, max l0.length l1.length = n := ⟨_, rfl⟩
    have m0 : 4294967296 ^ l0.length ≤ 4294967296 ^ n := Nat.pow_le_pow_right (by decide) (by omega)
    have m1 : 4294967296 ^ l1.length ≤ 4294967296 ^ n := Nat.pow_le_pow_right (by decide) (by omega)
    exact gcd_law n (by omega) _ _ _ (Nat.lt_of_lt_of_le (valB_lt _ _ d0) m0) (Nat.lt_of_lt_of_le (valB_lt _ _ d1) m1) (Nat.lt_succ_self _)
  · rw [if_neg hg] at h; cases h
theorem below_setRow {B g : Nat} {a w : World} (h : Below B a w) (hg : B ≤ g) (cs : Array Value) : Below B a (w.setRow g cs) :=
  h.trans ⟨rfl, rfl, rfl, by simp [World.setRow], fun k hk => setRow_other _ _ _ _ (by omega)⟩
theorem store_row_any {P : Program} {ops : Array Oper} {rest : List Oper} {o : Oper} {a : Act} {w : World} {Q : Exit → Act → World → Prop} (hgd : o.guard = none) (ty : TypeId) (x y : Operand) (ho : o.op = .store ty x y)
    (g : Nat) (cells : Array Value) (hx : a.eval x = .pointer (some ⟨g, 0, none⟩)) (hy : a.eval y = .agg cells)
    (t : TypeId) (old : Array Value) (hg : w.heap[g]? = some (.cells old t (0, 0))) (hi : (P.info? ty).map (·.size) = some cells.size)
    (hold : old.size = cells.size) (h1 : cells.all (·.oneCell') = true)
    (h : ∀ W5 : World, W5.heap[g]? = some (.cells cells t (0, 0)) → (∀ k, k ≠ g → W5.heap[k]? = w.heap[k]?) → (∀ B, B ≤ g → Below B w W5) → wpList P ops Q rest (a.put o.dst undef) W5) : wpList P ops Q (o :: rest) a w :=
  wpList_store_row hgd ty x y ho g cells hx hy t old hg hi hold h1 (h _ (setRow_heap _ _ _ _ _ _ hg) (fun k hk => setRow_other _ _ _ _ hk) (fun B hB => below_setRow (Below.refl _ _) hB _))
set_option maxRecDepth 100000 in
set_option maxHeartbeats 4000000 in
theorem part_calls {a g : List Int} {na ng : Nat} (A : Option Addr) (ca : Nat) (G : Option Addr) (cg Bg : Nat) (W : World) (hna : a.length = na) (hng : g.length = ng) (hB : Boxed W Bg 29 (.slice G ng cg)) (hA : Kd.C (Kd.int .u32) W A a.length a) (hG : Kd.C (Kd.int .u32) W G g.length g) (h1 : na ≤ ca) (h2 : ng ≤ cg)
    (ka : okN a = true) (kg : okN g = true) (la : na ≤ 1048000) (lg : ng ≤ 1048000) (h0 : valB 4294967296 g ≠ 0) :
    Calls Tryz.prog 90 #[.slice A na ca, .pointer (some ⟨Bg, 0, none⟩)] W fun e W' => ∃ v, e = .returned v ∧ Kd.R (Kd.int .u32) 88 W' W.heap.size (fun _ => True) v (digB 4294967296 (valB 4294967296 a / valB 4294967296 g)) ∧ Below W.heap.size W W' := by
  subst hna
  subst hng
  have hc := hB.cell
  have BY := rat_by.calls A ca a G cg g (digB 4294967296 (valB 4294967296 a / valB 4294967296 g)) W hA h1 hG h2 (by unfold rat_by.f; rw [divmod_f ka kg la lg h0]; rfl)
  have HB := Aside0.mk BY
  clear BY hA hG
  go_enter Tryz.func90, Tryz.ntmps90
  go_wp2_with (go_at_call 91; refine HB.out.mono ?_; rintro e w1 ⟨v, rfl, hr, hb⟩)
  go_ret
  exact ⟨_, rfl, hr, hb⟩
def rat_Make.f (a0 : Bool) (l1 l2 : List Int) : Option (Bool × List Int × List Int × Int) :=
  if okN l1 = true ∧ okN l2 = true ∧ l1.length ≤ 1048000 ∧ l2.length ≤ 1048000 then (if valB 4294967296 l2 = 0 then some (false, [], [], 17) else if valB 4294967296 l1 = 0 then some (false, [], [1], 0) else
    some (a0, digB 4294967296 (valB 4294967296 l1 / Nat.gcd (valB 4294967296 l1) (valB 4294967296 l2)), digB 4294967296 (valB 4294967296 l2 / Nat.gcd (valB 4294967296 l1) (valB 4294967296 l2)), 0)) else none
theorem ratInfo : (Tryz.prog.info? 31).map (·.size) = some 3 := by kernel_rfl
def RatPost (w : World) (n : Bool) (a b : List Int) (x : Int) (e : Ending) (w' : World) : Prop := ∃ v1_ v2_ : Value, e = .returned (.tuple #[.agg #[.bool n, v1_, v2_], .int .i64 x]) ∧ Kd.R (Kd.int .u32) 88 w' w.heap.size (fun k_ => some k_ ≠ (v2_ : Value).ownBlock) v1_ a ∧ Kd.R (Kd.int .u32) 88 w' w.heap.size (fun k_ => some k_ ≠ (v1_ : Value).ownBlock) v2_ b ∧ Below w.heap.size w w'
section
variable (a0 : Bool) (A1 : Option Addr) (c1 : Nat) (l1 : List Int) (A2 : Option Addr) (c2 : Nat) (l2 : List Int) (w : World) (hr1 : Kd.C (Kd.int .u32) w A1 l1.length l1) (hc1 : l1.length ≤ c1) (hr2 : Kd.C (Kd.int .u32) w A2 l2.length l2) (hc2 : l2.length ≤ c2)
  (ok1 : okN l1 = true) (ok2 : okN l2 = true) (n1 : l1.length ≤ 1048000) (n2 : l2.length ≤ 1048000)
include hr1 hc1 hr2 hc2 ok1 ok2 n1 n2
set_option maxRecDepth 100000 in
set_option maxHeartbeats 8000000 in
theorem make_zero_calls (h0 : valB 4294967296 l2 = 0) : Calls Tryz.prog 54 #[.bool a0, .slice A1 l1.length c1, .slice A2 l2.length c2] w (RatPost w false [] [] 17) := by
  have hblk := World.alloc_heap_new w (.cells #[.bool false, .slice none 0 0, .slice none 0 0] 31)
  have B2 := nat_Bits.calls A2 c2 l2 0 (w.alloc (.cells #[.bool false, .slice none 0 0, .slice none 0 0] 31)) (Kd.cA9 hr2 _) hc2 (by unfold nat_Bits.f; rw [if_pos ok2, (bitsL_zero (okN_iff.1 ok2).2).2 h0])
  have HB2 := Aside0.mk B2
  have HBLK := Aside0.mk hblk
  clear B2 hr1 hr2 hblk
  go_enter Tryz.func54, Tryz.ntmps54
  go_wp2_with (first | (go_at_call 88; refine HB2.out.mono ?_; rintro e w1 ⟨rfl, ⟨q, rfl⟩⟩) | ((with_reducible refine gate_store (t := 31) (p := 6) rfl ?_); go_loud (refine store_row_any rfl 31 _ _ rfl w.heap.size #[.bool false, .slice none 0 0, .slice none 0 0] rfl rfl 31 #[.bool false, .slice none 0 0, .slice none 0 0] HBLK.out ratInfo rfl (by simp [Value.oneCell']) ?_); intro W5 hblk5 hoth hbel))
  refine bodyPost_ret (results_ct rfl _ _ w.heap.size 31 _ (0, 0) _ rfl hblk5 Tryz.underlying31 rfl ratInfo) rfl ?_
  exact ⟨_, _, rfl, Kd.R_nil _ _ _ _ _, Kd.R_nil _ _ _ _ _, (bN9 (bA9 (Below.refl _ _) _) _).trans (hbel _ (Nat.le_refl _))⟩
set_option maxRecDepth 100000 in
set_option maxHeartbeats 8000000 in
theorem make_nought_calls (h0 : valB 4294967296 l2 ≠ 0) (h1 : valB 4294967296 l1 = 0) : Calls Tryz.prog 54 #[.bool a0, .slice A1 l1.length c1, .slice A2 l2.length c2] w (RatPost w false [] [1] 0) := by
  have hblk := World.alloc_heap_new w (.cells #[.bool false, .slice none 0 0, .slice none 0 0] 31)
  obtain ⟨b, hb⟩ : ∃ b, bitsL l2 = b := ⟨_, rfl⟩
  have hb0 : b ≠ 0 := by rw [← hb]; exact fun h => h0 ((bitsL_zero (okN_iff.1 ok2).2).1 h)
  have B2 := nat_Bits.calls A2 c2 l2 b (w.alloc (.cells #[.bool false, .slice none 0 0, .slice none 0 0] 31)) (Kd.cA9 hr2 _) hc2 (by unfold nat_Bits.f; rw [if_pos ok2, hb])
  have B1 := fun W k => nat_Bits.calls A1 c1 l1 0 W k hc1 (by unfold nat_Bits.f; rw [if_pos ok1, (bitsL_zero (okN_iff.1 ok1).2).2 h1])
  have ONE := fun W => rat_one.calls [1] W (by
    unfold rat_one.f nat_Of.f
    rw [if_pos (by omega)]
    rw [show (1 : Int).toNat = 1 from rfl, digB_small (by decide) (by decide) (by decide)]
    rfl)
  have hd0 : (b == 0) = false := beq_eq_false_iff_ne.mpr hb0
  have HC1 := Aside0.mk (Kd.cA9 hr1 (.cells #[.bool false, .slice none 0 0, .slice none 0 0] 31))
  have HB2 := Aside0.mk B2
  have HBLK := Aside0.mk hblk
  clear B2 hr1 hr2 hblk hb hb0 h0 h1
  go_enter Tryz.func54, Tryz.ntmps54
  go_wp2_with (first | (go_at_call 88; (with_reducible refine HB2.out.mono ?_); rintro e w1 ⟨rfl, ⟨q, rfl⟩⟩) | (go_at_call 88; (with_reducible refine (B1 _ (Kd.cN9 HC1.out _)).mono ?_); rintro e w1 ⟨rfl, ⟨q2, rfl⟩⟩) | (go_at_call 55; refine (ONE _).mono ?_; rintro e w2 ⟨v, rfl, hrv, hb2⟩; have HRV := Aside0.mk hrv; have HB := Aside0.mk hb2; clear hrv hb2; obtain ⟨Av, cv, rfl⟩ := Kd.rS9 HRV.out) | ((with_reducible refine gate_store (t := 31) (p := 6) rfl ?_); go_loud (refine store_row_any rfl 31 _ _ rfl w.heap.size #[.bool false, .slice none 0 0, .slice Av [(1 : Int)].length cv] rfl rfl 31 #[.bool false, .slice none 0 0, .slice none 0 0] ((HB.out.block _ (by simp)).trans HBLK.out) ratInfo rfl (by simp [Value.oneCell']) ?_); intro W5 hblk5 hoth hbel))
  refine bodyPost_ret (results_ct rfl _ _ w.heap.size 31 _ (0, 0) _ rfl hblk5 Tryz.underlying31 rfl ratInfo) rfl ?_
  have hbe : Below w.heap.size w w2 := (bN9 (bA9 (Below.refl _ _) _) _).trans (HB.out.mono (by simp))
  refine ⟨_, _, rfl, Kd.R_nil _ _ _ _ _, ?_, hbe.trans (hbel _ (Nat.le_refl _))⟩
  have hR := Kd.R_bound HRV.out
  refine Kd.R_mono (Kd.rL9 (Kd.R_move hR (fun k hk => hoth k ?_)) (by simp)) (fun k _ h => by cases h)
  have := hk.2.1
  simp at this
  omega
set_option maxRecDepth 100000 in
set_option maxHeartbeats 16000000 in
theorem make_main_calls (h0 : valB 4294967296 l2 ≠ 0) (h1 : valB 4294967296 l1 ≠ 0) : Calls Tryz.prog 54 #[.bool a0, .slice A1 l1.length c1, .slice A2 l2.length c2] w
    (RatPost w a0 (digB 4294967296 (valB 4294967296 l1 / Nat.gcd (valB 4294967296 l1) (valB 4294967296 l2))) (digB 4294967296 (valB 4294967296 l2 / Nat.gcd (valB 4294967296 l1) (valB 4294967296 l2))) 0) := by
  have hblk := World.alloc_heap_new w (.cells #[.bool false, .slice none 0 0, .slice none 0 0] 31)
  obtain ⟨b, hb⟩ : ∃ b, bitsL l2 = b := ⟨_, rfl⟩
  obtain ⟨b', hb'⟩ : ∃ b, bitsL l1 = b := ⟨_, rfl⟩
  have hb0 : b ≠ 0 := by rw [← hb]; exact fun h => h0 ((bitsL_zero (okN_iff.1 ok2).2).1 h)
  have hb0' : b' ≠ 0 := by rw [← hb']; exact fun h => h1 ((bitsL_zero (okN_iff.1 ok1).2).1 h)
  have B2 := nat_Bits.calls A2 c2 l2 b (w.alloc (.cells #[.bool false, .slice none 0 0, .slice none 0 0] 31)) (Kd.cA9 hr2 _) hc2 (by unfold nat_Bits.f; rw [if_pos ok2, hb])
  have B1 := fun W k => nat_Bits.calls A1 c1 l1 b' W k hc1 (by unfold nat_Bits.f; rw [if_pos ok1, hb'])
  have hd0 : (b == 0) = false := beq_eq_false_iff_ne.mpr hb0
  have hd0' : (b' == 0) = false := beq_eq_false_iff_ne.mpr hb0'
  obtain ⟨g, hg⟩ : ∃ g, Nat.gcd (valB 4294967296 l1) (valB 4294967296 l2) = g := ⟨_, rfl⟩
  have hgp : 0 < g := by rw [← hg]; exact Nat.gcd_pos_of_pos_left _ (by omega)
  have hgl : g < 4294967296 ^ l1.length := by
    have h2 := Nat.gcd_le_left (valB 4294967296 l2) (show 0 < valB 4294967296 l1 by omega)
    have h3 := valB_lt 4294967296 l1 (okN_iff.1 ok1).2
    omega
  obtain ⟨gs, hgs⟩ : ∃ gs, digB 4294967296 g = gs := ⟨_, rfl⟩
  have egs : valB 4294967296 gs = g := by rw [← hgs]; exact digB_val _ (by decide) _
  have kgs : okN gs = true := by rw [← hgs]; exact okN_digB hgl (okN_iff.1 ok1).1
  have lgs : gs.length ≤ 1048000 := by rw [← hgs]; exact Nat.le_trans (digB_len (by decide) hgl) n1
  obtain ⟨ng, hng⟩ : ∃ ng, gs.length = ng := ⟨_, rfl⟩
  have GCD := fun W k1 k2 => slice_form (quo_GcdC.calls A1 c1 l1 A2 c2 l2 gs W k1 hc1 k2 hc2 (by unfold quo_GcdC.f; rw [if_pos ⟨ok1, ok2, n1, n2⟩, hg, hgs])) hng
  have P1 := fun G cg Bg W k1 k2 k3 k4 => part_calls (a := l1) (g := gs) A1 c1 G cg Bg W rfl hng k1 k2 k3 hc1 k4 ok1 kgs n1 (hng ▸ lgs) (by rw [egs]; omega)
  have P2 := fun G cg Bg W k1 k2 k3 k4 => part_calls (a := l2) (g := gs) A2 c2 G cg Bg W rfl hng k1 k2 k3 hc2 k4 ok2 kgs n2 (hng ▸ lgs) (by rw [egs]; omega)
  rw [egs] at P1 P2
  rw [hg]
  have HC1 := Aside0.mk (Kd.cA9 hr1 (.cells #[.bool false, .slice none 0 0, .slice none 0 0] 31))
  have HC2 := Aside0.mk (Kd.cA9 hr2 (.cells #[.bool false, .slice none 0 0, .slice none 0 0] 31))
  have HB2 := Aside0.mk B2
  have HBLK := Aside0.mk hblk
  have HNG := Aside0.mk hng
  obtain ⟨qa, hqa⟩ : ∃ q, digB 4294967296 (valB 4294967296 l1 / g) = q := ⟨_, rfl⟩
  obtain ⟨qb, hqb⟩ : ∃ q, digB 4294967296 (valB 4294967296 l2 / g) = q := ⟨_, rfl⟩
  rw [hqa] at P1
  rw [hqb] at P2
  rw [hqa, hqb]
  clear B2 hr1 hr2 hblk hb hb0 h0 h1 hb' hb0' hng hgs hg hqa hqb
  go_enter Tryz.func54, Tryz.ntmps54
  go_wp2_with (first | (go_at_call 88; (with_reducible refine HB2.out.mono ?_); rintro e w1 ⟨rfl, ⟨q, rfl⟩⟩) | (go_at_call 88; (with_reducible refine (B1 _ (Kd.cN9 HC1.out _)).mono ?_); rintro e w1 ⟨rfl, ⟨q2, rfl⟩⟩) | (go_at_call 89; go_loud (refine (GCD _ (Kd.cN9 HC1.out _) (Kd.cN9 HC2.out _)).mono ?_); rintro e w2 ⟨Ag, cg, rfl, hcg, hrg, hb2⟩; have HRG := Aside0.mk hrg; have HB := Aside0.mk hb2; clear hrg hb2) | (go_at_call 90; refine (P1 Ag cg w2.heap.size _ (Boxed.new _ _ _) (Kd.cB9 (Kd.cB9 (Kd.cN9 HC1.out _) HB.out) (bA9 (Below.refl _ _) _)) (C_of_R (Kd.rB9 HRG.out (bA9 (Below.refl _ _) _)) HNG.out) hcg).mono ?_; rintro e w4 ⟨v4, rfl, hr4, hb4⟩; obtain ⟨Aq, cq, rfl⟩ := Kd.rS9 hr4; have HR4 := Aside0.mk hr4; have HB4 := Aside0.mk hb4; clear hr4 hb4) | (go_at_call 90; refine (P2 Ag cg w2.heap.size _ ((HB4.out.block _ (by simp)).trans (Boxed.new _ _ _)) (Kd.cB9 (Kd.cB9 (Kd.cB9 (Kd.cN9 HC2.out _) HB.out) (bA9 (Below.refl _ _) _)) HB4.out) (C_of_R (Kd.rB9 (Kd.rB9 HRG.out (bA9 (Below.refl _ _) _)) HB4.out) HNG.out) hcg).mono ?_; rintro e w5 ⟨v5, rfl, hr5, hb5⟩; obtain ⟨Ar, cr, rfl⟩ := Kd.rS9 hr5; have HR5 := Aside0.mk hr5; have HB5 := Aside0.mk hb5; clear hr5 hb5; have s2 : w.heap.size + 1 ≤ w2.heap.size := by { have := HB.out.size; simpa using this }; have s4 : w2.heap.size + 1 ≤ w4.heap.size := by { have := HB4.out.size; simpa using this }; have s5 := HB5.out.size; have hblk := (HB5.out.block w.heap.size (by omega)).trans ((HB4.out.block w.heap.size (by simp; omega)).trans ((Below.heap_alloc w2 (.cells #[.slice Ag ng cg] 29) w.heap.size (by omega)).trans ((HB.out.block w.heap.size (by simp)).trans HBLK.out)))) | ((with_reducible refine gate_store (t := 31) (p := 6) rfl ?_); go_loud (refine store_row_any rfl 31 _ _ rfl w.heap.size #[.bool a0, .slice Aq qa.length cq, .slice Ar qb.length cr] rfl rfl 31 #[.bool false, .slice none 0 0, .slice none 0 0] hblk ratInfo rfl (by simp [Value.oneCell']) ?_); intro W5 hblk5 hoth hbel))
  refine bodyPost_ret (results_ct rfl _ _ w.heap.size 31 _ (0, 0) _ rfl hblk5 Tryz.underlying31 rfl ratInfo) rfl ?_
  have hb0 : Below w.heap.size w w2 := (bN9 (bA9 (Below.refl _ _) _) _).trans (HB.out.mono (by simp))
  have hb4 : Below w.heap.size w w4 := (bA9 hb0 _).trans (HB4.out.mono (by simp; omega))
  have hb5 : Below w.heap.size w w5 := hb4.trans (HB5.out.mono (by omega))
  have q4 := Kd.R_elder HR4.out HR5.out HB5.out
  have q5 := Kd.R_newR HR5.out HR4.out
  refine ⟨_, _, rfl, ?_, ?_, hb5.trans (hbel _ (Nat.le_refl _))⟩
  · refine Kd.R_mono (Kd.rL9 (Kd.R_move (Kd.R_bound q4) (fun k hk => hoth k ?_)) (by simp; omega)) (fun k hk => hk.1.2)
    have := hk.2.1
    simp at this
    omega
  · refine Kd.R_mono (Kd.rL9 (Kd.R_move (Kd.R_bound q5) (fun k hk => hoth k ?_)) (by omega)) (fun k hk => hk.1.2)
    have := hk.2.1
    omega
end
theorem rat_Make.calls (a0 : Bool) (A1 : Option Addr) (c1 : Nat) (l1 : List Int) (A2 : Option Addr) (c2 : Nat) (l2 : List Int) (r1 : Bool) (r2 r3 : List Int) (r4 : Int) (w : World) (hr1 : Kd.C (Kd.int .u32) w A1 l1.length l1) (hc1 : l1.length ≤ c1) (hr2 : Kd.C (Kd.int .u32) w A2 l2.length l2) (hc2 : l2.length ≤ c2) (h : rat_Make.f a0 l1 l2 = some (r1, r2, r3, r4)) :
    Calls Tryz.prog 54 #[.bool a0, .slice A1 l1.length c1, .slice A2 l2.length c2] w fun e w' => ∃ v1_ v2_ : Value, e = .returned (.tuple #[.agg #[.bool r1, v1_, v2_], .int .i64 r4]) ∧ Kd.R (Kd.int .u32) 88 w' w.heap.size (fun k_ => some k_ ≠ (v2_ : Value).ownBlock) v1_ r2 ∧ Kd.R (Kd.int .u32) 88 w' w.heap.size (fun k_ => some k_ ≠ (v1_ : Value).ownBlock) v2_ r3 ∧ Below w.heap.size w w' := by
  unfold rat_Make.f at h
  by_cases hg : okN l1 = true ∧ okN l2 = true ∧ l1.length ≤ 1048000 ∧ l2.length ≤ 1048000
  · rw [if_pos hg] at h
    obtain ⟨k1, k2, n1, n2⟩ := hg
    by_cases h2 : valB 4294967296 l2 = 0
    · rw [if_pos h2] at h
      obtain ⟨rfl, rfl, rfl, rfl⟩ : false = r1 ∧ [] = r2 ∧ [] = r3 ∧ 17 = r4 := by simpa using h
      exact make_zero_calls a0 A1 c1 l1 A2 c2 l2 w hr1 hc1 hr2 hc2 k1 k2 n1 n2 h2
    · rw [if_neg h2] at h
      by_cases h1 : valB 4294967296 l1 = 0
      · rw [if_pos h1] at h
        obtain ⟨rfl, rfl, rfl, rfl⟩ : false = r1 ∧ [] = r2 ∧ [1] = r3 ∧ 0 = r4 := by simpa using h
        exact make_nought_calls a0 A1 c1 l1 A2 c2 l2 w hr1 hc1 hr2 hc2 k1 k2 n1 n2 h2 h1
      · rw [if_neg h1] at h
        have h := Option.some.inj h
        simp only [Prod.mk.injEq] at h
        obtain ⟨e1, e2, e3, e4⟩ := h
        subst e1 e2 e3 e4
        exact make_main_calls a0 A1 c1 l1 A2 c2 l2 w hr1 hc1 hr2 hc2 k1 k2 n1 n2 h2 h1
  · rw [if_neg hg] at h; cases h
end Go.Proofs.YtibaoacjjcgjlaaGreatDoor.Print

namespace Go.Proofs.YtibaoacjjcgjlaaGreatDoor.Print
open Go.RowKit Go.Proofs.YtibaoacjjcgjlaaGreatDoorW.PrintWords Go.Proofs.YtibaoacjjcgjlaaGreatDoorW.PrintLast Go.Proofs.YtibaoacjjcgjlaaGreatDoorW.PrintMore
attribute [local go_sem] max2_int min2_int max_two min_two max_three min_three max_four min_four   -- for this text's walks alone
set_option linter.unusedVariables false
set_option linter.unusedSimpArgs false
def rat_Norm.f (a0_0 : Bool) (l0_1 : List Int) (l0_2 : List Int) : Option (Bool × List Int × List Int) := (rat_Make.f a0_0 l0_1 l0_2).bind fun bt103 => (if bt103.2.2.2 = 0 then (some (bt103.1, bt103.2.1, bt103.2.2.1)) else ((rat_one.f).bind fun t112 => (some (false, ([] : List Int), t112))))
set_option maxHeartbeats 8000000 in
set_option maxRecDepth 100000 in
theorem rat_Norm.calls (a0_0 : Bool) (A0_1 : Option Addr) (c0_1 : Nat) (l0_1 : List Int) (A0_2 : Option Addr) (c0_2 : Nat) (l0_2 : List Int) (r1 : Bool) (r2 : List Int) (r3 : List Int) (w : World) (hr0_1 : Kd.C (Kd.int .u32) w A0_1 l0_1.length l0_1) (hc0_1 : l0_1.length ≤ c0_1) (hr0_2 : Kd.C (Kd.int .u32) w A0_2 l0_2.length l0_2) (hc0_2 : l0_2.length ≤ c0_2) (h : rat_Norm.f a0_0 l0_1 l0_2 = some (r1, r2, r3)) :
  Calls Tryz.prog 31 #[.agg #[.bool a0_0, .slice A0_1 l0_1.length c0_1, .slice A0_2 l0_2.length c0_2]] w fun e w' => ∃ v1_ v2_ : Value, e = .returned (.agg #[.bool r1, v1_, v2_]) ∧ Kd.R (Kd.int .u32) 88 w' w.heap.size (fun k_ => some k_ ≠ (v2_ : Value).ownBlock) v1_ r2 ∧ Kd.R (Kd.int .u32) 88 w' w.heap.size (fun k_ => some k_ ≠ (v1_ : Value).ownBlock) v2_ r3 ∧ Below w.heap.size w w' := by
 have hu31 := Tryz.underlying31
 have HR0_1 := Aside0.mk hr0_1
 have HC0_1 := Aside0.mk hc0_1
 clear hr0_1 hc0_1
 have HR0_2 := Aside0.mk hr0_2
 have HC0_2 := Aside0.mk hc0_2
 clear hr0_2 hc0_2
 have HB := Aside0.mk (Below.refl w.heap.size w)
 have H : ((rat_Make.f a0_0 l0_1 l0_2).bind fun bt103 => (if bt103.2.2.2 = 0 then (some (bt103.1, bt103.2.1, bt103.2.2.1)) else ((rat_one.f).bind fun t112 => (some (false, ([] : List Int), t112))))) = some (r1, r2, r3) := h
 clear h
 replace H := Option.bind_eq_some_iff.mp H
 obtain ⟨⟨t103, t104, t107, t110⟩, A20, H⟩ := H
 (try dsimp only at H)
 have A2 := Aside0.mk A20
 clear A20
 by_cases c3 : t110 = 0
 ·rw [if_pos c3] at H
  have c3b0 : (t110 == 0) = true := beq_iff_eq.mpr c3
  have c3b1 : (t110 != 0) = false := bne_eq_false_iff_eq.mpr c3
  clear c3
  simp only [Option.some.injEq, Prod.mk.injEq] at H
  obtain ⟨rfl, rfl, rfl⟩ := H
  go_enter Tryz.func31, Tryz.ntmps31
  go_wp2_with (first | ((with_reducible refine gD9 (N := 1) rfl ?_); refine bE9 ?hg (N := 1) ?hd (cs := #[.bool a0_0, .slice A0_1 l0_1.length c0_1, .slice A0_2 l0_2.length c0_2]) (t := 31) ?hr ?_; (case hd => rfl); (case hg => rfl); (case hr => first | (go_simp; done) | (go_simp; rfl)); intro gb101 hg w4 hbox hb; have n0_ := Aside0.mk (bT9 (by repeat (first | (with_reducible first | exact HB.out | apply bA9 | apply bN9 | apply bD9) | exact HB.out)) hb); have n1_ := Aside0.mk (hbox); have n2_ := Aside0.mk ((by rw [hg]; exact (bZ9 (by repeat (first | (with_reducible first | exact HB.out | apply bA9 | apply bN9 | apply bD9) | exact HB.out))) : w.heap.size ≤ gb101)); have n3_ := Aside0.mk ((by rw [hg]; exact (bZ9 (by repeat (first | (with_reducible first | exact HB.out | apply bA9 | apply bN9 | apply bD9) | exact HB.out))) : w.heap.size ≤ gb101)); clear HB; have HB := n0_; have BK101 := n1_; have GW101 := n2_; have GE101 := n3_; clear n0_ n1_ n2_ n3_; clear hb hbox hg) | ((with_reducible refine gD9 (N := 2) rfl ?_); refine bE9 ?hg (N := 2) ?hd (cs := #[.bool false, .slice none 0 0, .slice none 0 0]) (t := 31) ?hr ?_; (case hd => rfl); (case hg => rfl); (case hr => first | (go_simp; done) | (go_simp; rfl)); intro gb102 hg w5 hbox hb; have n0_ := Aside0.mk (kB9 (g := gb101) (o := .cells #[.bool a0_0, .slice A0_1 l0_1.length c0_1, .slice A0_2 l0_2.length c0_2] 31 (0, 0)) (by (with_reducible repeat (first | refine kN9 ?_ _ | refine kD9 ?_ | refine kA9 ?_ _)); exact BK101.out) hb); have n1_ := Aside0.mk (bT9 (by repeat (first | (with_reducible first | exact HB.out | apply bA9 | apply bN9 | apply bD9 | refine bS9 ?_ GE101.out) | exact HB.out)) hb); have n2_ := Aside0.mk (hbox); have n3_ := Aside0.mk ((by rw [hg]; exact (bZ9 (by repeat (first | (with_reducible first | exact HB.out | apply bA9 | apply bN9 | apply bD9 | refine bS9 ?_ GE101.out) | exact HB.out))) : w.heap.size ≤ gb102)); have n4_ := Aside0.mk ((by rw [hg]; exact (bZ9 (by repeat (first | (with_reducible first | exact HB.out | apply bA9 | apply bN9 | apply bD9 | refine bS9 ?_ GE101.out) | exact HB.out))) : w.heap.size ≤ gb102)); have n5_ := Aside0.mk ((by rw [hg]; exact Nat.ne_of_lt (blk_lt (g := gb101) (o := .cells #[.bool a0_0, .slice A0_1 l0_1.length c0_1, .slice A0_2 l0_2.length c0_2] 31 (0, 0)) (by (with_reducible repeat (first | refine kN9 ?_ _ | refine kD9 ?_ | refine kA9 ?_ _)); exact BK101.out)) : gb101 ≠ gb102)); have n6_ := Aside0.mk ((by rw [hg]; exact Nat.ne_of_gt (blk_lt (g := gb101) (o := .cells #[.bool a0_0, .slice A0_1 l0_1.length c0_1, .slice A0_2 l0_2.length c0_2] 31 (0, 0)) (by (with_reducible repeat (first | refine kN9 ?_ _ | refine kD9 ?_ | refine kA9 ?_ _)); exact BK101.out)) : gb102 ≠ gb101)); clear BK101; clear HB; have BK101 := n0_; have HB := n1_; have BK102 := n2_; have GW102 := n3_; have GE102 := n4_; have NB101_102 := n5_; have NB102_101 := n6_; clear n0_ n1_ n2_ n3_ n4_ n5_ n6_; clear hb hbox hg; have hnb6 := NB101_102.out; have hnc6 := NB102_101.out; have hcz7_0 : w5.cell? ⟨gb101, 0, none⟩ = some (.bool a0_0) := (kC9 BK101.out 0).trans rfl; have hcz7_1 : w5.cell? ⟨gb101, 1, none⟩ = some (.slice A0_1 l0_1.length c0_1) := (kC9 BK101.out 1).trans rfl; have hcz7_2 : w5.cell? ⟨gb101, 2, none⟩ = some (.slice A0_2 l0_2.length c0_2) := (kC9 BK101.out 2).trans rfl; have hfz7_0 := kF9 BK101.out 0; have hfz7_1 := kF9 BK101.out 1; have hfz7_2 := kF9 BK101.out 2) | ((with_reducible refine gC9 (f := 54) rfl ?_); refine goesL_ (some 12) rfl rfl Tryz.func54 (by kernel_rfl) rfl #[.bool a0_0, .slice A0_1 l0_1.length c0_1, .slice A0_2 l0_2.length c0_2] rfl (by (try simp only [List.map_toArray, List.map_cons, List.map_nil]); first | done | rfl | (simp only [List.length_drop, List.length_take]; rfl)) ?_; (with_reducible refine (rat_Make.calls a0_0 _ _ l0_1 _ _ l0_2 t103 t104 t107 t110 _ ?side1 ?side2 ?side3 ?side4 A2.out).mono ?_); (case side1 => repeat (first | exact (Kd.cB9 HR0_1.out HB.out) | (with_reducible refine Kd.cA9 ?_ _) | (with_reducible refine Kd.cN9 ?_ _) | (with_reducible refine Kd.cD9 ?_))); (case side2 => exact HC0_1.out); (case side3 => repeat (first | exact (Kd.cB9 HR0_2.out HB.out) | (with_reducible refine Kd.cA9 ?_ _) | (with_reducible refine Kd.cN9 ?_ _) | (with_reducible refine Kd.cD9 ?_))); (case side4 => exact HC0_2.out); rintro e w8 ⟨v105, v108, rfl, ho0, ho1, hb⟩; refine ⟨_, rfl, ?_⟩; have n0_ := Aside0.mk (Kd.rL9 ho0 (bZ9 (by repeat (first | (with_reducible first | exact HB.out | apply bA9 | apply bN9 | apply bD9 | refine bS9 ?_ GE101.out | refine bS9 ?_ GE102.out) | exact HB.out)))); have n1_ := Aside0.mk (Kd.rL9 ho1 (bZ9 (by repeat (first | (with_reducible first | exact HB.out | apply bA9 | apply bN9 | apply bD9 | refine bS9 ?_ GE101.out | refine bS9 ?_ GE102.out) | exact HB.out)))); have n2_ := Aside0.mk (kB9 (g := gb101) (o := .cells #[.bool a0_0, .slice A0_1 l0_1.length c0_1, .slice A0_2 l0_2.length c0_2] 31 (0, 0)) (by (with_reducible repeat (first | refine kN9 ?_ _ | refine kD9 ?_ | refine kA9 ?_ _)); exact BK101.out) hb); have n3_ := Aside0.mk (kB9 (g := gb102) (o := .cells #[.bool false, .slice none 0 0, .slice none 0 0] 31 (0, 0)) (by (with_reducible repeat (first | refine kN9 ?_ _ | refine kD9 ?_ | refine kA9 ?_ _)); exact BK102.out) hb); have n4_ := Aside0.mk (bT9 (by repeat (first | (with_reducible first | exact HB.out | apply bA9 | apply bN9 | apply bD9 | refine bS9 ?_ GE101.out | refine bS9 ?_ GE102.out) | exact HB.out)) hb); clear BK101; clear BK102; clear HB; have HO106 := n0_; have HO109 := n1_; have BK101 := n2_; have BK102 := n3_; have HB := n4_; clear n0_ n1_ n2_ n3_ n4_; (try clear hb); (try clear hb2); (try clear hk); (try clear hi); (try clear ho0); (try clear ho1)) | ((with_reducible refine gD9 (N := 3) rfl ?_); refine bE9 ?hg (N := 3) ?hd (cs := #[.bool false, .slice none 0 0, .slice none 0 0]) (t := 31) ?hr ?_; (case hd => rfl); (case hg => rfl); (case hr => first | (go_simp; done) | (go_simp; rfl)); intro gb111 hg w9 hbox hb; have n0_ := Aside0.mk (Kd.rB9 (by (with_reducible repeat (first | apply Kd.rA9 | apply Kd.rN9 | apply Kd.rD9)); exact HO106.out) hb); have n1_ := Aside0.mk (Kd.rB9 (by (with_reducible repeat (first | apply Kd.rA9 | apply Kd.rN9 | apply Kd.rD9)); exact HO109.out) hb); have n2_ := Aside0.mk (kB9 (g := gb101) (o := .cells #[.bool a0_0, .slice A0_1 l0_1.length c0_1, .slice A0_2 l0_2.length c0_2] 31 (0, 0)) (by (with_reducible repeat (first | refine kN9 ?_ _ | refine kD9 ?_ | refine kA9 ?_ _)); exact BK101.out) hb); have n3_ := Aside0.mk (kB9 (g := gb102) (o := .cells #[.bool false, .slice none 0 0, .slice none 0 0] 31 (0, 0)) (by (with_reducible repeat (first | refine kN9 ?_ _ | refine kD9 ?_ | refine kA9 ?_ _)); exact BK102.out) hb); have n4_ := Aside0.mk (bT9 (by repeat (first | (with_reducible first | exact HB.out | apply bA9 | apply bN9 | apply bD9 | refine bS9 ?_ GE101.out | refine bS9 ?_ GE102.out) | exact HB.out)) hb); have n5_ := Aside0.mk (hbox); have n6_ := Aside0.mk ((by rw [hg]; exact (bZ9 (by repeat (first | (with_reducible first | exact HB.out | apply bA9 | apply bN9 | apply bD9 | refine bS9 ?_ GE101.out | refine bS9 ?_ GE102.out) | exact HB.out))) : w.heap.size ≤ gb111)); have n7_ := Aside0.mk ((by rw [hg]; exact (bZ9 (by repeat (first | (with_reducible first | exact HB.out | apply bA9 | apply bN9 | apply bD9 | refine bS9 ?_ GE101.out | refine bS9 ?_ GE102.out) | exact HB.out))) : w.heap.size ≤ gb111)); have n8_ := Aside0.mk ((by rw [hg]; exact Nat.ne_of_lt (blk_lt (g := gb101) (o := .cells #[.bool a0_0, .slice A0_1 l0_1.length c0_1, .slice A0_2 l0_2.length c0_2] 31 (0, 0)) (by (with_reducible repeat (first | refine kN9 ?_ _ | refine kD9 ?_ | refine kA9 ?_ _)); exact BK101.out)) : gb101 ≠ gb111)); have n9_ := Aside0.mk ((by rw [hg]; exact Nat.ne_of_gt (blk_lt (g := gb101) (o := .cells #[.bool a0_0, .slice A0_1 l0_1.length c0_1, .slice A0_2 l0_2.length c0_2] 31 (0, 0)) (by (with_reducible repeat (first | refine kN9 ?_ _ | refine kD9 ?_ | refine kA9 ?_ _)); exact BK101.out)) : gb111 ≠ gb101)); have n10_ := Aside0.mk ((by rw [hg]; exact Nat.ne_of_lt (blk_lt (g := gb102) (o := .cells #[.bool false, .slice none 0 0, .slice none 0 0] 31 (0, 0)) (by (with_reducible repeat (first | refine kN9 ?_ _ | refine kD9 ?_ | refine kA9 ?_ _)); exact BK102.out)) : gb102 ≠ gb111)); have n11_ := Aside0.mk ((by rw [hg]; exact Nat.ne_of_gt (blk_lt (g := gb102) (o := .cells #[.bool false, .slice none 0 0, .slice none 0 0] 31 (0, 0)) (by (with_reducible repeat (first | refine kN9 ?_ _ | refine kD9 ?_ | refine kA9 ?_ _)); exact BK102.out)) : gb111 ≠ gb102)); clear HO106; clear HO109; clear BK101; clear BK102; clear HB; have HO106 := n0_; have HO109 := n1_; have BK101 := n2_; have BK102 := n3_; have HB := n4_; have BK111 := n5_; have GW111 := n6_; have GE111 := n7_; have NB101_111 := n8_; have NB111_101 := n9_; have NB102_111 := n10_; have NB111_102 := n11_; clear n0_ n1_ n2_ n3_ n4_ n5_ n6_ n7_ n8_ n9_ n10_ n11_; clear hb hbox hg; have hnb10 := NB111_101.out; have hnc10 := NB101_111.out; have hnb11 := NB111_102.out; have hnc11 := NB102_111.out; have hcz12_0 : w9.cell? ⟨gb111, 0, none⟩ = some (.bool false) := (kC9 BK111.out 0).trans rfl; have hcz12_1 : w9.cell? ⟨gb111, 1, none⟩ = some (.slice none 0 0) := (kC9 BK111.out 1).trans rfl; have hcz12_2 : w9.cell? ⟨gb111, 2, none⟩ = some (.slice none 0 0) := (kC9 BK111.out 2).trans rfl; have hfz12_0 := kF9 BK111.out 0; have hfz12_1 := kF9 BK111.out 1; have hfz12_2 := kF9 BK111.out 2; obtain ⟨Ao13, co13, eo13⟩ := Kd.rS9 HO106.out; subst eo13; obtain ⟨Ao14, co14, eo14⟩ := Kd.rS9 HO109.out; subst eo14; have hcz15_0 : w9.cell? ⟨gb102, 0, none⟩ = some (.bool false) := (kC9 BK102.out 0).trans rfl; have hcz15_1 : w9.cell? ⟨gb102, 1, none⟩ = some (.slice none 0 0) := (kC9 BK102.out 1).trans rfl; have hcz15_2 : w9.cell? ⟨gb102, 2, none⟩ = some (.slice none 0 0) := (kC9 BK102.out 2).trans rfl; have hfz15_0 := kF9 BK102.out 0; have hfz15_1 := kF9 BK102.out 1; have hfz15_2 := kF9 BK102.out 2))
  refine bodyPost_ret (results_cell_row rfl _ _ gb102 31 #[.bool t103, .slice Ao13 t104.length co13, .slice Ao14 t107.length co14] (0, 0) _ rfl (by (with_reducible repeat (first | refine kN9 ?_ _ | refine kD9 ?_ | refine kA9 ?_ _)); refine kP9 (cs := #[.bool t103, .slice Ao13 t104.length co13, .slice none 0 0]) ?_ 2 _ rfl; (with_reducible repeat (first | refine kN9 ?_ _ | refine kD9 ?_ | refine kA9 ?_ _)); refine kP9 (cs := #[.bool t103, .slice none 0 0, .slice none 0 0]) ?_ 1 _ rfl; (with_reducible repeat (first | refine kN9 ?_ _ | refine kD9 ?_ | refine kA9 ?_ _)); refine kP9 (cs := #[.bool false, .slice none 0 0, .slice none 0 0]) ?_ 0 _ rfl; (with_reducible repeat (first | refine kN9 ?_ _ | refine kD9 ?_ | refine kA9 ?_ _)); refine blk_far ?_ NB102_111.out _; (with_reducible repeat (first | refine kN9 ?_ _ | refine kD9 ?_ | refine kA9 ?_ _)); refine blk_far ?_ NB102_111.out _; (with_reducible repeat (first | refine kN9 ?_ _ | refine kD9 ?_ | refine kA9 ?_ _)); refine blk_far ?_ NB102_111.out _; (with_reducible repeat (first | refine kN9 ?_ _ | refine kD9 ?_ | refine kA9 ?_ _)); exact BK102.out) Tryz.underlying31 rfl (by kernel_rfl)) rfl ?_
  exact ⟨_, _, by first | rfl | (simp [eN9, eS9] <;> rfl) | (simp [*, eN9, eS9] <;> rfl), by (with_reducible repeat (first | apply Kd.rA9 | apply Kd.rN9 | apply Kd.rD9)); exact Kd.R_mono (Kd.R_far (p := ⟨gb102, 2, none⟩) (Kd.R_far (p := ⟨gb102, 1, none⟩) (Kd.R_far (p := ⟨gb102, 0, none⟩) (Kd.R_far (p := ⟨gb111, 2, none⟩) (Kd.R_far (p := ⟨gb111, 1, none⟩) (Kd.R_far (p := ⟨gb111, 0, none⟩) (Kd.rT9 (Kd.rT9 HO106.out BK111.out (by decide)) BK102.out (by decide)) (fun _ hk => hk.1.2) (.bool t103)) (fun _ hk => hk.1.2) (.slice Ao13 t104.length co13)) (fun _ hk => hk.1.2) (.slice Ao14 t107.length co14)) (fun _ hk => hk.2) (.bool t103)) (fun _ hk => hk.2) (.slice Ao13 t104.length co13)) (fun _ hk => hk.2) (.slice Ao14 t107.length co14)) (fun _ hk => hk.1.1), by (with_reducible repeat (first | apply Kd.rA9 | apply Kd.rN9 | apply Kd.rD9)); exact Kd.R_mono (Kd.R_far (p := ⟨gb102, 2, none⟩) (Kd.R_far (p := ⟨gb102, 1, none⟩) (Kd.R_far (p := ⟨gb102, 0, none⟩) (Kd.R_far (p := ⟨gb111, 2, none⟩) (Kd.R_far (p := ⟨gb111, 1, none⟩) (Kd.R_far (p := ⟨gb111, 0, none⟩) (Kd.rT9 (Kd.rT9 HO109.out BK111.out (by decide)) BK102.out (by decide)) (fun _ hk => hk.1.2) (.bool t103)) (fun _ hk => hk.1.2) (.slice Ao13 t104.length co13)) (fun _ hk => hk.1.2) (.slice Ao14 t107.length co14)) (fun _ hk => hk.2) (.bool t103)) (fun _ hk => hk.2) (.slice Ao13 t104.length co13)) (fun _ hk => hk.2) (.slice Ao14 t107.length co14)) (fun _ hk => hk.1.1), by repeat (first | (with_reducible first | exact HB.out | apply bA9 | apply bN9 | apply bD9 | refine bS9 ?_ GE101.out | refine bS9 ?_ GE102.out | refine bS9 ?_ GE111.out) | exact HB.out)⟩
 ·rw [if_neg c3] at H
  have c3b0 : (t110 == 0) = false := beq_eq_false_iff_ne.mpr c3
  have c3b1 : (t110 != 0) = true := bne_iff_ne.mpr c3
  replace H := Option.bind_eq_some_iff.mp H
  obtain ⟨t112, A160, H⟩ := H
  replace H : (some (false, ([] : List Int), t112)) = some (r1, r2, r3) := H
  have A16 := Aside0.mk A160
  clear A160
  simp only [Option.some.injEq, Prod.mk.injEq] at H
  obtain ⟨rfl, rfl, rfl⟩ := H
  go_enter Tryz.func31, Tryz.ntmps31
  go_wp2_with (first | ((with_reducible refine gD9 (N := 1) rfl ?_); refine bE9 ?hg (N := 1) ?hd (cs := #[.bool a0_0, .slice A0_1 l0_1.length c0_1, .slice A0_2 l0_2.length c0_2]) (t := 31) ?hr ?_; (case hd => rfl); (case hg => rfl); (case hr => first | (go_simp; done) | (go_simp; rfl)); intro gb101 hg w17 hbox hb; have n0_ := Aside0.mk (bT9 (by repeat (first | (with_reducible first | exact HB.out | apply bA9 | apply bN9 | apply bD9) | exact HB.out)) hb); have n1_ := Aside0.mk (hbox); have n2_ := Aside0.mk ((by rw [hg]; exact (bZ9 (by repeat (first | (with_reducible first | exact HB.out | apply bA9 | apply bN9 | apply bD9) | exact HB.out))) : w.heap.size ≤ gb101)); have n3_ := Aside0.mk ((by rw [hg]; exact (bZ9 (by repeat (first | (with_reducible first | exact HB.out | apply bA9 | apply bN9 | apply bD9) | exact HB.out))) : w.heap.size ≤ gb101)); clear HB; have HB := n0_; have BK101 := n1_; have GW101 := n2_; have GE101 := n3_; clear n0_ n1_ n2_ n3_; clear hb hbox hg) | ((with_reducible refine gD9 (N := 2) rfl ?_); refine bE9 ?hg (N := 2) ?hd (cs := #[.bool false, .slice none 0 0, .slice none 0 0]) (t := 31) ?hr ?_; (case hd => rfl); (case hg => rfl); (case hr => first | (go_simp; done) | (go_simp; rfl)); intro gb102 hg w18 hbox hb; have n0_ := Aside0.mk (kB9 (g := gb101) (o := .cells #[.bool a0_0, .slice A0_1 l0_1.length c0_1, .slice A0_2 l0_2.length c0_2] 31 (0, 0)) (by (with_reducible repeat (first | refine kN9 ?_ _ | refine kD9 ?_ | refine kA9 ?_ _)); exact BK101.out) hb); have n1_ := Aside0.mk (bT9 (by repeat (first | (with_reducible first | exact HB.out | apply bA9 | apply bN9 | apply bD9 | refine bS9 ?_ GE101.out) | exact HB.out)) hb); have n2_ := Aside0.mk (hbox); have n3_ := Aside0.mk ((by rw [hg]; exact (bZ9 (by repeat (first | (with_reducible first | exact HB.out | apply bA9 | apply bN9 | apply bD9 | refine bS9 ?_ GE101.out) | exact HB.out))) : w.heap.size ≤ gb102)); have n4_ := Aside0.mk ((by rw [hg]; exact (bZ9 (by repeat (first | (with_reducible first | exact HB.out | apply bA9 | apply bN9 | apply bD9 | refine bS9 ?_ GE101.out) | exact HB.out))) : w.heap.size ≤ gb102)); have n5_ := Aside0.mk ((by rw [hg]; exact Nat.ne_of_lt (blk_lt (g := gb101) (o := .cells #[.bool a0_0, .slice A0_1 l0_1.length c0_1, .slice A0_2 l0_2.length c0_2] 31 (0, 0)) (by (with_reducible repeat (first | refine kN9 ?_ _ | refine kD9 ?_ | refine kA9 ?_ _)); exact BK101.out)) : gb101 ≠ gb102)); have n6_ := Aside0.mk ((by rw [hg]; exact Nat.ne_of_gt (blk_lt (g := gb101) (o := .cells #[.bool a0_0, .slice A0_1 l0_1.length c0_1, .slice A0_2 l0_2.length c0_2] 31 (0, 0)) (by (with_reducible repeat (first | refine kN9 ?_ _ | refine kD9 ?_ | refine kA9 ?_ _)); exact BK101.out)) : gb102 ≠ gb101)); clear BK101; clear HB; have BK101 := n0_; have HB := n1_; have BK102 := n2_; have GW102 := n3_; have GE102 := n4_; have NB101_102 := n5_; have NB102_101 := n6_; clear n0_ n1_ n2_ n3_ n4_ n5_ n6_; clear hb hbox hg; have hnb19 := NB101_102.out; have hnc19 := NB102_101.out; have hcz20_0 : w18.cell? ⟨gb101, 0, none⟩ = some (.bool a0_0) := (kC9 BK101.out 0).trans rfl; have hcz20_1 : w18.cell? ⟨gb101, 1, none⟩ = some (.slice A0_1 l0_1.length c0_1) := (kC9 BK101.out 1).trans rfl; have hcz20_2 : w18.cell? ⟨gb101, 2, none⟩ = some (.slice A0_2 l0_2.length c0_2) := (kC9 BK101.out 2).trans rfl; have hfz20_0 := kF9 BK101.out 0; have hfz20_1 := kF9 BK101.out 1; have hfz20_2 := kF9 BK101.out 2) | ((with_reducible refine gC9 (f := 54) rfl ?_); refine goesL_ (some 12) rfl rfl Tryz.func54 (by kernel_rfl) rfl #[.bool a0_0, .slice A0_1 l0_1.length c0_1, .slice A0_2 l0_2.length c0_2] rfl (by (try simp only [List.map_toArray, List.map_cons, List.map_nil]); first | done | rfl | (simp only [List.length_drop, List.length_take]; rfl)) ?_; (with_reducible refine (rat_Make.calls a0_0 _ _ l0_1 _ _ l0_2 t103 t104 t107 t110 _ ?side1 ?side2 ?side3 ?side4 A2.out).mono ?_); (case side1 => repeat (first | exact (Kd.cB9 HR0_1.out HB.out) | (with_reducible refine Kd.cA9 ?_ _) | (with_reducible refine Kd.cN9 ?_ _) | (with_reducible refine Kd.cD9 ?_))); (case side2 => exact HC0_1.out); (case side3 => repeat (first | exact (Kd.cB9 HR0_2.out HB.out) | (with_reducible refine Kd.cA9 ?_ _) | (with_reducible refine Kd.cN9 ?_ _) | (with_reducible refine Kd.cD9 ?_))); (case side4 => exact HC0_2.out); rintro e w21 ⟨v105, v108, rfl, ho0, ho1, hb⟩; refine ⟨_, rfl, ?_⟩; have n0_ := Aside0.mk (Kd.rL9 ho0 (bZ9 (by repeat (first | (with_reducible first | exact HB.out | apply bA9 | apply bN9 | apply bD9 | refine bS9 ?_ GE101.out | refine bS9 ?_ GE102.out) | exact HB.out)))); have n1_ := Aside0.mk (Kd.rL9 ho1 (bZ9 (by repeat (first | (with_reducible first | exact HB.out | apply bA9 | apply bN9 | apply bD9 | refine bS9 ?_ GE101.out | refine bS9 ?_ GE102.out) | exact HB.out)))); have n2_ := Aside0.mk (kB9 (g := gb101) (o := .cells #[.bool a0_0, .slice A0_1 l0_1.length c0_1, .slice A0_2 l0_2.length c0_2] 31 (0, 0)) (by (with_reducible repeat (first | refine kN9 ?_ _ | refine kD9 ?_ | refine kA9 ?_ _)); exact BK101.out) hb); have n3_ := Aside0.mk (kB9 (g := gb102) (o := .cells #[.bool false, .slice none 0 0, .slice none 0 0] 31 (0, 0)) (by (with_reducible repeat (first | refine kN9 ?_ _ | refine kD9 ?_ | refine kA9 ?_ _)); exact BK102.out) hb); have n4_ := Aside0.mk (bT9 (by repeat (first | (with_reducible first | exact HB.out | apply bA9 | apply bN9 | apply bD9 | refine bS9 ?_ GE101.out | refine bS9 ?_ GE102.out) | exact HB.out)) hb); clear BK101; clear BK102; clear HB; have HO106 := n0_; have HO109 := n1_; have BK101 := n2_; have BK102 := n3_; have HB := n4_; clear n0_ n1_ n2_ n3_ n4_; (try clear hb); (try clear hb2); (try clear hk); (try clear hi); (try clear ho0); (try clear ho1)) | ((with_reducible refine gD9 (N := 3) rfl ?_); refine bE9 ?hg (N := 3) ?hd (cs := #[.bool false, .slice none 0 0, .slice none 0 0]) (t := 31) ?hr ?_; (case hd => rfl); (case hg => rfl); (case hr => first | (go_simp; done) | (go_simp; rfl)); intro gb111 hg w22 hbox hb; have n0_ := Aside0.mk (Kd.rB9 (by (with_reducible repeat (first | apply Kd.rA9 | apply Kd.rN9 | apply Kd.rD9)); exact HO106.out) hb); have n1_ := Aside0.mk (Kd.rB9 (by (with_reducible repeat (first | apply Kd.rA9 | apply Kd.rN9 | apply Kd.rD9)); exact HO109.out) hb); have n2_ := Aside0.mk (kB9 (g := gb101) (o := .cells #[.bool a0_0, .slice A0_1 l0_1.length c0_1, .slice A0_2 l0_2.length c0_2] 31 (0, 0)) (by (with_reducible repeat (first | refine kN9 ?_ _ | refine kD9 ?_ | refine kA9 ?_ _)); exact BK101.out) hb); have n3_ := Aside0.mk (kB9 (g := gb102) (o := .cells #[.bool false, .slice none 0 0, .slice none 0 0] 31 (0, 0)) (by (with_reducible repeat (first | refine kN9 ?_ _ | refine kD9 ?_ | refine kA9 ?_ _)); exact BK102.out) hb); have n4_ := Aside0.mk (bT9 (by repeat (first | (with_reducible first | exact HB.out | apply bA9 | apply bN9 | apply bD9 | refine bS9 ?_ GE101.out | refine bS9 ?_ GE102.out) | exact HB.out)) hb); have n5_ := Aside0.mk (hbox); have n6_ := Aside0.mk ((by rw [hg]; exact (bZ9 (by repeat (first | (with_reducible first | exact HB.out | apply bA9 | apply bN9 | apply bD9 | refine bS9 ?_ GE101.out | refine bS9 ?_ GE102.out) | exact HB.out))) : w.heap.size ≤ gb111)); have n7_ := Aside0.mk ((by rw [hg]; exact (bZ9 (by repeat (first | (with_reducible first | exact HB.out | apply bA9 | apply bN9 | apply bD9 | refine bS9 ?_ GE101.out | refine bS9 ?_ GE102.out) | exact HB.out))) : w.heap.size ≤ gb111)); have n8_ := Aside0.mk ((by rw [hg]; exact Nat.ne_of_lt (blk_lt (g := gb101) (o := .cells #[.bool a0_0, .slice A0_1 l0_1.length c0_1, .slice A0_2 l0_2.length c0_2] 31 (0, 0)) (by (with_reducible repeat (first | refine kN9 ?_ _ | refine kD9 ?_ | refine kA9 ?_ _)); exact BK101.out)) : gb101 ≠ gb111)); have n9_ := Aside0.mk ((by rw [hg]; exact Nat.ne_of_gt (blk_lt (g := gb101) (o := .cells #[.bool a0_0, .slice A0_1 l0_1.length c0_1, .slice A0_2 l0_2.length c0_2] 31 (0, 0)) (by (with_reducible repeat (first | refine kN9 ?_ _ | refine kD9 ?_ | refine kA9 ?_ _)); exact BK101.out)) : gb111 ≠ gb101)); have n10_ := Aside0.mk ((by rw [hg]; exact Nat.ne_of_lt (blk_lt (g := gb102) (o := .cells #[.bool false, .slice none 0 0, .slice none 0 0] 31 (0, 0)) (by (with_reducible repeat (first | refine kN9 ?_ _ | refine kD9 ?_ | refine kA9 ?_ _)); exact BK102.out)) : gb102 ≠ gb111)); have n11_ := Aside0.mk ((by rw [hg]; exact Nat.ne_of_gt (blk_lt (g := gb102) (o := .cells #[.bool false, .slice none 0 0, .slice none 0 0] 31 (0, 0)) (by (with_reducible repeat (first | refine kN9 ?_ _ | refine kD9 ?_ | refine kA9 ?_ _)); exact BK102.out)) : gb111 ≠ gb102)); clear HO106; clear HO109; clear BK101; clear BK102; clear HB; have HO106 := n0_; have HO109 := n1_; have BK101 := n2_; have BK102 := n3_; have HB := n4_; have BK111 := n5_; have GW111 := n6_; have GE111 := n7_; have NB101_111 := n8_; have NB111_101 := n9_; have NB102_111 := n10_; have NB111_102 := n11_; clear n0_ n1_ n2_ n3_ n4_ n5_ n6_ n7_ n8_ n9_ n10_ n11_; clear hb hbox hg; have hnb23 := NB111_101.out; have hnc23 := NB101_111.out; have hnb24 := NB111_102.out; have hnc24 := NB102_111.out; have hcz25_0 : w22.cell? ⟨gb111, 0, none⟩ = some (.bool false) := (kC9 BK111.out 0).trans rfl; have hcz25_1 : w22.cell? ⟨gb111, 1, none⟩ = some (.slice none 0 0) := (kC9 BK111.out 1).trans rfl; have hcz25_2 : w22.cell? ⟨gb111, 2, none⟩ = some (.slice none 0 0) := (kC9 BK111.out 2).trans rfl; have hfz25_0 := kF9 BK111.out 0; have hfz25_1 := kF9 BK111.out 1; have hfz25_2 := kF9 BK111.out 2; obtain ⟨Ao26, co26, eo26⟩ := Kd.rS9 HO106.out; subst eo26; obtain ⟨Ao27, co27, eo27⟩ := Kd.rS9 HO109.out; subst eo27) | ((with_reducible refine gC9 (f := 55) rfl ?_); refine goesL_ (some 17) rfl rfl Tryz.func55 (by kernel_rfl) rfl #[] rfl (by (try simp only [List.map_toArray, List.map_cons, List.map_nil]); first | done | rfl | (simp only [List.length_drop, List.length_take]; rfl)) ?_; (with_reducible refine (rat_one.calls  t112 _ A16.out).mono ?_); rintro e w28 ⟨v113, rfl, ho0, hb⟩; refine ⟨_, rfl, ?_⟩; have n0_ := Aside0.mk (Kd.R_elder' (by (with_reducible repeat (first | apply Kd.rA9 | apply Kd.rN9 | apply Kd.rD9)); exact (Kd.R_mono (Kd.R_far (p := ⟨gb111, 2, none⟩) (Kd.R_far (p := ⟨gb111, 1, none⟩) (Kd.R_far (p := ⟨gb111, 0, none⟩) (Kd.rT9 HO106.out BK111.out (by decide)) (fun _ hk => hk.2) (.bool t103)) (fun _ hk => hk.2) (.slice Ao26 t104.length co26)) (fun _ hk => hk.2) (.slice Ao27 t107.length co27)) (fun _ h_ => h_.1))) (Kd.R_base ho0) hb); have n1_ := Aside0.mk (Kd.R_elder' (by (with_reducible repeat (first | apply Kd.rA9 | apply Kd.rN9 | apply Kd.rD9)); exact (Kd.R_mono (Kd.R_far (p := ⟨gb111, 2, none⟩) (Kd.R_far (p := ⟨gb111, 1, none⟩) (Kd.R_far (p := ⟨gb111, 0, none⟩) (Kd.rT9 HO109.out BK111.out (by decide)) (fun _ hk => hk.2) (.bool t103)) (fun _ hk => hk.2) (.slice Ao26 t104.length co26)) (fun _ hk => hk.2) (.slice Ao27 t107.length co27)) (fun _ h_ => h_.1))) (Kd.R_base ho0) hb); have n2_ := Aside0.mk (Kd.rL9 (Kd.R_new' (Kd.R_new' ho0 (Kd.R_lt (by (with_reducible repeat (first | apply Kd.rA9 | apply Kd.rN9 | apply Kd.rD9)); exact (Kd.R_mono (Kd.R_far (p := ⟨gb111, 2, none⟩) (Kd.R_far (p := ⟨gb111, 1, none⟩) (Kd.R_far (p := ⟨gb111, 0, none⟩) (Kd.rT9 HO106.out BK111.out (by decide)) (fun _ hk => hk.2) (.bool t103)) (fun _ hk => hk.2) (.slice Ao26 t104.length co26)) (fun _ hk => hk.2) (.slice Ao27 t107.length co27)) (fun _ h_ => h_.1))))) (Kd.R_lt (by (with_reducible repeat (first | apply Kd.rA9 | apply Kd.rN9 | apply Kd.rD9)); exact (Kd.R_mono (Kd.R_far (p := ⟨gb111, 2, none⟩) (Kd.R_far (p := ⟨gb111, 1, none⟩) (Kd.R_far (p := ⟨gb111, 0, none⟩) (Kd.rT9 HO109.out BK111.out (by decide)) (fun _ hk => hk.2) (.bool t103)) (fun _ hk => hk.2) (.slice Ao26 t104.length co26)) (fun _ hk => hk.2) (.slice Ao27 t107.length co27)) (fun _ h_ => h_.1))))) (bZ9 (by repeat (first | (with_reducible first | exact HB.out | apply bA9 | apply bN9 | apply bD9 | refine bS9 ?_ GE101.out | refine bS9 ?_ GE102.out | refine bS9 ?_ GE111.out) | exact HB.out)))); have n3_ := Aside0.mk (kB9 (g := gb101) (o := .cells #[.bool a0_0, .slice A0_1 l0_1.length c0_1, .slice A0_2 l0_2.length c0_2] 31 (0, 0)) (by (with_reducible repeat (first | refine kN9 ?_ _ | refine kD9 ?_ | refine kA9 ?_ _)); refine blk_far ?_ NB101_111.out _; (with_reducible repeat (first | refine kN9 ?_ _ | refine kD9 ?_ | refine kA9 ?_ _)); refine blk_far ?_ NB101_111.out _; (with_reducible repeat (first | refine kN9 ?_ _ | refine kD9 ?_ | refine kA9 ?_ _)); refine blk_far ?_ NB101_111.out _; (with_reducible repeat (first | refine kN9 ?_ _ | refine kD9 ?_ | refine kA9 ?_ _)); exact BK101.out) hb); have n4_ := Aside0.mk (kB9 (g := gb102) (o := .cells #[.bool false, .slice none 0 0, .slice none 0 0] 31 (0, 0)) (by (with_reducible repeat (first | refine kN9 ?_ _ | refine kD9 ?_ | refine kA9 ?_ _)); refine blk_far ?_ NB102_111.out _; (with_reducible repeat (first | refine kN9 ?_ _ | refine kD9 ?_ | refine kA9 ?_ _)); refine blk_far ?_ NB102_111.out _; (with_reducible repeat (first | refine kN9 ?_ _ | refine kD9 ?_ | refine kA9 ?_ _)); refine blk_far ?_ NB102_111.out _; (with_reducible repeat (first | refine kN9 ?_ _ | refine kD9 ?_ | refine kA9 ?_ _)); exact BK102.out) hb); have n5_ := Aside0.mk (kB9 (g := gb111) (o := .cells #[.bool t103, .slice Ao26 t104.length co26, .slice Ao27 t107.length co27] 31 (0, 0)) (by (with_reducible repeat (first | refine kN9 ?_ _ | refine kD9 ?_ | refine kA9 ?_ _)); refine kP9 (cs := #[.bool t103, .slice Ao26 t104.length co26, .slice none 0 0]) ?_ 2 _ rfl; (with_reducible repeat (first | refine kN9 ?_ _ | refine kD9 ?_ | refine kA9 ?_ _)); refine kP9 (cs := #[.bool t103, .slice none 0 0, .slice none 0 0]) ?_ 1 _ rfl; (with_reducible repeat (first | refine kN9 ?_ _ | refine kD9 ?_ | refine kA9 ?_ _)); refine kP9 (cs := #[.bool false, .slice none 0 0, .slice none 0 0]) ?_ 0 _ rfl; (with_reducible repeat (first | refine kN9 ?_ _ | refine kD9 ?_ | refine kA9 ?_ _)); exact BK111.out) hb); have n6_ := Aside0.mk (bT9 (by repeat (first | (with_reducible first | exact HB.out | apply bA9 | apply bN9 | apply bD9 | refine bS9 ?_ GE101.out | refine bS9 ?_ GE102.out | refine bS9 ?_ GE111.out) | exact HB.out)) hb); clear HO106; clear HO109; clear BK101; clear BK102; clear BK111; clear HB; have HO106 := n0_; have HO109 := n1_; have HO114 := n2_; have BK101 := n3_; have BK102 := n4_; have BK111 := n5_; have HB := n6_; clear n0_ n1_ n2_ n3_ n4_ n5_ n6_; (try clear hb); (try clear hb2); (try clear hk); (try clear hi); (try clear ho0); obtain ⟨Ao29, co29, eo29⟩ := Kd.rS9 HO114.out; subst eo29; have hcz30_0 : w28.cell? ⟨gb102, 0, none⟩ = some (.bool false) := (kC9 BK102.out 0).trans rfl; have hcz30_1 : w28.cell? ⟨gb102, 1, none⟩ = some (.slice none 0 0) := (kC9 BK102.out 1).trans rfl; have hcz30_2 : w28.cell? ⟨gb102, 2, none⟩ = some (.slice none 0 0) := (kC9 BK102.out 2).trans rfl; have hfz30_0 := kF9 BK102.out 0; have hfz30_1 := kF9 BK102.out 1; have hfz30_2 := kF9 BK102.out 2))
  refine bodyPost_ret (results_cell_row rfl _ _ gb102 31 #[.bool false, .slice none 0 0, .slice Ao29 t112.length co29] (0, 0) _ rfl (by (with_reducible repeat (first | refine kN9 ?_ _ | refine kD9 ?_ | refine kA9 ?_ _)); refine kP9 (cs := #[.bool false, .slice none 0 0, .slice none 0 0]) ?_ 2 _ rfl; (with_reducible repeat (first | refine kN9 ?_ _ | refine kD9 ?_ | refine kA9 ?_ _)); refine kP9 (cs := #[.bool false, .slice none 0 0, .slice none 0 0]) ?_ 1 _ rfl; (with_reducible repeat (first | refine kN9 ?_ _ | refine kD9 ?_ | refine kA9 ?_ _)); refine kP9 (cs := #[.bool false, .slice none 0 0, .slice none 0 0]) ?_ 0 _ rfl; (with_reducible repeat (first | refine kN9 ?_ _ | refine kD9 ?_ | refine kA9 ?_ _)); exact BK102.out) Tryz.underlying31 rfl (by kernel_rfl)) rfl ?_
  exact ⟨_, _, by first | rfl | (simp [eN9, eS9] <;> rfl) | (simp [*, eN9, eS9] <;> rfl), by first | exact Kd.R_nil _ _ _ _ _ | exact Kd.N_nil _ _ _ _ _ | exact Kd.V_nil _ _ _ _ _ | exact Kd.Q_nil _ _ _ _ _ | exact Kd.S_nil _ _ _ _ _, by (with_reducible repeat (first | apply Kd.rA9 | apply Kd.rN9 | apply Kd.rD9)); exact Kd.R_mono (Kd.R_far (p := ⟨gb102, 2, none⟩) (Kd.R_far (p := ⟨gb102, 1, none⟩) (Kd.R_far (p := ⟨gb102, 0, none⟩) (Kd.rT9 HO114.out BK102.out (by decide)) (fun _ hk => hk.2) (.bool false)) (fun _ hk => hk.2) (.slice none 0 0)) (fun _ hk => hk.2) (.slice Ao29 t112.length co29)) (fun _ hk => (by simp [Value.ownBlock])), by repeat (first | (with_reducible first | exact HB.out | apply bA9 | apply bN9 | apply bD9 | refine bS9 ?_ GE101.out | refine bS9 ?_ GE102.out | refine bS9 ?_ GE111.out) | exact HB.out)⟩
def rat_limbs.f (l0 : List Int) (l1 : List Int) : Option (Bool) := if (l0.length : Int) = (l1.length : Int) then ((nat_Cmp.f l0 l1).bind fun t115 => (some (t115 == 0))) else (some false)
set_option maxHeartbeats 8000000 in
set_option maxRecDepth 100000 in
theorem rat_limbs.calls (A0 : Option Addr) (c0 : Nat) (l0 : List Int) (A1 : Option Addr) (c1 : Nat) (l1 : List Int) (r : Bool) (w : World) (hr0 : Kd.C (Kd.int .u32) w A0 l0.length l0) (hc0 : l0.length ≤ c0) (hr1 : Kd.C (Kd.int .u32) w A1 l1.length l1) (hc1 : l1.length ≤ c1) (h : rat_limbs.f l0 l1 = some r) :
  Calls Tryz.prog 77 #[.slice A0 l0.length c0, .slice A1 l1.length c1] w fun e w' => e = .returned (.bool r) ∧ Below w.heap.size w w' := by
 have HR0 := Aside0.mk hr0
 have HC0 := Aside0.mk hc0
 clear hr0 hc0
 have HR1 := Aside0.mk hr1
 have HC1 := Aside0.mk hc1
 clear hr1 hc1
 have HB := Aside0.mk (Below.refl w.heap.size w)
 have H : (if (l0.length : Int) = (l1.length : Int) then ((nat_Cmp.f l0 l1).bind fun t115 => (some (t115 == 0))) else (some false)) = some r := h
 clear h
 by_cases c3 : (l0.length : Int) = (l1.length : Int)
 ·rw [if_pos c3] at H
  have c3b0 : ((l0.length : Int) == (l1.length : Int)) = true := beq_iff_eq.mpr c3
  have c3b1 : ((l0.length : Int) != (l1.length : Int)) = false := bne_eq_false_iff_eq.mpr c3
  have c3b2 : (l0.length == l1.length) = true := by first | simpa using c3 | (simp at c3 ⊢; omega)
  clear c3
  replace H := Option.bind_eq_some_iff.mp H
  obtain ⟨t115, A40, H⟩ := H
  replace H : (some (t115 == 0)) = some r := H
  have A4 := Aside0.mk A40
  clear A40
  obtain rfl := Option.some.inj H
  go_enter Tryz.func77, Tryz.ntmps77
  go_wp2_with (first | (go_at_call 33; (with_reducible refine (nat_Cmp.calls _ _ l0 _ _ l1 t115 _ ?side1 ?side2 ?side3 ?side4 A4.out).mono ?_); (case side1 => repeat (first | exact HR0.out | (with_reducible refine Kd.cA9 ?_ _) | (with_reducible refine Kd.cN9 ?_ _) | (with_reducible refine Kd.cD9 ?_))); (case side2 => exact HC0.out); (case side3 => repeat (first | exact HR1.out | (with_reducible refine Kd.cA9 ?_ _) | (with_reducible refine Kd.cN9 ?_ _) | (with_reducible refine Kd.cD9 ?_))); (case side4 => exact HC1.out); rintro e w5 ⟨rfl, hb⟩; have n0_ := Aside0.mk (bT9 (by repeat (first | (with_reducible first | exact HB.out | apply bA9 | apply bN9 | apply bD9) | exact HB.out)) hb); clear HB; have HB := n0_; clear n0_; (try clear hb); (try clear hb2); (try clear hk); (try clear hi)))
  go_ret
  exact ⟨by first | rfl | (simp [eN9, eS9] <;> rfl) | (simp [*, eN9, eS9] <;> rfl), by repeat (first | (with_reducible first | exact HB.out | apply bA9 | apply bN9 | apply bD9) | exact HB.out)⟩
 ·rw [if_neg c3] at H
  have c3b0 : ((l0.length : Int) == (l1.length : Int)) = false := beq_eq_false_iff_ne.mpr c3
  have c3b1 : ((l0.length : Int) != (l1.length : Int)) = true := bne_iff_ne.mpr c3
  have c3b2 : (l0.length == l1.length) = false := by first | simpa using c3 | (simp at c3 ⊢; omega)
  obtain rfl := Option.some.inj H
  go_enter Tryz.func77, Tryz.ntmps77
  go_wp2
  go_ret
  exact ⟨by first | rfl | (simp [eN9, eS9] <;> rfl) | (simp [*, eN9, eS9] <;> rfl), by repeat (first | (with_reducible first | exact HB.out | apply bA9 | apply bN9 | apply bD9) | exact HB.out)⟩
def rat_May.f (a0_0 : Bool) (l0_1 : List Int) (l0_2 : List Int) : Option (Int) := (rat_Norm.f a0_0 l0_1 l0_2).bind fun bt117 => (if (bt117.1 != a0_0) = true then (some 6) else ((rat_limbs.f bt117.2.1 l0_1).bind fun t125 => (if t125 = true then ((rat_limbs.f bt117.2.2 l0_2).bind fun t126 => (if t126 = true then (some 0) else (some 6))) else (some 6))))
set_option maxHeartbeats 8000000 in
set_option maxRecDepth 100000 in
theorem rat_May.calls (a0_0 : Bool) (A0_1 : Option Addr) (c0_1 : Nat) (l0_1 : List Int) (A0_2 : Option Addr) (c0_2 : Nat) (l0_2 : List Int) (r : Int) (w : World) (hr0_1 : Kd.C (Kd.int .u32) w A0_1 l0_1.length l0_1) (hc0_1 : l0_1.length ≤ c0_1) (hr0_2 : Kd.C (Kd.int .u32) w A0_2 l0_2.length l0_2) (hc0_2 : l0_2.length ≤ c0_2) (h : rat_May.f a0_0 l0_1 l0_2 = some r) :
  Calls Tryz.prog 44 #[.agg #[.bool a0_0, .slice A0_1 l0_1.length c0_1, .slice A0_2 l0_2.length c0_2]] w fun e w' => e = .returned (.int .i64 r) ∧ Below w.heap.size w w' := by
 have hu31 := Tryz.underlying31
 have HR0_1 := Aside0.mk hr0_1
 have HC0_1 := Aside0.mk hc0_1
 clear hr0_1 hc0_1
 have HR0_2 := Aside0.mk hr0_2
 have HC0_2 := Aside0.mk hc0_2
 clear hr0_2 hc0_2
 have HB := Aside0.mk (Below.refl w.heap.size w)
 have H : ((rat_Norm.f a0_0 l0_1 l0_2).bind fun bt117 => (if (bt117.1 != a0_0) = true then (some 6) else ((rat_limbs.f bt117.2.1 l0_1).bind fun t125 => (if t125 = true then ((rat_limbs.f bt117.2.2 l0_2).bind fun t126 => (if t126 = true then (some 0) else (some 6))) else (some 6))))) = some r := h
 clear h
 replace H := Option.bind_eq_some_iff.mp H
 obtain ⟨⟨t117, t118, t121⟩, A20, H⟩ := H
 (try dsimp only at H)
 have A2 := Aside0.mk A20
 clear A20
 by_cases c3 : (t117 != a0_0) = true
 ·rw [if_pos c3] at H
  have c3b0 : (t117 != a0_0) = true := c3
  (try (have c3b1 : decide (t117 = a0_0) = false := by simpa using c3))
  (try (have c3b2 : (t117 == a0_0) = false := by simpa using c3))
  (try (have c3b3 : ¬ (t117 = a0_0) := by simpa using c3))
  clear c3
  obtain rfl := Option.some.inj H
  go_enter Tryz.func44, Tryz.ntmps44
  go_wp2_with (first | ((with_reducible refine gD9 (N := 1) rfl ?_); refine bE9 ?hg (N := 1) ?hd (cs := #[.bool a0_0, .slice A0_1 l0_1.length c0_1, .slice A0_2 l0_2.length c0_2]) (t := 31) ?hr ?_; (case hd => rfl); (case hg => rfl); (case hr => first | (go_simp; done) | (go_simp; rfl)); intro gb116 hg w4 hbox hb; have n0_ := Aside0.mk (bT9 (by repeat (first | (with_reducible first | exact HB.out | apply bA9 | apply bN9 | apply bD9) | exact HB.out)) hb); have n1_ := Aside0.mk (hbox); have n2_ := Aside0.mk ((by rw [hg]; exact (bZ9 (by repeat (first | (with_reducible first | exact HB.out | apply bA9 | apply bN9 | apply bD9) | exact HB.out))) : w.heap.size ≤ gb116)); have n3_ := Aside0.mk ((by rw [hg]; exact (bZ9 (by repeat (first | (with_reducible first | exact HB.out | apply bA9 | apply bN9 | apply bD9) | exact HB.out))) : w.heap.size ≤ gb116)); clear HB; have HB := n0_; have BK116 := n1_; have GW116 := n2_; have GE116 := n3_; clear n0_ n1_ n2_ n3_; clear hb hbox hg; have hcz5_0 : w4.cell? ⟨gb116, 0, none⟩ = some (.bool a0_0) := (kC9 BK116.out 0).trans rfl; have hcz5_1 : w4.cell? ⟨gb116, 1, none⟩ = some (.slice A0_1 l0_1.length c0_1) := (kC9 BK116.out 1).trans rfl; have hcz5_2 : w4.cell? ⟨gb116, 2, none⟩ = some (.slice A0_2 l0_2.length c0_2) := (kC9 BK116.out 2).trans rfl; have hfz5_0 := kF9 BK116.out 0; have hfz5_1 := kF9 BK116.out 1; have hfz5_2 := kF9 BK116.out 2) | ((with_reducible refine gC9 (f := 31) rfl ?_); refine goesL_ (some 5) rfl rfl Tryz.func31 (by kernel_rfl) rfl #[.agg #[.bool a0_0, .slice A0_1 l0_1.length c0_1, .slice A0_2 l0_2.length c0_2]] rfl (by (try simp only [List.map_toArray, List.map_cons, List.map_nil]); first | done | rfl | (simp only [List.length_drop, List.length_take]; rfl)) ?_; (with_reducible refine (rat_Norm.calls a0_0 _ _ l0_1 _ _ l0_2 t117 t118 t121 _ ?side1 ?side2 ?side3 ?side4 A2.out).mono ?_); (case side1 => repeat (first | exact (Kd.cB9 HR0_1.out HB.out) | (with_reducible refine Kd.cA9 ?_ _) | (with_reducible refine Kd.cN9 ?_ _) | (with_reducible refine Kd.cD9 ?_))); (case side2 => exact HC0_1.out); (case side3 => repeat (first | exact (Kd.cB9 HR0_2.out HB.out) | (with_reducible refine Kd.cA9 ?_ _) | (with_reducible refine Kd.cN9 ?_ _) | (with_reducible refine Kd.cD9 ?_))); (case side4 => exact HC0_2.out); rintro e w6 ⟨v119, v122, rfl, ho0, ho1, hb⟩; refine ⟨_, rfl, ?_⟩; have n0_ := Aside0.mk (Kd.rL9 ho0 (bZ9 (by repeat (first | (with_reducible first | exact HB.out | apply bA9 | apply bN9 | apply bD9 | refine bS9 ?_ GE116.out) | exact HB.out)))); have n1_ := Aside0.mk (Kd.rL9 ho1 (bZ9 (by repeat (first | (with_reducible first | exact HB.out | apply bA9 | apply bN9 | apply bD9 | refine bS9 ?_ GE116.out) | exact HB.out)))); have n2_ := Aside0.mk (kB9 (g := gb116) (o := .cells #[.bool a0_0, .slice A0_1 l0_1.length c0_1, .slice A0_2 l0_2.length c0_2] 31 (0, 0)) (by (with_reducible repeat (first | refine kN9 ?_ _ | refine kD9 ?_ | refine kA9 ?_ _)); exact BK116.out) hb); have n3_ := Aside0.mk (bT9 (by repeat (first | (with_reducible first | exact HB.out | apply bA9 | apply bN9 | apply bD9 | refine bS9 ?_ GE116.out) | exact HB.out)) hb); clear BK116; clear HB; have HO120 := n0_; have HO123 := n1_; have BK116 := n2_; have HB := n3_; clear n0_ n1_ n2_ n3_; (try clear hb); (try clear hb2); (try clear hk); (try clear hi); (try clear ho0); (try clear ho1)) | ((with_reducible refine gD9 (N := 3) rfl ?_); refine bE9 ?hg (N := 3) ?hd (cs := #[.bool false, .slice none 0 0, .slice none 0 0]) (t := 31) ?hr ?_; (case hd => rfl); (case hg => rfl); (case hr => first | (go_simp; done) | (go_simp; rfl)); intro gb124 hg w7 hbox hb; have n0_ := Aside0.mk (Kd.rB9 (by (with_reducible repeat (first | apply Kd.rA9 | apply Kd.rN9 | apply Kd.rD9)); exact HO120.out) hb); have n1_ := Aside0.mk (Kd.rB9 (by (with_reducible repeat (first | apply Kd.rA9 | apply Kd.rN9 | apply Kd.rD9)); exact HO123.out) hb); have n2_ := Aside0.mk (kB9 (g := gb116) (o := .cells #[.bool a0_0, .slice A0_1 l0_1.length c0_1, .slice A0_2 l0_2.length c0_2] 31 (0, 0)) (by (with_reducible repeat (first | refine kN9 ?_ _ | refine kD9 ?_ | refine kA9 ?_ _)); exact BK116.out) hb); have n3_ := Aside0.mk (bT9 (by repeat (first | (with_reducible first | exact HB.out | apply bA9 | apply bN9 | apply bD9 | refine bS9 ?_ GE116.out) | exact HB.out)) hb); have n4_ := Aside0.mk (hbox); have n5_ := Aside0.mk ((by rw [hg]; exact (bZ9 (by repeat (first | (with_reducible first | exact HB.out | apply bA9 | apply bN9 | apply bD9 | refine bS9 ?_ GE116.out) | exact HB.out))) : w.heap.size ≤ gb124)); have n6_ := Aside0.mk ((by rw [hg]; exact (bZ9 (by repeat (first | (with_reducible first | exact HB.out | apply bA9 | apply bN9 | apply bD9 | refine bS9 ?_ GE116.out) | exact HB.out))) : w.heap.size ≤ gb124)); have n7_ := Aside0.mk ((by rw [hg]; exact Nat.ne_of_lt (blk_lt (g := gb116) (o := .cells #[.bool a0_0, .slice A0_1 l0_1.length c0_1, .slice A0_2 l0_2.length c0_2] 31 (0, 0)) (by (with_reducible repeat (first | refine kN9 ?_ _ | refine kD9 ?_ | refine kA9 ?_ _)); exact BK116.out)) : gb116 ≠ gb124)); have n8_ := Aside0.mk ((by rw [hg]; exact Nat.ne_of_gt (blk_lt (g := gb116) (o := .cells #[.bool a0_0, .slice A0_1 l0_1.length c0_1, .slice A0_2 l0_2.length c0_2] 31 (0, 0)) (by (with_reducible repeat (first | refine kN9 ?_ _ | refine kD9 ?_ | refine kA9 ?_ _)); exact BK116.out)) : gb124 ≠ gb116)); clear HO120; clear HO123; clear BK116; clear HB; have HO120 := n0_; have HO123 := n1_; have BK116 := n2_; have HB := n3_; have BK124 := n4_; have GW124 := n5_; have GE124 := n6_; have NB116_124 := n7_; have NB124_116 := n8_; clear n0_ n1_ n2_ n3_ n4_ n5_ n6_ n7_ n8_; clear hb hbox hg; have hnb8 := NB124_116.out; have hnc8 := NB116_124.out; have hcz9_0 : w7.cell? ⟨gb124, 0, none⟩ = some (.bool false) := (kC9 BK124.out 0).trans rfl; have hcz9_1 : w7.cell? ⟨gb124, 1, none⟩ = some (.slice none 0 0) := (kC9 BK124.out 1).trans rfl; have hcz9_2 : w7.cell? ⟨gb124, 2, none⟩ = some (.slice none 0 0) := (kC9 BK124.out 2).trans rfl; have hfz9_0 := kF9 BK124.out 0; have hfz9_1 := kF9 BK124.out 1; have hfz9_2 := kF9 BK124.out 2; obtain ⟨Ao10, co10, eo10⟩ := Kd.rS9 HO120.out; subst eo10; obtain ⟨Ao11, co11, eo11⟩ := Kd.rS9 HO123.out; subst eo11; have hcz12_0 : w7.cell? ⟨gb116, 0, none⟩ = some (.bool a0_0) := (kC9 BK116.out 0).trans rfl; have hcz12_1 : w7.cell? ⟨gb116, 1, none⟩ = some (.slice A0_1 l0_1.length c0_1) := (kC9 BK116.out 1).trans rfl; have hcz12_2 : w7.cell? ⟨gb116, 2, none⟩ = some (.slice A0_2 l0_2.length c0_2) := (kC9 BK116.out 2).trans rfl; have hfz12_0 := kF9 BK116.out 0; have hfz12_1 := kF9 BK116.out 1; have hfz12_2 := kF9 BK116.out 2))
  go_ret
  exact ⟨by first | rfl | (simp [eN9, eS9] <;> rfl) | (simp [*, eN9, eS9] <;> rfl), by repeat (first | (with_reducible first | exact HB.out | apply bA9 | apply bN9 | apply bD9 | refine bS9 ?_ GE116.out | refine bS9 ?_ GE124.out) | exact HB.out)⟩
 ·rw [if_neg c3] at H
  have c3b0 : (t117 != a0_0) = false := by simpa using c3
  (try (have c3b1 : decide (t117 = a0_0) = true := by simpa using c3))
  (try (have c3b2 : (t117 == a0_0) = true := by simpa using c3))
  clear c3
  replace H := Option.bind_eq_some_iff.mp H
  obtain ⟨t125, A130, H⟩ := H
  (try dsimp only at H)
  have A13 := Aside0.mk A130
  clear A130
  by_cases c14 : t125 = true
  ·subst c14
   have H1 : ((rat_limbs.f t121 l0_2).bind fun t126 => (if t126 = true then (some 0) else (some 6))) = some r := by rw [if_pos rfl] at H; exact H
   clear H
   have H := H1
   clear H1
   replace H := Option.bind_eq_some_iff.mp H
   obtain ⟨t126, A150, H⟩ := H
   replace H : (if t126 = true then (some 0) else (some 6)) = some r := H
   have A15 := Aside0.mk A150
   clear A150
   by_cases c16 : t126 = true
   ·subst c16
    have H1 : (some 0) = some r := by rw [if_pos rfl] at H; exact H
    clear H
    have H := H1
    clear H1
    obtain rfl := Option.some.inj H
    go_enter Tryz.func44, Tryz.ntmps44
    go_wp2_with (first | ((with_reducible refine gD9 (N := 1) rfl ?_); refine bE9 ?hg (N := 1) ?hd (cs := #[.bool a0_0, .slice A0_1 l0_1.length c0_1, .slice A0_2 l0_2.length c0_2]) (t := 31) ?hr ?_; (case hd => rfl); (case hg => rfl); (case hr => first | (go_simp; done) | (go_simp; rfl)); intro gb116 hg w17 hbox hb; have n0_ := Aside0.mk (bT9 (by repeat (first | (with_reducible first | exact HB.out | apply bA9 | apply bN9 | apply bD9) | exact HB.out)) hb); have n1_ := Aside0.mk (hbox); have n2_ := Aside0.mk ((by rw [hg]; exact (bZ9 (by repeat (first | (with_reducible first | exact HB.out | apply bA9 | apply bN9 | apply bD9) | exact HB.out))) : w.heap.size ≤ gb116)); have n3_ := Aside0.mk ((by rw [hg]; exact (bZ9 (by repeat (first | (with_reducible first | exact HB.out | apply bA9 | apply bN9 | apply bD9) | exact HB.out))) : w.heap.size ≤ gb116)); clear HB; have HB := n0_; have BK116 := n1_; have GW116 := n2_; have GE116 := n3_; clear n0_ n1_ n2_ n3_; clear hb hbox hg; have hcz18_0 : w17.cell? ⟨gb116, 0, none⟩ = some (.bool a0_0) := (kC9 BK116.out 0).trans rfl; have hcz18_1 : w17.cell? ⟨gb116, 1, none⟩ = some (.slice A0_1 l0_1.length c0_1) := (kC9 BK116.out 1).trans rfl; have hcz18_2 : w17.cell? ⟨gb116, 2, none⟩ = some (.slice A0_2 l0_2.length c0_2) := (kC9 BK116.out 2).trans rfl; have hfz18_0 := kF9 BK116.out 0; have hfz18_1 := kF9 BK116.out 1; have hfz18_2 := kF9 BK116.out 2) | ((with_reducible refine gC9 (f := 31) rfl ?_); refine goesL_ (some 5) rfl rfl Tryz.func31 (by kernel_rfl) rfl #[.agg #[.bool a0_0, .slice A0_1 l0_1.length c0_1, .slice A0_2 l0_2.length c0_2]] rfl (by (try simp only [List.map_toArray, List.map_cons, List.map_nil]); first | done | rfl | (simp only [List.length_drop, List.length_take]; rfl)) ?_; (with_reducible refine (rat_Norm.calls a0_0 _ _ l0_1 _ _ l0_2 t117 t118 t121 _ ?side1 ?side2 ?side3 ?side4 A2.out).mono ?_); (case side1 => repeat (first | exact (Kd.cB9 HR0_1.out HB.out) | (with_reducible refine Kd.cA9 ?_ _) | (with_reducible refine Kd.cN9 ?_ _) | (with_reducible refine Kd.cD9 ?_))); (case side2 => exact HC0_1.out); (case side3 => repeat (first | exact (Kd.cB9 HR0_2.out HB.out) | (with_reducible refine Kd.cA9 ?_ _) | (with_reducible refine Kd.cN9 ?_ _) | (with_reducible refine Kd.cD9 ?_))); (case side4 => exact HC0_2.out); rintro e w19 ⟨v119, v122, rfl, ho0, ho1, hb⟩; refine ⟨_, rfl, ?_⟩; have n0_ := Aside0.mk (Kd.rL9 ho0 (bZ9 (by repeat (first | (with_reducible first | exact HB.out | apply bA9 | apply bN9 | apply bD9 | refine bS9 ?_ GE116.out) | exact HB.out)))); have n1_ := Aside0.mk (Kd.rL9 ho1 (bZ9 (by repeat (first | (with_reducible first | exact HB.out | apply bA9 | apply bN9 | apply bD9 | refine bS9 ?_ GE116.out) | exact HB.out)))); have n2_ := Aside0.mk (kB9 (g := gb116) (o := .cells #[.bool a0_0, .slice A0_1 l0_1.length c0_1, .slice A0_2 l0_2.length c0_2] 31 (0, 0)) (by (with_reducible repeat (first | refine kN9 ?_ _ | refine kD9 ?_ | refine kA9 ?_ _)); exact BK116.out) hb); have n3_ := Aside0.mk (bT9 (by repeat (first | (with_reducible first | exact HB.out | apply bA9 | apply bN9 | apply bD9 | refine bS9 ?_ GE116.out) | exact HB.out)) hb); clear BK116; clear HB; have HO120 := n0_; have HO123 := n1_; have BK116 := n2_; have HB := n3_; clear n0_ n1_ n2_ n3_; (try clear hb); (try clear hb2); (try clear hk); (try clear hi); (try clear ho0); (try clear ho1)) | ((with_reducible refine gD9 (N := 3) rfl ?_); refine bE9 ?hg (N := 3) ?hd (cs := #[.bool false, .slice none 0 0, .slice none 0 0]) (t := 31) ?hr ?_; (case hd => rfl); (case hg => rfl); (case hr => first | (go_simp; done) | (go_simp; rfl)); intro gb124 hg w20 hbox hb; have n0_ := Aside0.mk (Kd.rB9 (by (with_reducible repeat (first | apply Kd.rA9 | apply Kd.rN9 | apply Kd.rD9)); exact HO120.out) hb); have n1_ := Aside0.mk (Kd.rB9 (by (with_reducible repeat (first | apply Kd.rA9 | apply Kd.rN9 | apply Kd.rD9)); exact HO123.out) hb); have n2_ := Aside0.mk (kB9 (g := gb116) (o := .cells #[.bool a0_0, .slice A0_1 l0_1.length c0_1, .slice A0_2 l0_2.length c0_2] 31 (0, 0)) (by (with_reducible repeat (first | refine kN9 ?_ _ | refine kD9 ?_ | refine kA9 ?_ _)); exact BK116.out) hb); have n3_ := Aside0.mk (bT9 (by repeat (first | (with_reducible first | exact HB.out | apply bA9 | apply bN9 | apply bD9 | refine bS9 ?_ GE116.out) | exact HB.out)) hb); have n4_ := Aside0.mk (hbox); have n5_ := Aside0.mk ((by rw [hg]; exact (bZ9 (by repeat (first | (with_reducible first | exact HB.out | apply bA9 | apply bN9 | apply bD9 | refine bS9 ?_ GE116.out) | exact HB.out))) : w.heap.size ≤ gb124)); have n6_ := Aside0.mk ((by rw [hg]; exact (bZ9 (by repeat (first | (with_reducible first | exact HB.out | apply bA9 | apply bN9 | apply bD9 | refine bS9 ?_ GE116.out) | exact HB.out))) : w.heap.size ≤ gb124)); have n7_ := Aside0.mk ((by rw [hg]; exact Nat.ne_of_lt (blk_lt (g := gb116) (o := .cells #[.bool a0_0, .slice A0_1 l0_1.length c0_1, .slice A0_2 l0_2.length c0_2] 31 (0, 0)) (by (with_reducible repeat (first | refine kN9 ?_ _ | refine kD9 ?_ | refine kA9 ?_ _)); exact BK116.out)) : gb116 ≠ gb124)); have n8_ := Aside0.mk ((by rw [hg]; exact Nat.ne_of_gt (blk_lt (g := gb116) (o := .cells #[.bool a0_0, .slice A0_1 l0_1.length c0_1, .slice A0_2 l0_2.length c0_2] 31 (0, 0)) (by (with_reducible repeat (first | refine kN9 ?_ _ | refine kD9 ?_ | refine kA9 ?_ _)); exact BK116.out)) : gb124 ≠ gb116)); clear HO120; clear HO123; clear BK116; clear HB; have HO120 := n0_; have HO123 := n1_; have BK116 := n2_; have HB := n3_; have BK124 := n4_; have GW124 := n5_; have GE124 := n6_; have NB116_124 := n7_; have NB124_116 := n8_; clear n0_ n1_ n2_ n3_ n4_ n5_ n6_ n7_ n8_; clear hb hbox hg; have hnb21 := NB124_116.out; have hnc21 := NB116_124.out; have hcz22_0 : w20.cell? ⟨gb124, 0, none⟩ = some (.bool false) := (kC9 BK124.out 0).trans rfl; have hcz22_1 : w20.cell? ⟨gb124, 1, none⟩ = some (.slice none 0 0) := (kC9 BK124.out 1).trans rfl; have hcz22_2 : w20.cell? ⟨gb124, 2, none⟩ = some (.slice none 0 0) := (kC9 BK124.out 2).trans rfl; have hfz22_0 := kF9 BK124.out 0; have hfz22_1 := kF9 BK124.out 1; have hfz22_2 := kF9 BK124.out 2; obtain ⟨Ao23, co23, eo23⟩ := Kd.rS9 HO120.out; subst eo23; obtain ⟨Ao24, co24, eo24⟩ := Kd.rS9 HO123.out; subst eo24; have hcz25_0 : w20.cell? ⟨gb116, 0, none⟩ = some (.bool a0_0) := (kC9 BK116.out 0).trans rfl; have hcz25_1 : w20.cell? ⟨gb116, 1, none⟩ = some (.slice A0_1 l0_1.length c0_1) := (kC9 BK116.out 1).trans rfl; have hcz25_2 : w20.cell? ⟨gb116, 2, none⟩ = some (.slice A0_2 l0_2.length c0_2) := (kC9 BK116.out 2).trans rfl; have hfz25_0 := kF9 BK116.out 0; have hfz25_1 := kF9 BK116.out 1; have hfz25_2 := kF9 BK116.out 2) | (go_at_call 77; (with_reducible refine (rat_limbs.calls _ _ t118 _ _ l0_1 true _ ?side1 ?side2 ?side3 ?side4 A13.out).mono ?_); (case side1 => refine (Kd.rR9 (e := 88) (base := w.heap.size) (ok := fun k_ => some k_ ≠ (.slice Ao24 t121.length co24 : Value).ownBlock) (n := t118.length) (c := co23) ?_).2.2; exact (by (with_reducible repeat (first | apply Kd.rA9 | apply Kd.rN9 | apply Kd.rD9)); exact (Kd.R_mono (Kd.R_far (p := ⟨gb124, 2, none⟩) (Kd.R_far (p := ⟨gb124, 1, none⟩) (Kd.R_far (p := ⟨gb124, 0, none⟩) (Kd.rT9 HO120.out BK124.out (by decide)) (fun _ hk => hk.2) (.bool t117)) (fun _ hk => hk.2) (.slice Ao23 t118.length co23)) (fun _ hk => hk.2) (.slice Ao24 t121.length co24)) (fun _ h_ => h_.1)))); (case side2 => exact (Kd.rR9 HO120.out).2.1); (case side3 => exact Kd.cB9 HR0_1.out (by repeat (first | (with_reducible first | exact HB.out | apply bA9 | apply bN9 | apply bD9 | refine bS9 ?_ GE116.out | refine bS9 ?_ GE124.out) | exact HB.out))); (case side4 => exact HC0_1.out); rintro e w26 ⟨rfl, hb⟩; have n0_ := Aside0.mk (Kd.rB9 (by (with_reducible repeat (first | apply Kd.rA9 | apply Kd.rN9 | apply Kd.rD9)); exact (Kd.R_mono (Kd.R_far (p := ⟨gb124, 2, none⟩) (Kd.R_far (p := ⟨gb124, 1, none⟩) (Kd.R_far (p := ⟨gb124, 0, none⟩) (Kd.rT9 HO120.out BK124.out (by decide)) (fun _ hk => hk.2) (.bool t117)) (fun _ hk => hk.2) (.slice Ao23 t118.length co23)) (fun _ hk => hk.2) (.slice Ao24 t121.length co24)) (fun _ h_ => h_.1))) hb); have n1_ := Aside0.mk (Kd.rB9 (by (with_reducible repeat (first | apply Kd.rA9 | apply Kd.rN9 | apply Kd.rD9)); exact (Kd.R_mono (Kd.R_far (p := ⟨gb124, 2, none⟩) (Kd.R_far (p := ⟨gb124, 1, none⟩) (Kd.R_far (p := ⟨gb124, 0, none⟩) (Kd.rT9 HO123.out BK124.out (by decide)) (fun _ hk => hk.2) (.bool t117)) (fun _ hk => hk.2) (.slice Ao23 t118.length co23)) (fun _ hk => hk.2) (.slice Ao24 t121.length co24)) (fun _ h_ => h_.1))) hb); have n2_ := Aside0.mk (kB9 (g := gb116) (o := .cells #[.bool a0_0, .slice A0_1 l0_1.length c0_1, .slice A0_2 l0_2.length c0_2] 31 (0, 0)) (by (with_reducible repeat (first | refine kN9 ?_ _ | refine kD9 ?_ | refine kA9 ?_ _)); refine blk_far ?_ NB116_124.out _; (with_reducible repeat (first | refine kN9 ?_ _ | refine kD9 ?_ | refine kA9 ?_ _)); refine blk_far ?_ NB116_124.out _; (with_reducible repeat (first | refine kN9 ?_ _ | refine kD9 ?_ | refine kA9 ?_ _)); refine blk_far ?_ NB116_124.out _; (with_reducible repeat (first | refine kN9 ?_ _ | refine kD9 ?_ | refine kA9 ?_ _)); exact BK116.out) hb); have n3_ := Aside0.mk (kB9 (g := gb124) (o := .cells #[.bool t117, .slice Ao23 t118.length co23, .slice Ao24 t121.length co24] 31 (0, 0)) (by (with_reducible repeat (first | refine kN9 ?_ _ | refine kD9 ?_ | refine kA9 ?_ _)); refine kP9 (cs := #[.bool t117, .slice Ao23 t118.length co23, .slice none 0 0]) ?_ 2 _ rfl; (with_reducible repeat (first | refine kN9 ?_ _ | refine kD9 ?_ | refine kA9 ?_ _)); refine kP9 (cs := #[.bool t117, .slice none 0 0, .slice none 0 0]) ?_ 1 _ rfl; (with_reducible repeat (first | refine kN9 ?_ _ | refine kD9 ?_ | refine kA9 ?_ _)); refine kP9 (cs := #[.bool false, .slice none 0 0, .slice none 0 0]) ?_ 0 _ rfl; (with_reducible repeat (first | refine kN9 ?_ _ | refine kD9 ?_ | refine kA9 ?_ _)); exact BK124.out) hb); have n4_ := Aside0.mk (bT9 (by repeat (first | (with_reducible first | exact HB.out | apply bA9 | apply bN9 | apply bD9 | refine bS9 ?_ GE116.out | refine bS9 ?_ GE124.out) | exact HB.out)) hb); clear HO120; clear HO123; clear BK116; clear BK124; clear HB; have HO120 := n0_; have HO123 := n1_; have BK116 := n2_; have BK124 := n3_; have HB := n4_; clear n0_ n1_ n2_ n3_ n4_; (try clear hb); (try clear hb2); (try clear hk); (try clear hi); have hcz27_0 : w26.cell? ⟨gb124, 0, none⟩ = some (.bool t117) := (kC9 BK124.out 0).trans rfl; have hcz27_1 : w26.cell? ⟨gb124, 1, none⟩ = some (.slice Ao23 t118.length co23) := (kC9 BK124.out 1).trans rfl; have hcz27_2 : w26.cell? ⟨gb124, 2, none⟩ = some (.slice Ao24 t121.length co24) := (kC9 BK124.out 2).trans rfl; have hfz27_0 := kF9 BK124.out 0; have hfz27_1 := kF9 BK124.out 1; have hfz27_2 := kF9 BK124.out 2; have hcz28_0 : w26.cell? ⟨gb116, 0, none⟩ = some (.bool a0_0) := (kC9 BK116.out 0).trans rfl; have hcz28_1 : w26.cell? ⟨gb116, 1, none⟩ = some (.slice A0_1 l0_1.length c0_1) := (kC9 BK116.out 1).trans rfl; have hcz28_2 : w26.cell? ⟨gb116, 2, none⟩ = some (.slice A0_2 l0_2.length c0_2) := (kC9 BK116.out 2).trans rfl; have hfz28_0 := kF9 BK116.out 0; have hfz28_1 := kF9 BK116.out 1; have hfz28_2 := kF9 BK116.out 2) | (go_at_call 77; (with_reducible refine (rat_limbs.calls _ _ t121 _ _ l0_2 true _ ?side1 ?side2 ?side3 ?side4 A15.out).mono ?_); (case side1 => repeat (first | exact (Kd.rR9 HO123.out).2.2 | (with_reducible refine Kd.cA9 ?_ _) | (with_reducible refine Kd.cN9 ?_ _) | (with_reducible refine Kd.cD9 ?_))); (case side2 => exact (Kd.rR9 HO123.out).2.1); (case side3 => repeat (first | exact (Kd.cB9 HR0_2.out HB.out) | (with_reducible refine Kd.cA9 ?_ _) | (with_reducible refine Kd.cN9 ?_ _) | (with_reducible refine Kd.cD9 ?_))); (case side4 => exact HC0_2.out); rintro e w29 ⟨rfl, hb⟩; have n0_ := Aside0.mk (Kd.rB9 (by (with_reducible repeat (first | apply Kd.rA9 | apply Kd.rN9 | apply Kd.rD9)); exact HO120.out) hb); have n1_ := Aside0.mk (Kd.rB9 (by (with_reducible repeat (first | apply Kd.rA9 | apply Kd.rN9 | apply Kd.rD9)); exact HO123.out) hb); have n2_ := Aside0.mk (kB9 (g := gb116) (o := .cells #[.bool a0_0, .slice A0_1 l0_1.length c0_1, .slice A0_2 l0_2.length c0_2] 31 (0, 0)) (by (with_reducible repeat (first | refine kN9 ?_ _ | refine kD9 ?_ | refine kA9 ?_ _)); exact BK116.out) hb); have n3_ := Aside0.mk (kB9 (g := gb124) (o := .cells #[.bool t117, .slice Ao23 t118.length co23, .slice Ao24 t121.length co24] 31 (0, 0)) (by (with_reducible repeat (first | refine kN9 ?_ _ | refine kD9 ?_ | refine kA9 ?_ _)); exact BK124.out) hb); have n4_ := Aside0.mk (bT9 (by repeat (first | (with_reducible first | exact HB.out | apply bA9 | apply bN9 | apply bD9 | refine bS9 ?_ GE116.out | refine bS9 ?_ GE124.out) | exact HB.out)) hb); clear HO120; clear HO123; clear BK116; clear BK124; clear HB; have HO120 := n0_; have HO123 := n1_; have BK116 := n2_; have BK124 := n3_; have HB := n4_; clear n0_ n1_ n2_ n3_ n4_; (try clear hb); (try clear hb2); (try clear hk); (try clear hi)))
    go_ret
    exact ⟨by first | rfl | (simp [eN9, eS9] <;> rfl) | (simp [*, eN9, eS9] <;> rfl), by repeat (first | (with_reducible first | exact HB.out | apply bA9 | apply bN9 | apply bD9 | refine bS9 ?_ GE116.out | refine bS9 ?_ GE124.out) | exact HB.out)⟩
   ·replace c16 := Bool.eq_false_iff.mpr c16
    subst c16
    have H1 : (some 6) = some r := by rw [if_neg (show ¬ (false = true) by decide)] at H; exact H
    clear H
    have H := H1
    clear H1
    obtain rfl := Option.some.inj H
    go_enter Tryz.func44, Tryz.ntmps44
    go_wp2_with (first | ((with_reducible refine gD9 (N := 1) rfl ?_); refine bE9 ?hg (N := 1) ?hd (cs := #[.bool a0_0, .slice A0_1 l0_1.length c0_1, .slice A0_2 l0_2.length c0_2]) (t := 31) ?hr ?_; (case hd => rfl); (case hg => rfl); (case hr => first | (go_simp; done) | (go_simp; rfl)); intro gb116 hg w30 hbox hb; have n0_ := Aside0.mk (bT9 (by repeat (first | (with_reducible first | exact HB.out | apply bA9 | apply bN9 | apply bD9) | exact HB.out)) hb); have n1_ := Aside0.mk (hbox); have n2_ := Aside0.mk ((by rw [hg]; exact (bZ9 (by repeat (first | (with_reducible first | exact HB.out | apply bA9 | apply bN9 | apply bD9) | exact HB.out))) : w.heap.size ≤ gb116)); have n3_ := Aside0.mk ((by rw [hg]; exact (bZ9 (by repeat (first | (with_reducible first | exact HB.out | apply bA9 | apply bN9 | apply bD9) | exact HB.out))) : w.heap.size ≤ gb116)); clear HB; have HB := n0_; have BK116 := n1_; have GW116 := n2_; have GE116 := n3_; clear n0_ n1_ n2_ n3_; clear hb hbox hg; have hcz31_0 : w30.cell? ⟨gb116, 0, none⟩ = some (.bool a0_0) := (kC9 BK116.out 0).trans rfl; have hcz31_1 : w30.cell? ⟨gb116, 1, none⟩ = some (.slice A0_1 l0_1.length c0_1) := (kC9 BK116.out 1).trans rfl; have hcz31_2 : w30.cell? ⟨gb116, 2, none⟩ = some (.slice A0_2 l0_2.length c0_2) := (kC9 BK116.out 2).trans rfl; have hfz31_0 := kF9 BK116.out 0; have hfz31_1 := kF9 BK116.out 1; have hfz31_2 := kF9 BK116.out 2) | ((with_reducible refine gC9 (f := 31) rfl ?_); refine goesL_ (some 5) rfl rfl Tryz.func31 (by kernel_rfl) rfl #[.agg #[.bool a0_0, .slice A0_1 l0_1.length c0_1, .slice A0_2 l0_2.length c0_2]] rfl (by (try simp only [List.map_toArray, List.map_cons, List.map_nil]); first | done | rfl | (simp only [List.length_drop, List.length_take]; rfl)) ?_; (with_reducible refine (rat_Norm.calls a0_0 _ _ l0_1 _ _ l0_2 t117 t118 t121 _ ?side1 ?side2 ?side3 ?side4 A2.out).mono ?_); (case side1 => repeat (first | exact (Kd.cB9 HR0_1.out HB.out) | (with_reducible refine Kd.cA9 ?_ _) | (with_reducible refine Kd.cN9 ?_ _) | (with_reducible refine Kd.cD9 ?_))); (case side2 => exact HC0_1.out); (case side3 => repeat (first | exact (Kd.cB9 HR0_2.out HB.out) | (with_reducible refine Kd.cA9 ?_ _) | (with_reducible refine Kd.cN9 ?_ _) | (with_reducible refine Kd.cD9 ?_))); (case side4 => exact HC0_2.out); rintro e w32 ⟨v119, v122, rfl, ho0, ho1, hb⟩; refine ⟨_, rfl, ?_⟩; have n0_ := Aside0.mk (Kd.rL9 ho0 (bZ9 (by repeat (first | (with_reducible first | exact HB.out | apply bA9 | apply bN9 | apply bD9 | refine bS9 ?_ GE116.out) | exact HB.out)))); have n1_ := Aside0.mk (Kd.rL9 ho1 (bZ9 (by repeat (first | (with_reducible first | exact HB.out | apply bA9 | apply bN9 | apply bD9 | refine bS9 ?_ GE116.out) | exact HB.out)))); have n2_ := Aside0.mk (kB9 (g := gb116) (o := .cells #[.bool a0_0, .slice A0_1 l0_1.length c0_1, .slice A0_2 l0_2.length c0_2] 31 (0, 0)) (by (with_reducible repeat (first | refine kN9 ?_ _ | refine kD9 ?_ | refine kA9 ?_ _)); exact BK116.out) hb); have n3_ := Aside0.mk (bT9 (by repeat (first | (with_reducible first | exact HB.out | apply bA9 | apply bN9 | apply bD9 | refine bS9 ?_ GE116.out) | exact HB.out)) hb); clear BK116; clear HB; have HO120 := n0_; have HO123 := n1_; have BK116 := n2_; have HB := n3_; clear n0_ n1_ n2_ n3_; (try clear hb); (try clear hb2); (try clear hk); (try clear hi); (try clear ho0); (try clear ho1)) | ((with_reducible refine gD9 (N := 3) rfl ?_); refine bE9 ?hg (N := 3) ?hd (cs := #[.bool false, .slice none 0 0, .slice none 0 0]) (t := 31) ?hr ?_; (case hd => rfl); (case hg => rfl); (case hr => first | (go_simp; done) | (go_simp; rfl)); intro gb124 hg w33 hbox hb; have n0_ := Aside0.mk (Kd.rB9 (by (with_reducible repeat (first | apply Kd.rA9 | apply Kd.rN9 | apply Kd.rD9)); exact HO120.out) hb); have n1_ := Aside0.mk (Kd.rB9 (by (with_reducible repeat (first | apply Kd.rA9 | apply Kd.rN9 | apply Kd.rD9)); exact HO123.out) hb); have n2_ := Aside0.mk (kB9 (g := gb116) (o := .cells #[.bool a0_0, .slice A0_1 l0_1.length c0_1, .slice A0_2 l0_2.length c0_2] 31 (0, 0)) (by (with_reducible repeat (first | refine kN9 ?_ _ | refine kD9 ?_ | refine kA9 ?_ _)); exact BK116.out) hb); have n3_ := Aside0.mk (bT9 (by repeat (first | (with_reducible first | exact HB.out | apply bA9 | apply bN9 | apply bD9 | refine bS9 ?_ GE116.out) | exact HB.out)) hb); have n4_ := Aside0.mk (hbox); have n5_ := Aside0.mk ((by rw [hg]; exact (bZ9 (by repeat (first | (with_reducible first | exact HB.out | apply bA9 | apply bN9 | apply bD9 | refine bS9 ?_ GE116.out) | exact HB.out))) : w.heap.size ≤ gb124)); have n6_ := Aside0.mk ((by rw [hg]; exact (bZ9 (by repeat (first | (with_reducible first | exact HB.out | apply bA9 | apply bN9 | apply bD9 | refine bS9 ?_ GE116.out) | exact HB.out))) : w.heap.size ≤ gb124)); have n7_ := Aside0.mk ((by rw [hg]; exact Nat.ne_of_lt (blk_lt (g := gb116) (o := .cells #[.bool a0_0, .slice A0_1 l0_1.length c0_1, .slice A0_2 l0_2.length c0_2] 31 (0, 0)) (by (with_reducible repeat (first | refine kN9 ?_ _ | refine kD9 ?_ | refine kA9 ?_ _)); exact BK116.out)) : gb116 ≠ gb124)); have n8_ := Aside0.mk ((by rw [hg]; exact Nat.ne_of_gt (blk_lt (g := gb116) (o := .cells #[.bool a0_0, .slice A0_1 l0_1.length c0_1, .slice A0_2 l0_2.length c0_2] 31 (0, 0)) (by (with_reducible repeat (first | refine kN9 ?_ _ | refine kD9 ?_ | refine kA9 ?_ _)); exact BK116.out)) : gb124 ≠ gb116)); clear HO120; clear HO123; clear BK116; clear HB; have HO120 := n0_; have HO123 := n1_; have BK116 := n2_; have HB := n3_; have BK124 := n4_; have GW124 := n5_; have GE124 := n6_; have NB116_124 := n7_; have NB124_116 := n8_; clear n0_ n1_ n2_ n3_ n4_ n5_ n6_ n7_ n8_; clear hb hbox hg; have hnb34 := NB124_116.out; have hnc34 := NB116_124.out; have hcz35_0 : w33.cell? ⟨gb124, 0, none⟩ = some (.bool false) := (kC9 BK124.out 0).trans rfl; have hcz35_1 : w33.cell? ⟨gb124, 1, none⟩ = some (.slice none 0 0) := (kC9 BK124.out 1).trans rfl; have hcz35_2 : w33.cell? ⟨gb124, 2, none⟩ = some (.slice none 0 0) := (kC9 BK124.out 2).trans rfl; have hfz35_0 := kF9 BK124.out 0; have hfz35_1 := kF9 BK124.out 1; have hfz35_2 := kF9 BK124.out 2; obtain ⟨Ao36, co36, eo36⟩ := Kd.rS9 HO120.out; subst eo36; obtain ⟨Ao37, co37, eo37⟩ := Kd.rS9 HO123.out; subst eo37; have hcz38_0 : w33.cell? ⟨gb116, 0, none⟩ = some (.bool a0_0) := (kC9 BK116.out 0).trans rfl; have hcz38_1 : w33.cell? ⟨gb116, 1, none⟩ = some (.slice A0_1 l0_1.length c0_1) := (kC9 BK116.out 1).trans rfl; have hcz38_2 : w33.cell? ⟨gb116, 2, none⟩ = some (.slice A0_2 l0_2.length c0_2) := (kC9 BK116.out 2).trans rfl; have hfz38_0 := kF9 BK116.out 0; have hfz38_1 := kF9 BK116.out 1; have hfz38_2 := kF9 BK116.out 2) | (go_at_call 77; (with_reducible refine (rat_limbs.calls _ _ t118 _ _ l0_1 true _ ?side1 ?side2 ?side3 ?side4 A13.out).mono ?_); (case side1 => refine (Kd.rR9 (e := 88) (base := w.heap.size) (ok := fun k_ => some k_ ≠ (.slice Ao37 t121.length co37 : Value).ownBlock) (n := t118.length) (c := co36) ?_).2.2; exact (by (with_reducible repeat (first | apply Kd.rA9 | apply Kd.rN9 | apply Kd.rD9)); exact (Kd.R_mono (Kd.R_far (p := ⟨gb124, 2, none⟩) (Kd.R_far (p := ⟨gb124, 1, none⟩) (Kd.R_far (p := ⟨gb124, 0, none⟩) (Kd.rT9 HO120.out BK124.out (by decide)) (fun _ hk => hk.2) (.bool t117)) (fun _ hk => hk.2) (.slice Ao36 t118.length co36)) (fun _ hk => hk.2) (.slice Ao37 t121.length co37)) (fun _ h_ => h_.1)))); (case side2 => exact (Kd.rR9 HO120.out).2.1); (case side3 => exact Kd.cB9 HR0_1.out (by repeat (first | (with_reducible first | exact HB.out | apply bA9 | apply bN9 | apply bD9 | refine bS9 ?_ GE116.out | refine bS9 ?_ GE124.out) | exact HB.out))); (case side4 => exact HC0_1.out); rintro e w39 ⟨rfl, hb⟩; have n0_ := Aside0.mk (Kd.rB9 (by (with_reducible repeat (first | apply Kd.rA9 | apply Kd.rN9 | apply Kd.rD9)); exact (Kd.R_mono (Kd.R_far (p := ⟨gb124, 2, none⟩) (Kd.R_far (p := ⟨gb124, 1, none⟩) (Kd.R_far (p := ⟨gb124, 0, none⟩) (Kd.rT9 HO120.out BK124.out (by decide)) (fun _ hk => hk.2) (.bool t117)) (fun _ hk => hk.2) (.slice Ao36 t118.length co36)) (fun _ hk => hk.2) (.slice Ao37 t121.length co37)) (fun _ h_ => h_.1))) hb); have n1_ := Aside0.mk (Kd.rB9 (by (with_reducible repeat (first | apply Kd.rA9 | apply Kd.rN9 | apply Kd.rD9)); exact (Kd.R_mono (Kd.R_far (p := ⟨gb124, 2, none⟩) (Kd.R_far (p := ⟨gb124, 1, none⟩) (Kd.R_far (p := ⟨gb124, 0, none⟩) (Kd.rT9 HO123.out BK124.out (by decide)) (fun _ hk => hk.2) (.bool t117)) (fun _ hk => hk.2) (.slice Ao36 t118.length co36)) (fun _ hk => hk.2) (.slice Ao37 t121.length co37)) (fun _ h_ => h_.1))) hb); have n2_ := Aside0.mk (kB9 (g := gb116) (o := .cells #[.bool a0_0, .slice A0_1 l0_1.length c0_1, .slice A0_2 l0_2.length c0_2] 31 (0, 0)) (by (with_reducible repeat (first | refine kN9 ?_ _ | refine kD9 ?_ | refine kA9 ?_ _)); refine blk_far ?_ NB116_124.out _; (with_reducible repeat (first | refine kN9 ?_ _ | refine kD9 ?_ | refine kA9 ?_ _)); refine blk_far ?_ NB116_124.out _; (with_reducible repeat (first | refine kN9 ?_ _ | refine kD9 ?_ | refine kA9 ?_ _)); refine blk_far ?_ NB116_124.out _; (with_reducible repeat (first | refine kN9 ?_ _ | refine kD9 ?_ | refine kA9 ?_ _)); exact BK116.out) hb); have n3_ := Aside0.mk (kB9 (g := gb124) (o := .cells #[.bool t117, .slice Ao36 t118.length co36, .slice Ao37 t121.length co37] 31 (0, 0)) (by (with_reducible repeat (first | refine kN9 ?_ _ | refine kD9 ?_ | refine kA9 ?_ _)); refine kP9 (cs := #[.bool t117, .slice Ao36 t118.length co36, .slice none 0 0]) ?_ 2 _ rfl; (with_reducible repeat (first | refine kN9 ?_ _ | refine kD9 ?_ | refine kA9 ?_ _)); refine kP9 (cs := #[.bool t117, .slice none 0 0, .slice none 0 0]) ?_ 1 _ rfl; (with_reducible repeat (first | refine kN9 ?_ _ | refine kD9 ?_ | refine kA9 ?_ _)); refine kP9 (cs := #[.bool false, .slice none 0 0, .slice none 0 0]) ?_ 0 _ rfl; (with_reducible repeat (first | refine kN9 ?_ _ | refine kD9 ?_ | refine kA9 ?_ _)); exact BK124.out) hb); have n4_ := Aside0.mk (bT9 (by repeat (first | (with_reducible first | exact HB.out | apply bA9 | apply bN9 | apply bD9 | refine bS9 ?_ GE116.out | refine bS9 ?_ GE124.out) | exact HB.out)) hb); clear HO120; clear HO123; clear BK116; clear BK124; clear HB; have HO120 := n0_; have HO123 := n1_; have BK116 := n2_; have BK124 := n3_; have HB := n4_; clear n0_ n1_ n2_ n3_ n4_; (try clear hb); (try clear hb2); (try clear hk); (try clear hi); have hcz40_0 : w39.cell? ⟨gb124, 0, none⟩ = some (.bool t117) := (kC9 BK124.out 0).trans rfl; have hcz40_1 : w39.cell? ⟨gb124, 1, none⟩ = some (.slice Ao36 t118.length co36) := (kC9 BK124.out 1).trans rfl; have hcz40_2 : w39.cell? ⟨gb124, 2, none⟩ = some (.slice Ao37 t121.length co37) := (kC9 BK124.out 2).trans rfl; have hfz40_0 := kF9 BK124.out 0; have hfz40_1 := kF9 BK124.out 1; have hfz40_2 := kF9 BK124.out 2; have hcz41_0 : w39.cell? ⟨gb116, 0, none⟩ = some (.bool a0_0) := (kC9 BK116.out 0).trans rfl; have hcz41_1 : w39.cell? ⟨gb116, 1, none⟩ = some (.slice A0_1 l0_1.length c0_1) := (kC9 BK116.out 1).trans rfl; have hcz41_2 : w39.cell? ⟨gb116, 2, none⟩ = some (.slice A0_2 l0_2.length c0_2) := (kC9 BK116.out 2).trans rfl; have hfz41_0 := kF9 BK116.out 0; have hfz41_1 := kF9 BK116.out 1; have hfz41_2 := kF9 BK116.out 2) | (go_at_call 77; (with_reducible refine (rat_limbs.calls _ _ t121 _ _ l0_2 false _ ?side1 ?side2 ?side3 ?side4 A15.out).mono ?_); (case side1 => repeat (first | exact (Kd.rR9 HO123.out).2.2 | (with_reducible refine Kd.cA9 ?_ _) | (with_reducible refine Kd.cN9 ?_ _) | (with_reducible refine Kd.cD9 ?_))); (case side2 => exact (Kd.rR9 HO123.out).2.1); (case side3 => repeat (first | exact (Kd.cB9 HR0_2.out HB.out) | (with_reducible refine Kd.cA9 ?_ _) | (with_reducible refine Kd.cN9 ?_ _) | (with_reducible refine Kd.cD9 ?_))); (case side4 => exact HC0_2.out); rintro e w42 ⟨rfl, hb⟩; have n0_ := Aside0.mk (Kd.rB9 (by (with_reducible repeat (first | apply Kd.rA9 | apply Kd.rN9 | apply Kd.rD9)); exact HO120.out) hb); have n1_ := Aside0.mk (Kd.rB9 (by (with_reducible repeat (first | apply Kd.rA9 | apply Kd.rN9 | apply Kd.rD9)); exact HO123.out) hb); have n2_ := Aside0.mk (kB9 (g := gb116) (o := .cells #[.bool a0_0, .slice A0_1 l0_1.length c0_1, .slice A0_2 l0_2.length c0_2] 31 (0, 0)) (by (with_reducible repeat (first | refine kN9 ?_ _ | refine kD9 ?_ | refine kA9 ?_ _)); exact BK116.out) hb); have n3_ := Aside0.mk (kB9 (g := gb124) (o := .cells #[.bool t117, .slice Ao36 t118.length co36, .slice Ao37 t121.length co37] 31 (0, 0)) (by (with_reducible repeat (first | refine kN9 ?_ _ | refine kD9 ?_ | refine kA9 ?_ _)); exact BK124.out) hb); have n4_ := Aside0.mk (bT9 (by repeat (first | (with_reducible first | exact HB.out | apply bA9 | apply bN9 | apply bD9 | refine bS9 ?_ GE116.out | refine bS9 ?_ GE124.out) | exact HB.out)) hb); clear HO120; clear HO123; clear BK116; clear BK124; clear HB; have HO120 := n0_; have HO123 := n1_; have BK116 := n2_; have BK124 := n3_; have HB := n4_; clear n0_ n1_ n2_ n3_ n4_; (try clear hb); (try clear hb2); (try clear hk); (try clear hi)))
    go_ret
    exact ⟨by first | rfl | (simp [eN9, eS9] <;> rfl) | (simp [*, eN9, eS9] <;> rfl), by repeat (first | (with_reducible first | exact HB.out | apply bA9 | apply bN9 | apply bD9 | refine bS9 ?_ GE116.out | refine bS9 ?_ GE124.out) | exact HB.out)⟩
  ·replace c14 := Bool.eq_false_iff.mpr c14
   subst c14
   have H1 : (some 6) = some r := by rw [if_neg (show ¬ (false = true) by decide)] at H; exact H
   clear H
   have H := H1
   clear H1
   obtain rfl := Option.some.inj H
   go_enter Tryz.func44, Tryz.ntmps44
   go_wp2_with (first | ((with_reducible refine gD9 (N := 1) rfl ?_); refine bE9 ?hg (N := 1) ?hd (cs := #[.bool a0_0, .slice A0_1 l0_1.length c0_1, .slice A0_2 l0_2.length c0_2]) (t := 31) ?hr ?_; (case hd => rfl); (case hg => rfl); (case hr => first | (go_simp; done) | (go_simp; rfl)); intro gb116 hg w43 hbox hb; have n0_ := Aside0.mk (bT9 (by repeat (first | (with_reducible first | exact HB.out | apply bA9 | apply bN9 | apply bD9) | exact HB.out)) hb); have n1_ := Aside0.mk (hbox); have n2_ := Aside0.mk ((by rw [hg]; exact (bZ9 (by repeat (first | (with_reducible first | exact HB.out | apply bA9 | apply bN9 | apply bD9) | exact HB.out))) : w.heap.size ≤ gb116)); have n3_ := Aside0.mk ((by rw [hg]; exact (bZ9 (by repeat (first | (with_reducible first | exact HB.out | apply bA9 | apply bN9 | apply bD9) | exact HB.out))) : w.heap.size ≤ gb116)); clear HB; have HB := n0_; have BK116 := n1_; have GW116 := n2_; have GE116 := n3_; clear n0_ n1_ n2_ n3_; clear hb hbox hg; have hcz44_0 : w43.cell? ⟨gb116, 0, none⟩ = some (.bool a0_0) := (kC9 BK116.out 0).trans rfl; have hcz44_1 : w43.cell? ⟨gb116, 1, none⟩ = some (.slice A0_1 l0_1.length c0_1) := (kC9 BK116.out 1).trans rfl; have hcz44_2 : w43.cell? ⟨gb116, 2, none⟩ = some (.slice A0_2 l0_2.length c0_2) := (kC9 BK116.out 2).trans rfl; have hfz44_0 := kF9 BK116.out 0; have hfz44_1 := kF9 BK116.out 1; have hfz44_2 := kF9 BK116.out 2) | ((with_reducible refine gC9 (f := 31) rfl ?_); refine goesL_ (some 5) rfl rfl Tryz.func31 (by kernel_rfl) rfl #[.agg #[.bool a0_0, .slice A0_1 l0_1.length c0_1, .slice A0_2 l0_2.length c0_2]] rfl (by (try simp only [List.map_toArray, List.map_cons, List.map_nil]); first | done | rfl | (simp only [List.length_drop, List.length_take]; rfl)) ?_; (with_reducible refine (rat_Norm.calls a0_0 _ _ l0_1 _ _ l0_2 t117 t118 t121 _ ?side1 ?side2 ?side3 ?side4 A2.out).mono ?_); (case side1 => repeat (first | exact (Kd.cB9 HR0_1.out HB.out) | (with_reducible refine Kd.cA9 ?_ _) | (with_reducible refine Kd.cN9 ?_ _) | (with_reducible refine Kd.cD9 ?_))); (case side2 => exact HC0_1.out); (case side3 => repeat (first | exact (Kd.cB9 HR0_2.out HB.out) | (with_reducible refine Kd.cA9 ?_ _) | (with_reducible refine Kd.cN9 ?_ _) | (with_reducible refine Kd.cD9 ?_))); (case side4 => exact HC0_2.out); rintro e w45 ⟨v119, v122, rfl, ho0, ho1, hb⟩; refine ⟨_, rfl, ?_⟩; have n0_ := Aside0.mk (Kd.rL9 ho0 (bZ9 (by repeat (first | (with_reducible first | exact HB.out | apply bA9 | apply bN9 | apply bD9 | refine bS9 ?_ GE116.out) | exact HB.out)))); have n1_ := Aside0.mk (Kd.rL9 ho1 (bZ9 (by repeat (first | (with_reducible first | exact HB.out | apply bA9 | apply bN9 | apply bD9 | refine bS9 ?_ GE116.out) | exact HB.out)))); have n2_ := Aside0.mk (kB9 (g := gb116) (o := .cells #[.bool a0_0, .slice A0_1 l0_1.length c0_1, .slice A0_2 l0_2.length c0_2] 31 (0, 0)) (by (with_reducible repeat (first | refine kN9 ?_ _ | refine kD9 ?_ | refine kA9 ?_ _)); exact BK116.out) hb); have n3_ := Aside0.mk (bT9 (by repeat (first | (with_reducible first | exact HB.out | apply bA9 | apply bN9 | apply bD9 | refine bS9 ?_ GE116.out) | exact HB.out)) hb); clear BK116; clear HB; have HO120 := n0_; have HO123 := n1_; have BK116 := n2_; have HB := n3_; clear n0_ n1_ n2_ n3_; (try clear hb); (try clear hb2); (try clear hk); (try clear hi); (try clear ho0); (try clear ho1)) | ((with_reducible refine gD9 (N := 3) rfl ?_); refine bE9 ?hg (N := 3) ?hd (cs := #[.bool false, .slice none 0 0, .slice none 0 0]) (t := 31) ?hr ?_; (case hd => rfl); (case hg => rfl); (case hr => first | (go_simp; done) | (go_simp; rfl)); intro gb124 hg w46 hbox hb; have n0_ := Aside0.mk (Kd.rB9 (by (with_reducible repeat (first | apply Kd.rA9 | apply Kd.rN9 | apply Kd.rD9)); exact HO120.out) hb); have n1_ := Aside0.mk (Kd.rB9 (by (with_reducible repeat (first | apply Kd.rA9 | apply Kd.rN9 | apply Kd.rD9)); exact HO123.out) hb); have n2_ := Aside0.mk (kB9 (g := gb116) (o := .cells #[.bool a0_0, .slice A0_1 l0_1.length c0_1, .slice A0_2 l0_2.length c0_2] 31 (0, 0)) (by (with_reducible repeat (first | refine kN9 ?_ _ | refine kD9 ?_ | refine kA9 ?_ _)); exact BK116.out) hb); have n3_ := Aside0.mk (bT9 (by repeat (first | (with_reducible first | exact HB.out | apply bA9 | apply bN9 | apply bD9 | refine bS9 ?_ GE116.out) | exact HB.out)) hb); have n4_ := Aside0.mk (hbox); have n5_ := Aside0.mk ((by rw [hg]; exact (bZ9 (by repeat (first | (with_reducible first | exact HB.out | apply bA9 | apply bN9 | apply bD9 | refine bS9 ?_ GE116.out) | exact HB.out))) : w.heap.size ≤ gb124)); have n6_ := Aside0.mk ((by rw [hg]; exact (bZ9 (by repeat (first | (with_reducible first | exact HB.out | apply bA9 | apply bN9 | apply bD9 | refine bS9 ?_ GE116.out) | exact HB.out))) : w.heap.size ≤ gb124)); have n7_ := Aside0.mk ((by rw [hg]; exact Nat.ne_of_lt (blk_lt (g := gb116) (o := .cells #[.bool a0_0, .slice A0_1 l0_1.length c0_1, .slice A0_2 l0_2.length c0_2] 31 (0, 0)) (by (with_reducible repeat (first | refine kN9 ?_ _ | refine kD9 ?_ | refine kA9 ?_ _)); exact BK116.out)) : gb116 ≠ gb124)); have n8_ := Aside0.mk ((by rw [hg]; exact Nat.ne_of_gt (blk_lt (g := gb116) (o := .cells #[.bool a0_0, .slice A0_1 l0_1.length c0_1, .slice A0_2 l0_2.length c0_2] 31 (0, 0)) (by (with_reducible repeat (first | refine kN9 ?_ _ | refine kD9 ?_ | refine kA9 ?_ _)); exact BK116.out)) : gb124 ≠ gb116)); clear HO120; clear HO123; clear BK116; clear HB; have HO120 := n0_; have HO123 := n1_; have BK116 := n2_; have HB := n3_; have BK124 := n4_; have GW124 := n5_; have GE124 := n6_; have NB116_124 := n7_; have NB124_116 := n8_; clear n0_ n1_ n2_ n3_ n4_ n5_ n6_ n7_ n8_; clear hb hbox hg; have hnb47 := NB124_116.out; have hnc47 := NB116_124.out; have hcz48_0 : w46.cell? ⟨gb124, 0, none⟩ = some (.bool false) := (kC9 BK124.out 0).trans rfl; have hcz48_1 : w46.cell? ⟨gb124, 1, none⟩ = some (.slice none 0 0) := (kC9 BK124.out 1).trans rfl; have hcz48_2 : w46.cell? ⟨gb124, 2, none⟩ = some (.slice none 0 0) := (kC9 BK124.out 2).trans rfl; have hfz48_0 := kF9 BK124.out 0; have hfz48_1 := kF9 BK124.out 1; have hfz48_2 := kF9 BK124.out 2; obtain ⟨Ao49, co49, eo49⟩ := Kd.rS9 HO120.out; subst eo49; obtain ⟨Ao50, co50, eo50⟩ := Kd.rS9 HO123.out; subst eo50; have hcz51_0 : w46.cell? ⟨gb116, 0, none⟩ = some (.bool a0_0) := (kC9 BK116.out 0).trans rfl; have hcz51_1 : w46.cell? ⟨gb116, 1, none⟩ = some (.slice A0_1 l0_1.length c0_1) := (kC9 BK116.out 1).trans rfl; have hcz51_2 : w46.cell? ⟨gb116, 2, none⟩ = some (.slice A0_2 l0_2.length c0_2) := (kC9 BK116.out 2).trans rfl; have hfz51_0 := kF9 BK116.out 0; have hfz51_1 := kF9 BK116.out 1; have hfz51_2 := kF9 BK116.out 2) | (go_at_call 77; (with_reducible refine (rat_limbs.calls _ _ t118 _ _ l0_1 false _ ?side1 ?side2 ?side3 ?side4 A13.out).mono ?_); (case side1 => refine (Kd.rR9 (e := 88) (base := w.heap.size) (ok := fun k_ => some k_ ≠ (.slice Ao50 t121.length co50 : Value).ownBlock) (n := t118.length) (c := co49) ?_).2.2; exact (by (with_reducible repeat (first | apply Kd.rA9 | apply Kd.rN9 | apply Kd.rD9)); exact (Kd.R_mono (Kd.R_far (p := ⟨gb124, 2, none⟩) (Kd.R_far (p := ⟨gb124, 1, none⟩) (Kd.R_far (p := ⟨gb124, 0, none⟩) (Kd.rT9 HO120.out BK124.out (by decide)) (fun _ hk => hk.2) (.bool t117)) (fun _ hk => hk.2) (.slice Ao49 t118.length co49)) (fun _ hk => hk.2) (.slice Ao50 t121.length co50)) (fun _ h_ => h_.1)))); (case side2 => exact (Kd.rR9 HO120.out).2.1); (case side3 => exact Kd.cB9 HR0_1.out (by repeat (first | (with_reducible first | exact HB.out | apply bA9 | apply bN9 | apply bD9 | refine bS9 ?_ GE116.out | refine bS9 ?_ GE124.out) | exact HB.out))); (case side4 => exact HC0_1.out); rintro e w52 ⟨rfl, hb⟩; have n0_ := Aside0.mk (Kd.rB9 (by (with_reducible repeat (first | apply Kd.rA9 | apply Kd.rN9 | apply Kd.rD9)); exact (Kd.R_mono (Kd.R_far (p := ⟨gb124, 2, none⟩) (Kd.R_far (p := ⟨gb124, 1, none⟩) (Kd.R_far (p := ⟨gb124, 0, none⟩) (Kd.rT9 HO120.out BK124.out (by decide)) (fun _ hk => hk.2) (.bool t117)) (fun _ hk => hk.2) (.slice Ao49 t118.length co49)) (fun _ hk => hk.2) (.slice Ao50 t121.length co50)) (fun _ h_ => h_.1))) hb); have n1_ := Aside0.mk (Kd.rB9 (by (with_reducible repeat (first | apply Kd.rA9 | apply Kd.rN9 | apply Kd.rD9)); exact (Kd.R_mono (Kd.R_far (p := ⟨gb124, 2, none⟩) (Kd.R_far (p := ⟨gb124, 1, none⟩) (Kd.R_far (p := ⟨gb124, 0, none⟩) (Kd.rT9 HO123.out BK124.out (by decide)) (fun _ hk => hk.2) (.bool t117)) (fun _ hk => hk.2) (.slice Ao49 t118.length co49)) (fun _ hk => hk.2) (.slice Ao50 t121.length co50)) (fun _ h_ => h_.1))) hb); have n2_ := Aside0.mk (kB9 (g := gb116) (o := .cells #[.bool a0_0, .slice A0_1 l0_1.length c0_1, .slice A0_2 l0_2.length c0_2] 31 (0, 0)) (by (with_reducible repeat (first | refine kN9 ?_ _ | refine kD9 ?_ | refine kA9 ?_ _)); refine blk_far ?_ NB116_124.out _; (with_reducible repeat (first | refine kN9 ?_ _ | refine kD9 ?_ | refine kA9 ?_ _)); refine blk_far ?_ NB116_124.out _; (with_reducible repeat (first | refine kN9 ?_ _ | refine kD9 ?_ | refine kA9 ?_ _)); refine blk_far ?_ NB116_124.out _; (with_reducible repeat (first | refine kN9 ?_ _ | refine kD9 ?_ | refine kA9 ?_ _)); exact BK116.out) hb); have n3_ := Aside0.mk (kB9 (g := gb124) (o := .cells #[.bool t117, .slice Ao49 t118.length co49, .slice Ao50 t121.length co50] 31 (0, 0)) (by (with_reducible repeat (first | refine kN9 ?_ _ | refine kD9 ?_ | refine kA9 ?_ _)); refine kP9 (cs := #[.bool t117, .slice Ao49 t118.length co49, .slice none 0 0]) ?_ 2 _ rfl; (with_reducible repeat (first | refine kN9 ?_ _ | refine kD9 ?_ | refine kA9 ?_ _)); refine kP9 (cs := #[.bool t117, .slice none 0 0, .slice none 0 0]) ?_ 1 _ rfl; (with_reducible repeat (first | refine kN9 ?_ _ | refine kD9 ?_ | refine kA9 ?_ _)); refine kP9 (cs := #[.bool false, .slice none 0 0, .slice none 0 0]) ?_ 0 _ rfl; (with_reducible repeat (first | refine kN9 ?_ _ | refine kD9 ?_ | refine kA9 ?_ _)); exact BK124.out) hb); have n4_ := Aside0.mk (bT9 (by repeat (first | (with_reducible first | exact HB.out | apply bA9 | apply bN9 | apply bD9 | refine bS9 ?_ GE116.out | refine bS9 ?_ GE124.out) | exact HB.out)) hb); clear HO120; clear HO123; clear BK116; clear BK124; clear HB; have HO120 := n0_; have HO123 := n1_; have BK116 := n2_; have BK124 := n3_; have HB := n4_; clear n0_ n1_ n2_ n3_ n4_; (try clear hb); (try clear hb2); (try clear hk); (try clear hi)))
   go_ret
   exact ⟨by first | rfl | (simp [eN9, eS9] <;> rfl) | (simp [*, eN9, eS9] <;> rfl), by repeat (first | (with_reducible first | exact HB.out | apply bA9 | apply bN9 | apply bD9 | refine bS9 ?_ GE116.out | refine bS9 ?_ GE124.out) | exact HB.out)⟩
end Go.Proofs.YtibaoacjjcgjlaaGreatDoor.Print

namespace Go.Proofs
open Go.RowKit Go.Shelf
shelf_lay LaysGw.n17 Ggw 17 at Tryz as Tryz.layContFunc
end Go.Proofs
namespace Go.Proofs.YtibaoacjjcgjlaaGreatDoor.Print
open Go.RowKit Go.Shelf Go.Proofs.YtibaoacjjcgjlaaGreatDoorW.PrintWords Go.Proofs.YtibaoacjjcgjlaaGreatDoorW.PrintLast Go.Proofs.YtibaoacjjcgjlaaGreatDoorW.PrintMore Go.Proofs.YtibaoacjjcgjlaaGreatDoor.Base
set_option linter.unusedVariables false
set_option linter.unusedSimpArgs false
def isDig (c : UInt8) : Bool := decide (48 ≤ c.toNat) && decide (c.toNat ≤ 57)
def natB (l : List UInt8) : Bool := !(l == [] || (decide (1 < l.length) && l.head? == some 48)) && l.all isDig
theorem natB_iff {l : List UInt8} : natB l = true ↔ NatL l := by
  unfold natB NatL DigL
  cases l with
  | nil => simp
  | cons c r =>
    cases r with
    | nil => simp [isDig]
    | cons d r2 =>
      simp [isDig]
      constructor
      · rintro ⟨h1, h2⟩; exact ⟨h2, fun e => by simp_all⟩
      · rintro ⟨h2, h1⟩; exact ⟨fun e => by simp_all, h2⟩
def badR (r : Nat) : Bool := decide (r < 48) || decide (57 < r)
theorem bad_at (w : World) : PredAt Tryz.prog 74 #[] encR badR w := fun W r _ => by
  unfold FnGives
  by_cases h1 : r < 48 <;> by_cases h2 : 57 < r
  all_goals
    have z1 : (r : Int) < 48 ↔ r < 48 := by omega
    have z2 : (57 : Int) < (r : Int) ↔ 57 < r := by omega
    have d1 : decide ((r : Int) < 48) = decide (r < 48) := by simp [z1]
    have d2 : decide ((57 : Int) < (r : Int)) = decide (57 < r) := by simp [z2]
    go_enter Tryz.func74, Tryz.ntmps74
    go_wp2
    all_goals first | (exfalso; omega) | (go_ret; exact ⟨by simp [badR, h1, h2], 0, rfl⟩)
theorem drop_at (s : ByteArray) (pos : Nat) (h : pos < s.size) : s.data.toList.drop pos = s[pos]'h :: s.data.toList.drop (pos + 1) := by
  have hl : pos < s.data.toList.length := by simpa using h
  rw [List.drop_eq_getElem_cons hl]
  rfl
theorem bad_from (s : ByteArray) : ∀ (f pos : Nat), s.size ≤ pos + f → (decide (0 ≤ Lib.idxFuncFrom badR true s f pos)) = !((s.data.toList.drop pos).all isDig)
  | 0, pos, h => by
    have : s.data.toList.drop pos = [] := by apply List.drop_eq_nil_of_le; simpa using h
    rw [this]; rfl
  | f + 1, pos, h => by
    unfold Lib.idxFuncFrom
    by_cases hp : pos < s.size
    · rw [if_pos hp, drop_at s pos hp, List.all_cons]
      by_cases ha : (s[pos]'hp).toNat < 128
      · rw [Go.decode_ascii s pos hp ha]
        by_cases hb : isDig (s[pos]'hp) = true
        · rw [if_neg (by unfold isDig at hb; unfold badR; simp at hb ⊢; omega), hb, Bool.true_and]
          exact bad_from s f (pos + 1) (by omega)
        · rw [if_pos (by unfold isDig at hb; unfold badR; simp at hb ⊢; omega)]
          have : isDig (s[pos]'hp) = false := by simpa using hb
          rw [this]; simp
      · have h8 := (Go.decode_high s pos hp (by omega)).1
        rw [if_pos (by unfold badR; simp; omega)]
        have : isDig (s[pos]'hp) = false := by unfold isDig; simp; omega
        rw [this]; simp
    · rw [if_neg hp]
      have : s.data.toList.drop pos = [] := by apply List.drop_eq_nil_of_le; simpa using Nat.le_of_not_lt hp
      rw [this]; rfl
theorem bad_law (s : ByteArray) : decide (0 ≤ Lib.idxFunc badR true s) = !(s.data.toList.all isDig) := by
  have h := bad_from s s.size 0 (by omega)
  rw [List.drop_zero] at h
  exact h
theorem contf_calls (s : ByteArray) (w : World) :
    Calls Tryz.prog 73 #[.string s, .func (.func 74) #[] #[]] w fun e w' => e = .returned (.bool (!(s.data.toList.all isDig))) ∧ Below w.heap.size w w' := by
  have h := Any.strings_ContainsFunc Tryz.layContFunc 74 #[] (enters_of Tryz.func74 (by kernel_rfl) rfl) badR s w (bad_at w)
  rw [bad_law] at h
  exact h
def digits_natural.f (a0 : ByteArray) : Option Bool := some (natB a0.data.toList)
set_option maxRecDepth 100000 in
set_option maxHeartbeats 4000000 in
theorem digits_natural.calls (a0 : ByteArray) (r : Bool) (w : World) (h : digits_natural.f a0 = some r) :
    Calls Tryz.prog 42 #[.string a0] w fun e w' => e = .returned (.bool r) ∧ Below w.heap.size w w' := by
  unfold digits_natural.f at h
  obtain rfl := Option.some.inj h
  clear h
  have CF := fun W => contf_calls a0 W
  have hb : ∀ b0 : Bool, b0 = natB a0.data.toList → Calls Tryz.prog 42 #[.string a0] w fun e w' => e = .returned (.bool b0) ∧ Below w.heap.size w w' := by
    intro b0 hb0
    obtain ⟨q, hq⟩ : ∃ q, a0.data.toList.all isDig = q := ⟨_, rfl⟩
    rw [hq] at CF
    have HQ := Aside0.mk hq
    have HB := Aside0.mk hb0
    clear hb0 hq
    by_cases h0 : a0 = ⟨#[]⟩
    · have c1 : decide (a0 = ⟨#[]⟩) = true := decide_eq_true h0
      go_enter Tryz.func42, Tryz.ntmps42
      go_wp2
      go_ret
      exact ⟨by rw [HB.out, h0]; rfl, Below.refl _ _⟩
    · obtain ⟨c, r, hl⟩ : ∃ c r, a0.data.toList = c :: r := by
        cases e : a0.data.toList with
        | nil => exact absurd (by cases a0 with | mk d => congr; exact Array.toList_eq_nil_iff.1 e) h0
        | cons c r => exact ⟨c, r, rfl⟩
      have hsz : a0.size = r.length + 1 := by
        have : a0.data.toList.length = a0.size := by cases a0; rfl
        rw [← this, hl]; rfl
      have c1 : a0.toList.isEmpty = false := by rw [ByteArray.toList_eq, hl]; rfl
      have hp0 : 0 < a0.size := by omega
      have hc : a0[0]'hp0 = c := by
        have h := drop_at a0 0 hp0
        rw [List.drop_zero, hl] at h
        exact (List.cons.inj h).1.symm
      have HL := Aside0.mk hl
      have HSZ := Aside0.mk hsz
      clear h0 hl
      by_cases h1 : 1 < a0.size
      · have c2 : decide (1 < (a0.size : Int)) = true := decide_eq_true (by omega)
        by_cases h48 : c = 48
        · have c3 : ((((a0[0]'hp0).toNat : Nat) : Int) == 48) = true := by rw [hc, h48]; rfl
          have H48 := Aside0.mk h48
          clear hc h48 hsz
          go_enter Tryz.func42, Tryz.ntmps42
          go_wp2_with (go_at_call 73; refine (CF _).mono ?_; rintro e w' ⟨rfl, hb1⟩; have HB1 := Aside0.mk hb1; clear hb1)
          go_ret
          refine ⟨?_, Below.refl _ _⟩
          rw [HB.out, HL.out]
          have := HSZ.out
          unfold natB
          rw [H48.out]
          simp
          intro e
          exfalso
          rw [e] at this
          simp at this
          omega
        · have c3 : ((((a0[0]'hp0).toNat : Nat) : Int) == 48) = false := by
            rw [hc, beq_eq_false_iff_ne]
            intro e
            apply h48
            apply UInt8.toNat_inj.1
            exact Int.ofNat.inj e
          have H48 := Aside0.mk h48
          clear hc h48 hsz
          go_enter Tryz.func42, Tryz.ntmps42
          go_wp2_with (go_at_call 73; refine (CF _).mono ?_; rintro e w' ⟨rfl, hb1⟩; have HB1 := Aside0.mk hb1; clear hb1)
          go_ret
          refine ⟨?_, HB1.out⟩
          rw [HB.out]
          unfold natB
          rw [HQ.out, HL.out]
          simp [H48.out]
      · have c2 : decide (1 < (a0.size : Int)) = false := decide_eq_false (by omega)
        clear hc hsz
        go_enter Tryz.func42, Tryz.ntmps42
        go_wp2_with (go_at_call 73; refine (CF _).mono ?_; rintro e w' ⟨rfl, hb1⟩; have HB1 := Aside0.mk hb1; clear hb1)
        go_ret
        refine ⟨?_, HB1.out⟩
        rw [HB.out]
        unfold natB
        rw [HQ.out, HL.out]
        have : r.length = 0 := by have := HSZ.out; omega
        rw [List.eq_nil_of_length_eq_zero this]
        simp
  exact hb _ rfl
end Go.Proofs.YtibaoacjjcgjlaaGreatDoor.Print

namespace Go.Proofs
open Go.RowKit Go.Shelf
shelf_lay LaysPu.n14 Mp 14 at Tryz as Tryz.layParseUint
end Go.Proofs
namespace Go.Proofs.YtibaoacjjcgjlaaGreatDoor.Print
open Go.RowKit Go.Shelf Go.Proofs.YtibaoacjjcgjlaaGreatDoorW.PrintWords Go.Proofs.YtibaoacjjcgjlaaGreatDoorW.PrintLast Go.Proofs.YtibaoacjjcgjlaaGreatDoorW.PrintMore Go.Proofs.YtibaoacjjcgjlaaGreatDoor.Base
set_option linter.unusedVariables false
set_option linter.unusedSimpArgs false
def numF (acc : Nat) (l : List UInt8) : Nat := l.foldl (fun a c => 10 * a + (c.toNat - 48)) acc
theorem numF_eq : ∀ (l : List UInt8) (acc : Nat), numF acc l = acc * 10 ^ l.length + numD l
  | [], acc => by simp [numF, numD]
  | c :: r, acc => by
    have e1 : numF acc (c :: r) = numF (10 * acc + (c.toNat - 48)) r := rfl
    have e2 : numD (c :: r) = numF (10 * 0 + (c.toNat - 48)) r := rfl
    rw [e1, e2, numF_eq r, numF_eq r, List.length_cons, Nat.pow_succ]
    rw [Nat.add_mul, Nat.mul_zero, Nat.zero_add, Nat.add_assoc]
    congr 1
    rw [Nat.mul_comm 10 acc, Nat.mul_assoc, Nat.mul_comm 10]
theorem numD_append (a b : List UInt8) : numD (a ++ b) = numD a * 10 ^ b.length + numD b := by
  rw [← numF_eq]
  simp [numD, numF, List.foldl_append]
theorem numD_lt : ∀ (l : List UInt8), DigL l → numD l < 10 ^ l.length
  | [], _ => by simp [numD]
  | c :: r, h => by
    have hc := h c (List.mem_cons_self ..)
    have ih := numD_lt r (fun x hx => h x (List.mem_cons_of_mem _ hx))
    have e2 : numD (c :: r) = numF (10 * 0 + (c.toNat - 48)) r := rfl
    rw [e2, numF_eq, List.length_cons, Nat.pow_succ, Nat.mul_zero, Nat.zero_add]
    have : (c.toNat - 48) * 10 ^ r.length ≤ 9 * 10 ^ r.length := Nat.mul_le_mul_right _ (by omega)
    omega
theorem parse_from : ∀ (l : List UInt8) (acc : Nat), DigL l → (acc + 1) * 10 ^ l.length ≤ 1000000000 → Lib.parseUintM 4294967295 acc l = .ok (numF acc l)
  | [], acc, _, _ => rfl
  | c :: r, acc, h, hb => by
    have hc := h c (List.mem_cons_self ..)
    rw [List.length_cons, Nat.pow_succ] at hb
    have hp : 1 ≤ 10 ^ r.length := Nat.pos_of_ne_zero (by simp)
    have h1 : (acc + 1) * 10 ≤ 1000000000 := by
      refine Nat.le_trans ?_ hb
      rw [Nat.mul_comm (10 ^ r.length)]
      rw [← Nat.mul_assoc]
      exact Nat.le_mul_of_pos_right _ hp
    unfold Lib.parseUintM
    rw [if_pos hc, if_neg (by omega), if_neg (by omega)]
    have e : acc * 10 + (c.toNat - 48) = 10 * acc + (c.toNat - 48) := by omega
    rw [e]
    refine parse_from r _ (fun x hx => h x (List.mem_cons_of_mem _ hx)) ?_
    refine Nat.le_trans (Nat.mul_le_mul_right _ (show 10 * acc + (c.toNat - 48) + 1 ≤ (acc + 1) * 10 by omega)) ?_
    rw [Nat.mul_assoc, Nat.mul_comm 10]
    exact hb
theorem parse_ok {l : List UInt8} (h : DigL l) (h0 : l ≠ []) (h9 : l.length ≤ 9) : Lib.parseUintB 32 l = .ok (numD l) := by
  unfold Lib.parseUintB
  rw [if_neg h0]
  refine parse_from l 0 h ?_
  rw [Nat.zero_add, Nat.one_mul]
  exact Nat.pow_le_pow_right (by decide) h9
theorem parse_calls (s : ByteArray) (hs : s.size ≤ 9) (h0 : s.data.toList ≠ []) (hd : DigL s.data.toList) (w : World) :
    Calls Tryz.prog 39 #[.string s, .int .i64 10, .int .i64 32] w fun e w' => e = .returned (.tuple #[.int .u64 ((numD s.data.toList : Nat) : Int), .nilIface]) ∧ Below w.heap.size w w' := by
  have hl : s.data.toList.length = s.size := by cases s; rfl
  refine (Any.strconv_ParseUint_10_at32_ok Tryz.layParseUint s (by omega) _ (parse_ok hd h0 (by omega)) w).mono ?_
  rintro e w' ⟨rfl, h⟩
  refine ⟨rfl, ?_⟩
  rcases h with rfl | rfl
  · exact Below.refl _ _
  · exact Lib.bytesWorld_below _ _ _
theorem big_ok {v : Nat} (h : v < (10 ^ 110) ^ 3) : (digB 4294967296 v).length ≤ 35 ∧ okN (digB 4294967296 v) = true := by
  have h2 : v < 4294967296 ^ 35 := Nat.lt_of_lt_of_le h (Nat.le_of_ble_eq_true rfl)
  exact ⟨digB_len (by decide) h2, okN_digB h2 (by decide)⟩
theorem of2_calls (p : Nat) (hp : p < 18446744073709551616) (w : World) :
    Calls Tryz.prog 34 #[.int .u64 (p : Int)] w fun e w' => ∃ A c, ∃ q : List Int, e = .returned (.slice A q.length c) ∧ q = digB 4294967296 p ∧ q.length ≤ c ∧ Kd.C (Kd.int .u32) w' A q.length q ∧ Below w.heap.size w w' := by
  refine (nat_Of.calls (p : Int) (digB 4294967296 p) w (by unfold nat_Of.f; rw [if_pos ⟨by omega, by omega⟩, Int.toNat_natCast])).mono ?_
  rintro e w' ⟨v, rfl, h, hb⟩
  obtain ⟨A, c, rfl, h1, h2⟩ := Kd.R_reads h
  exact ⟨A, c, _, rfl, rfl, h1, h2, hb⟩
theorem mul2_calls (A0 : Option Addr) (c0 : Nat) (x : List Int) (A1 : Option Addr) (c1 : Nat) (y : List Int) (a b : Nat) (w : World) (hr0 : Kd.C (Kd.int .u32) w A0 x.length x) (hc0 : x.length ≤ c0) (hr1 : Kd.C (Kd.int .u32) w A1 y.length y) (hc1 : y.length ≤ c1) (hx : x = digB 4294967296 a) (hy : y = digB 4294967296 b) (ha : a < (10 ^ 110) ^ 3) (hb : b < (10 ^ 110) ^ 3) :
    Calls Tryz.prog 76 #[.slice A0 x.length c0, .slice A1 y.length c1] w fun e w' => ∃ A c, ∃ q : List Int, e = .returned (.slice A q.length c) ∧ q = digB 4294967296 (a * b) ∧ q.length ≤ c ∧ Kd.C (Kd.int .u32) w' A q.length q ∧ Below w.heap.size w w' := by
  have h1 := big_ok ha
  have h2 := big_ok hb
  rw [← hx] at h1
  rw [← hy] at h2
  refine (nat_MulC.calls A0 c0 x A1 c1 y (digB 4294967296 (a * b)) w hr0 hc0 hr1 hc1 ?_).mono ?_
  · unfold nat_MulC.f
    rw [if_pos ⟨h1.2, h2.2, by omega⟩, hx, hy, digB_val 4294967296 (by decide), digB_val 4294967296 (by decide)]
  rintro e w' ⟨v, rfl, h, hb⟩
  obtain ⟨A, c, rfl, h1, h2⟩ := Kd.R_reads h
  exact ⟨A, c, _, rfl, rfl, h1, h2, hb⟩
theorem add2_calls (A0 : Option Addr) (c0 : Nat) (x : List Int) (A1 : Option Addr) (c1 : Nat) (y : List Int) (a b : Nat) (w : World) (hr0 : Kd.C (Kd.int .u32) w A0 x.length x) (hc0 : x.length ≤ c0) (hr1 : Kd.C (Kd.int .u32) w A1 y.length y) (hc1 : y.length ≤ c1) (hx : x = digB 4294967296 a) (hy : y = digB 4294967296 b) (ha : a < (10 ^ 110) ^ 3) (hb : b < (10 ^ 110) ^ 3) :
    Calls Tryz.prog 75 #[.slice A0 x.length c0, .slice A1 y.length c1] w fun e w' => ∃ A c, ∃ q : List Int, e = .returned (.slice A q.length c) ∧ q = digB 4294967296 (a + b) ∧ q.length ≤ c ∧ Kd.R (Kd.int .u32) 88 w' w.heap.size (fun _ => True) (.slice A q.length c) q ∧ Below w.heap.size w w' := by
  have h1 := big_ok ha
  have h2 := big_ok hb
  rw [← hx] at h1
  rw [← hy] at h2
  refine (nat_Add.calls A0 c0 x A1 c1 y (digB 4294967296 (a + b)) w hr0 hc0 hr1 hc1 ?_).mono ?_
  · unfold nat_Add.f
    rw [if_pos ⟨h1.2, h2.2⟩, hx, hy, digB_val 4294967296 (by decide), digB_val 4294967296 (by decide)]
  rintro e w' ⟨v, rfl, h, hb⟩
  obtain ⟨A, c, rfl, h1, h2⟩ := Kd.R_reads h
  exact ⟨A, c, _, rfl, rfl, h1, h, hb⟩
def digits_read.f (a0 : ByteArray) : Option (List Int × Int) := if natB a0.data.toList = true then (if 309 < a0.size then some ([], 14) else if numD a0.data.toList < 4294967296 ^ 32 then some (digB 4294967296 (numD a0.data.toList), 0) else some ([], 14)) else none
theorem size_toList2 (s : ByteArray) : s.data.toList.length = s.size := by cases s; rfl
theorem extract_list (s : ByteArray) (i j : Nat) : (s.extract i j).data.toList = (s.data.toList.drop i).take (j - i) := by
  rw [ByteArray.data_extract, Array.toList_extract, List.extract_eq_take_drop]
theorem lt_add9 {v : Nat} (h : v < (10 ^ 103) ^ 3) : v * 1000000000 < (10 ^ 110) ^ 3 :=
  Nat.lt_of_lt_of_le ((Nat.mul_lt_mul_right (by decide)).2 h) (Nat.le_of_ble_eq_true rfl)
theorem lt_310 {v : Nat} (h : v < (10 ^ 103) ^ 3) : v < (10 ^ 110) ^ 3 := Nat.lt_of_lt_of_le h (Nat.le_of_ble_eq_true rfl)
theorem lt_p9 {p : Nat} (h : p < 1000000000) : p < (10 ^ 110) ^ 3 := Nat.lt_of_lt_of_le h (Nat.le_of_ble_eq_true rfl)
theorem lt_e9 : 1000000000 < (10 ^ 110) ^ 3 := Nat.lt_of_lt_of_le (Nat.lt_succ_self _) (Nat.le_of_ble_eq_true rfl)
theorem pow_le10 {k a b : Nat} (h : k ≤ a * b) : 10 ^ k ≤ (10 ^ a) ^ b := by
  rw [← Nat.pow_mul]
  exact Nat.pow_le_pow_right (by decide) h
set_option maxRecDepth 100000 in
set_option maxHeartbeats 16000000 in
theorem read_calls (a0 : ByteArray) (hd : DigL a0.data.toList) (hs : a0.size ≤ 309) (r1 : List Int) (r2 : Int) (hr : (if numD a0.data.toList < 4294967296 ^ 32 then (digB 4294967296 (numD a0.data.toList), (0 : Int)) else ([], 14)) = (r1, r2)) (w : World) :
    Calls Tryz.prog 43 #[.string a0] w fun e w' => ∃ v0_ : Value, e = .returned (.tuple #[v0_, .int .i64 r2]) ∧ Kd.R (Kd.int .u32) 88 w' w.heap.size (fun _ => True) v0_ r1 ∧ Below w.heap.size w w' := by
  obtain ⟨T, hT⟩ : ∃ T, numD a0.data.toList = T := ⟨_, rfl⟩
  have hT9 : T < (10 ^ 103) ^ 3 := by
    rw [← hT]
    refine Nat.lt_of_lt_of_le (numD_lt _ hd) (pow_le10 ?_)
    rw [size_toList2]; exact hs
  rw [hT] at hr
  have HR := Aside0.mk hr
  have HD := Aside0.mk hd
  have HT := Aside0.mk hT
  have HT9 := Aside0.mk hT9
  have c0 : decide (309 < (a0.size : Int)) = false := decide_eq_false (by omega)
  clear hr hd hT hT9
  go_enter Tryz.func43, Tryz.ntmps43
  go_wp2
  go_loopg [0, 4] (a0.size + 1) (fun kq v0 v4 wr => ∃ (st : ByteArray) (A : Option Addr) (c : Nat) (xs : List Int) (v : Nat), v0 = .string st ∧ v4 = .slice A xs.length c ∧ Aside0 (st.size < kq ∧ st.size ≤ 309) ∧ Aside0 (DigL st.data.toList ∧ xs = digB 4294967296 v ∧ v * 10 ^ st.size + numD st.data.toList = T ∧ (v = 0 ∨ st.size % 9 = 0)) ∧ Aside0 (Kd.R (Kd.int .u32) 88 wr w.heap.size (fun _ => True) (.slice A xs.length c) xs) ∧ Aside0 (Below w.heap.size w wr))
  case atStart => exact ⟨a0, none, 0, [], 0, rfl, rfl, ⟨Nat.lt_succ_self _, hs⟩, ⟨HD.out, (digB_zero _ (by decide)).symm, by rw [HT.out]; simp, .inl rfl⟩, ⟨Kd.R_nil _ _ _ _ _⟩, ⟨Below.refl _ _⟩⟩
  case round =>
    obtain ⟨st, A, c, xs, v, rfl, rfl, HK, HF, HRR, HB⟩ := hrel
    by_cases h0 : 0 < st.size
    · have c1 : decide (0 < (st.size : Int)) = true := decide_eq_true (by omega)
      have hk := HK.out
      obtain ⟨n, hnn⟩ : ∃ n, (st.size - 1) % 9 + 1 = n := ⟨_, rfl⟩
      have hn : n ≤ st.size := by omega
      have hn9 : n ≤ 9 := by omega
      have hn1 : 1 ≤ n := by omega
      have hw : wrap64 ((wrap64 ((st.size : Int) - 1)).tmod 9 + 1) = (n : Int) := by
        rw [show wrap64 ((st.size : Int) - 1) = ((st.size - 1 : Nat) : Int) from by unfold wrap64; omega]
        rw [show ((st.size - 1 : Nat) : Int).tmod 9 = (((st.size - 1) % 9 : Nat) : Int) from rfl]
        unfold wrap64; omega
      have b1 : (0 : Int) ≤ (n : Int) := by omega
      have b2 : (n : Int) ≤ (st.size : Int) := by omega
      have hg : (st.extract 0 n).data.toList = st.data.toList.take n := by rw [extract_list, List.drop_zero, Nat.sub_zero]
      have hgr : (st.extract n st.size).data.toList = st.data.toList.drop n := by
        rw [extract_list]
        exact List.take_of_length_le (by rw [List.length_drop, size_toList2]; omega)
      have hgl : (st.extract 0 n).data.toList.length = n := by rw [hg, List.length_take, size_toList2]; omega
      have hgd : DigL (st.extract 0 n).data.toList := by rw [hg]; exact fun x hx => HF.out.1 x (List.mem_of_mem_take hx)
      have hrd : DigL (st.extract n st.size).data.toList := by rw [hgr]; exact fun x hx => HF.out.1 x (List.mem_of_mem_drop hx)
      have hrs : (st.extract n st.size).size = st.size - n := by rw [← size_toList2, hgr, List.length_drop, size_toList2]
      have PU := parse_calls (st.extract 0 n) (by rw [← size_toList2, hgl]; omega) (by intro e; rw [e] at hgl; simp at hgl; omega) hgd
      have hpl := numD_lt _ hgd
      rw [hgl] at hpl
      have htot : numD st.data.toList = numD (st.extract 0 n).data.toList * 10 ^ (st.size - n) + numD (st.extract n st.size).data.toList := by
        rw [hg, hgr]
        conv => lhs; rw [← List.take_append_drop n st.data.toList]
        rw [numD_append, List.length_drop, size_toList2]
      obtain ⟨p, hp⟩ : ∃ p, numD (st.extract 0 n).data.toList = p := ⟨_, rfl⟩
      rw [hp] at PU hpl htot
      have hp9 : p < 1000000000 := Nat.lt_of_lt_of_le hpl (Nat.pow_le_pow_right (by decide) hn9)
      have hv9 : v < (10 ^ 103) ^ 3 := by
        have h1 := HF.out.2.2.1
        have h2 := HT9.out
        have h3 : 1 ≤ 10 ^ st.size := Nat.pos_of_ne_zero (by simp)
        have h4 : v * 1 ≤ v * 10 ^ st.size := Nat.mul_le_mul_left _ h3
        exact Nat.lt_of_le_of_lt (show v ≤ T by rw [← h1]; omega) h2
      have OF1 : ∀ W, Calls Tryz.prog 34 #[.int .u64 1000000000] W fun e w' => ∃ A c, ∃ q : List Int, e = .returned (.slice A q.length c) ∧ q = digB 4294967296 1000000000 ∧ q.length ≤ c ∧ Kd.C (Kd.int .u32) w' A q.length q ∧ Below W.heap.size W w' := fun W => of2_calls 1000000000 (by decide) W
      have OF2 := fun W => of2_calls p (by omega) W
      have HP9 := Aside0.mk hp9
      have HV9 := Aside0.mk hv9
      have HTOT := Aside0.mk htot
      have HN := Aside0.mk (And.intro hnn (And.intro hn (And.intro hn9 hn1)))
      have HREST := Aside0.mk (And.intro hrd hrs)
      have HH0 := Aside0.mk h0
      have HC := Aside0.mk (Kd.rR9 HRR.out)
      clear hnn hn hn9 hn1 hg hgr hgl hgd hpl htot hp hp9 hv9 hk hrd hrs
      go_wp2_with (first | (go_at_call 39; refine (PU _).mono ?_; rintro e w1 ⟨rfl, hb1⟩; have B1 := Aside0.mk hb1; clear hb1) | (go_at_call 34; (with_reducible refine (OF1 _).mono ?_); rintro e w2 ⟨A2, c2, q2, rfl, hq2, hc2, hr2, hb2⟩; have Q2 := Aside0.mk (And.intro hq2 (And.intro hc2 hr2)); have B2 := Aside0.mk (B1.out.trans (hb2.mono B1.out.size)); clear hq2 hc2 hr2 hb2) | (go_at_call 76; refine (mul2_calls A c xs A2 c2 q2 v 1000000000 w2 (Kd.cB9 HC.out.2.2 B2.out) HC.out.2.1 Q2.out.2.2 Q2.out.2.1 HF.out.2.1 Q2.out.1 (by have := HV9.out; exact lt_310 this) lt_e9).mono ?_; rintro e w3 ⟨A3, c3, q3, rfl, hq3, hc3, hr3, hb3⟩; have Q3 := Aside0.mk (And.intro hq3 (And.intro hc3 hr3)); have B3 := Aside0.mk (B2.out.trans (hb3.mono B2.out.size)); clear hq3 hc3 hr3 hb3) | (go_at_call 34; (with_reducible refine (OF2 _).mono ?_); rintro e w4 ⟨A4, c4, q4, rfl, hq4, hc4, hr4, hb4⟩; have Q4 := Aside0.mk (And.intro hq4 (And.intro hc4 hr4)); have B4 := Aside0.mk (B3.out.trans (hb4.mono B3.out.size)); have B34 := Aside0.mk hb4; clear hq4 hc4 hr4 hb4) | (go_at_call 75; refine (add2_calls A3 c3 q3 A4 c4 q4 (v * 1000000000) p w4 (Kd.cB9 Q3.out.2.2 B34.out) Q3.out.2.1 Q4.out.2.2 Q4.out.2.1 Q3.out.1 Q4.out.1 (by have := HV9.out; exact lt_add9 this) (by have := HP9.out; exact lt_p9 this)).mono ?_; rintro e w5 ⟨A5, c5, q5, rfl, hq5, hc5, hr5, hb5⟩; have Q5 := Aside0.mk (And.intro hq5 (And.intro hc5 hr5)); have B5 := Aside0.mk (B4.out.trans (hb5.mono B4.out.size)); clear hq5 hc5 hr5 hb5) | (go_at_call 34; apply Classical.byContradiction; intro DBG) | (go_at_call 76; apply Classical.byContradiction; intro DBG) | (go_at_call 75; apply Classical.byContradiction; intro DBG) | (go_at_call 39; apply Classical.byContradiction; intro DBG))
      have hsd : wr.heap.size ≤ w4.heap.size := B4.out.size
      cases gk with
      | zero => exact absurd HK.out.1 (Nat.not_lt_zero _)
      | succ k1 =>
        go_roundg k1
        case measure => omega
        case rel =>
          have h1 := HN.out
          have h2 := HREST.out
          have h3 := HK.out
          refine ⟨_, A5, c5, q5, v * 1000000000 + p, rfl, rfl, ⟨by omega, by omega⟩, ⟨h2.1, Q5.out.1, ?_, .inr (by omega)⟩, ⟨Kd.rL9 Q5.out.2.2 (Nat.le_trans HB.out.size hsd)⟩, ⟨HB.out.trans (B5.out.mono HB.out.size)⟩⟩
          have h4 := HF.out.2.2.1
          have h5 := HTOT.out
          rw [h2.2]
          rw [h5] at h4
          rw [← h4, Nat.add_mul, ← Nat.add_assoc]
          congr 2
          rcases HF.out.2.2.2 with e | e
          · rw [e]; simp
          · have hn9 : n = 9 := by omega
            rw [hn9, Nat.mul_assoc]
            congr 1
            rw [show (1000000000 : Nat) = 10 ^ 9 from rfl, ← Nat.pow_add]
            congr 1
            omega
    · have c1 : decide (0 < (st.size : Int)) = false := decide_eq_false (by omega)
      have hz : st.size = 0 := by omega
      have hvT : v = T := by
        have h := HF.out.2.2.1
        have e : st.data.toList = [] := List.eq_nil_of_length_eq_zero (by rw [size_toList2]; exact hz)
        rw [hz, e] at h
        simpa [numD] using h
      have hxs := HF.out.2.1
      rw [hvT] at hxs
      have HX := Aside0.mk hxs
      clear hxs hvT
      by_cases hbig : T < 4294967296 ^ 32
      · have hl : xs.length ≤ 32 := by rw [HX.out]; exact digB_len (by decide) hbig
        have c2 : decide (32 < (xs.length : Int)) = false := decide_eq_false (by omega)
        have hr := HR.out
        rw [if_pos hbig] at hr
        obtain ⟨rfl, rfl⟩ := Prod.mk.inj hr
        clear hr
        go_wp2
        go_ret2
        exact ⟨_, rfl, by rw [← HX.out]; exact HRR.out, HB.out⟩
      · have hl : 32 < xs.length := by rw [HX.out]; exact digB_len_ge (by decide) (Nat.le_of_not_lt hbig)
        have c2 : decide (32 < (xs.length : Int)) = true := decide_eq_true (by omega)
        have hr := HR.out
        rw [if_neg hbig] at hr
        obtain ⟨rfl, rfl⟩ := Prod.mk.inj hr
        clear hr
        go_wp2
        go_ret2
        exact ⟨_, rfl, Kd.R_nil _ _ _ _ _, HB.out⟩
set_option maxRecDepth 100000 in
set_option maxHeartbeats 4000000 in
theorem digits_read.calls (a0 : ByteArray) (r1 : List Int) (r2 : Int) (w : World) (h : digits_read.f a0 = some (r1, r2)) :
    Calls Tryz.prog 43 #[.string a0] w fun e w' => ∃ v0_ : Value, e = .returned (.tuple #[v0_, .int .i64 r2]) ∧ Kd.R (Kd.int .u32) 88 w' w.heap.size (fun _ => True) v0_ r1 ∧ Below w.heap.size w w' := by
  unfold digits_read.f at h
  by_cases hn : natB a0.data.toList = true
  · rw [if_pos hn] at h
    by_cases hs : 309 < a0.size
    · rw [if_pos hs] at h
      obtain ⟨rfl, rfl⟩ := Prod.mk.inj (Option.some.inj h)
      have c0 : decide (309 < (a0.size : Int)) = true := decide_eq_true (by omega)
      clear h hn
      go_enter Tryz.func43, Tryz.ntmps43
      go_wp2
      go_ret2
      exact ⟨_, rfl, Kd.R_nil _ _ _ _ _, Below.refl _ _⟩
    · rw [if_neg hs] at h
      refine read_calls a0 (natB_iff.1 hn).2.1 (by omega) r1 r2 ?_ w
      by_cases hb : numD a0.data.toList < 4294967296 ^ 32
      · rw [if_pos hb] at h ⊢
        exact Option.some.inj h
      · rw [if_neg hb] at h ⊢
        exact Option.some.inj h
  · rw [if_neg hn] at h; cases h
end Go.Proofs.YtibaoacjjcgjlaaGreatDoor.Print

namespace Go.Proofs
open Go.RowKit Go.Shelf
shelf_lay Lays.n219 Nm 219 at Tryz as Tryz.layIndexLite
shelf_lay Lays.n103 Nm 103 at Tryz as Tryz.layCutPrefix
end Go.Proofs
namespace Go.Proofs.YtibaoacjjcgjlaaGreatDoor.Print
open Go.RowKit Go.Shelf Go.Proofs.YtibaoacjjcgjlaaGreatDoorW.PrintWords Go.Proofs.YtibaoacjjcgjlaaGreatDoorW.PrintLast
set_option linter.unusedVariables false
set_option linter.unusedSimpArgs false
theorem indexByte_lt (l : List UInt8) (c : UInt8) : Lib.indexByte l c < (l.length : Int) := by
  induction l with
  | nil => show (-1 : Int) < 0; decide
  | cons b l ih =>
    unfold Lib.indexByte
    split
    · simp only [List.length_cons]; omega
    · split
      · simp only [List.length_cons]; omega
      · simp only [List.length_cons]; omega
def slAt (s : ByteArray) : Int := Lib.indexByte s.data.toList 47
theorem slAt_lt (s : ByteArray) : slAt s < (s.size : Int) := by
  have := indexByte_lt s.data.toList 47
  have e : s.data.toList.length = s.size := by cases s; rfl
  rw [e] at this; exact this
def cutSL (s : ByteArray) : ByteArray × ByteArray × Bool := if 0 ≤ slAt s then (s.extract 0 (slAt s).toNat, s.extract ((slAt s).toNat + 1) s.size, true) else (s, ⟨#[]⟩, false)
set_option maxRecDepth 100000 in
set_option maxHeartbeats 2000000 in
theorem cutlite_calls (s : ByteArray) (hs : s.size ≤ 140737488351232) (w : World) :
    Calls Tryz.prog 72 #[.string s, .string ⟨#[47]⟩] w fun e w' => e = .returned (.tuple #[.string (cutSL s).1, .string (cutSL s).2.1, .bool (cutSL s).2.2]) ∧ Drawn0 w w' := by
  by_cases h : 0 ≤ slAt s
  · obtain ⟨i, hi⟩ : ∃ i : Nat, slAt s = (i : Int) := ⟨(slAt s).toNat, by omega⟩
    have hlt := slAt_lt s
    rw [show cutSL s = (s.extract 0 (slAt s).toNat, s.extract ((slAt s).toNat + 1) s.size, true) from if_pos h, hi]
    have c1 : (0 : Int) ≤ ↑i := by omega
    have c2 : (↑i : Int) ≤ ↑s.size := by omega
    have c3 : (0 : Int) ≤ ↑i + 1 := by omega
    have c4 : (↑i + 1 : Int) ≤ ↑s.size := by omega
    have c5 : IntKind.i64.wrap ((i : Int) + 1) = (i : Int) + 1 := by rw [i64_w]; unfold wrap64; omega
    have mixed : Tryz.prog.follows .mixedOrders = true := by kernel_rfl
    have hI := fun w => Any.stringslite_Index_one Tryz.layIndexLite s 47 w
    rw [show Lib.indexByte s.data.toList 47 = (i : Int) from hi] at hI
    go_enter Tryz.func72, Tryz.ntmps72
    go_wp2_with (go_at_call 105; refine (hI _).mono ?_; rintro e w' ⟨rfl, rfl⟩)
    go_region_o
    go_wp2
    go_ret3
    exact ⟨rfl, 1, rfl⟩
  · rw [show cutSL s = (s, ⟨#[]⟩, false) from if_neg h]
    have hd : decide (0 ≤ slAt s) = false := decide_eq_false h
    have hI := fun w => Any.stringslite_Index_one Tryz.layIndexLite s 47 w
    rw [show Lib.indexByte s.data.toList 47 = slAt s from rfl] at hI
    generalize slAt s = i at hd hI
    go_enter Tryz.func72, Tryz.ntmps72
    go_wp2_with (go_at_call 105; refine (hI _).mono ?_; rintro e w' ⟨rfl, rfl⟩)
    go_ret3
    exact ⟨rfl, 0, rfl⟩
def strings_Cut.f (a0 a1 : ByteArray) : Option (ByteArray × ByteArray × Bool) := if a1 = ⟨#[47]⟩ ∧ a0.size ≤ 140737488351232 then some (cutSL a0) else none
set_option maxRecDepth 100000 in
theorem strings_Cut.calls (a0 a1 : ByteArray) (r1 r2 : ByteArray) (r3 : Bool) (w : World) (h : strings_Cut.f a0 a1 = some (r1, r2, r3)) :
    Calls Tryz.prog 41 #[.string a0, .string a1] w fun e w' => e = .returned (.tuple #[.string r1, .string r2, .bool r3]) ∧ Drawn0 w w' := by
  unfold strings_Cut.f at h
  by_cases ha : a1 = ⟨#[47]⟩ ∧ a0.size ≤ 140737488351232
  · rw [if_pos ha] at h
    obtain ⟨rfl, hs⟩ := ha
    have h := Option.some.inj h
    have hC := cutlite_calls a0 hs
    rw [h] at hC
    go_enter Tryz.func41, Tryz.ntmps41
    go_wp2_with (go_at_call 72; refine (hC _).mono ?_; rintro e w' ⟨rfl, ⟨n, rfl⟩⟩)
    go_ret3
    exact ⟨rfl, n, rfl⟩
  · rw [if_neg ha] at h; cases h
def strings_CutPrefix.f (a0 a1 : ByteArray) : Option (ByteArray × Bool) := some (⟨(Lib.trimPrefix a0.data.toList a1.data.toList).toArray⟩, Lib.hasPrefix a0.data.toList a1.data.toList)
theorem strings_CutPrefix.calls (a0 a1 : ByteArray) (r1 : ByteArray) (r2 : Bool) (w : World) (h : strings_CutPrefix.f a0 a1 = some (r1, r2)) :
    Calls Tryz.prog 18 #[.string a0, .string a1] w fun e w' => e = .returned (.tuple #[.string r1, .bool r2]) ∧ Drawn0 w w' := by
  unfold strings_CutPrefix.f at h
  have h := Option.some.inj h
  obtain ⟨rfl, rfl⟩ := Prod.mk.inj h
  exact (Any.strings_CutPrefix Tryz.layCutPrefix a0 a1 w).mono fun e w' ⟨he, hw⟩ => ⟨he, 0, by rw [hw]; rfl⟩
end Go.Proofs.YtibaoacjjcgjlaaGreatDoor.Print
