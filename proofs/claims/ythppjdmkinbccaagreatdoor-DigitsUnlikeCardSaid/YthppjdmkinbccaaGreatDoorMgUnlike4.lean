/- Written by wip/tools/claimtexts.py: these texts, one behind another, without what this claim does not use: C1, HMake, D1, HBack, HFormat, HDig. -/
import Derived.Test.YthppjdmkinbccaaGreatDoorMgUnlike2
import Derived.Test.YthppjdmkinbccaaGreatDoorMgUnlike3
import Derived.RangeFuncNested
import Derived.RangeFuncBound
import Derived.RangeFuncCalls
import Derived.RangeFuncLeaves
import Derived.RangeFuncBox
import Derived.Shelf.Abstract
import Derived.Shelf.RegionOpen
import Derived.WalkKit
import Derived.OwnWalkIn
import Derived.TacticsInMore
import Derived.LoopNIn
import Derived.LoopIn
import Derived.Lib.OthersKept
import Derived.Lib.BufferKept
import Derived.Ground.NamesProg
import Derived.Shelf.Lay
import Derived.Shelf.LaysM
import Derived.Shelf.Strconv.Itoa1
import Derived.Shelf.Strconv.Itoa2
import Derived.Lib.Walk
import Derived.Lib.ItoaMem
import Derived.Lib.AppendIntMem
import Derived.Lib.LaidTab
import Derived.BigCall
import Derived.BigGuard
import Derived.Shelf.Strings.Builder1
import Derived.Shelf.Strings.BuilderK
import Derived.Shelf.Strings.OnBuilder
import Derived.Shelf.Strings.Repeat
import Derived.Maps.AppendAt
import Derived.Deep.RegionHeld3
namespace Go.Proofs.YthppjdmkinbccaaGreatDoor.Print
open Go.RowKit Go.Proofs.YthppjdmkinbccaaGreatDoorW.PrintWords Go.Proofs.YthppjdmkinbccaaGreatDoorW.PrintLast Go.Proofs.YthppjdmkinbccaaGreatDoorW.PrintMore
attribute [local go_sem] max2_int min2_int max_two min_two max_three min_three max_four min_four   -- for this text's walks alone
set_option linter.unusedVariables false
set_option linter.unusedSimpArgs false
def quo_Gcd.l0 : Nat → List Int → List Int → Option (List Int)
 | 0, _, _ => none
 | k + 1, x0, x1 => if (x1.length : Int) > 0 then ((quo_DivMod.f x0 x1).bind fun bt107 => (quo_Gcd.l0 k x1 bt107.2.1)) else (some x0)
def quo_Gcd.f (k : Nat) (l0 : List Int) (l1 : List Int) : Option (List Int) := (nat_Trim.f l0).bind fun t101 => ((nat_Trim.f l1).bind fun t104 => (quo_Gcd.l0 k t101 t104))
set_option maxHeartbeats 8000000 in
set_option maxRecDepth 100000 in
theorem quo_Gcd.calls (k : Nat) (A0 : Option Addr) (c0 : Nat) (l0 : List Int) (A1 : Option Addr) (c1 : Nat) (l1 : List Int) (r : List Int) (w : World) (hr0 : Kd.C (Kd.int .u32) w A0 l0.length l0) (hc0 : l0.length ≤ c0) (hr1 : Kd.C (Kd.int .u32) w A1 l1.length l1) (hc1 : l1.length ≤ c1) (h : quo_Gcd.f k l0 l1 = some r) :
  Calls Tryz.prog 91 #[.slice A0 l0.length c0, .slice A1 l1.length c1] w fun e w' => ∃ v0_ : Value, e = .returned (v0_) ∧ Kd.R (Kd.int .u32) 56 w' w.heap.size (fun _ => True) v0_ r ∧ Below w.heap.size w w' := by
 have HR0 := Aside0.mk hr0
 have HC0 := Aside0.mk hc0
 clear hr0 hc0
 have HR1 := Aside0.mk hr1
 have HC1 := Aside0.mk hc1
 clear hr1 hc1
 have HB := Aside0.mk (Below.refl w.heap.size w)
 have H : ((nat_Trim.f l0).bind fun t101 => ((nat_Trim.f l1).bind fun t104 => (quo_Gcd.l0 k t101 t104))) = some r := h
 clear h
 replace H := Option.bind_eq_some_iff.mp H
 obtain ⟨t101, A30, H⟩ := H
 (try dsimp only at H)
 have A3 := Aside0.mk A30
 clear A30
 replace H := Option.bind_eq_some_iff.mp H
 obtain ⟨t104, A40, H⟩ := H
 replace H : (quo_Gcd.l0 k t101 t104) = some r := H
 have A4 := Aside0.mk A40
 clear A40
 have H' := Aside0.mk H
 clear H
 go_enter Tryz.func91, Tryz.ntmps91
 go_wp2_with (first | ((with_reducible refine gC9 (f := 45) rfl ?_); refine goesL_ (some 9) rfl rfl Tryz.func45 (by kernel_rfl) rfl #[.slice A0 l0.length c0] rfl (by (try simp only [List.map_toArray, List.map_cons, List.map_nil]); first | done | rfl | (simp only [List.length_drop, List.length_take]; rfl)) ?_; (with_reducible refine (nat_Trim.calls _ _ l0 t101 _ ?side1 ?side2 A3.out).mono ?_); (case side1 => repeat (first | exact HR0.out | (with_reducible refine Kd.cA9 ?_ _) | (with_reducible refine Kd.cN9 ?_ _) | (with_reducible refine Kd.cD9 ?_))); (case side2 => exact HC0.out); rintro e w5 ⟨v102, rfl, ho0, hb⟩; refine ⟨_, rfl, ?_⟩; have n0_ := Aside0.mk (Kd.rL9 ho0 (bZ9 (by repeat (first | (with_reducible first | exact HB.out | apply bA9 | apply bN9 | apply bD9) | exact HB.out)))); have n1_ := Aside0.mk (bT9 (by repeat (first | (with_reducible first | exact HB.out | apply bA9 | apply bN9 | apply bD9) | exact HB.out)) hb); clear HB; have HO103 := n0_; have HB := n1_; clear n0_ n1_; (try clear hb); (try clear hb2); (try clear hk); (try clear hi); (try clear ho0)) | ((with_reducible refine gC9 (f := 45) rfl ?_); refine goesL_ (some 11) rfl rfl Tryz.func45 (by kernel_rfl) rfl #[.slice A1 l1.length c1] rfl (by (try simp only [List.map_toArray, List.map_cons, List.map_nil]); first | done | rfl | (simp only [List.length_drop, List.length_take]; rfl)) ?_; (with_reducible refine (nat_Trim.calls _ _ l1 t104 _ ?side1 ?side2 A4.out).mono ?_); (case side1 => repeat (first | exact (Kd.cB9 HR1.out HB.out) | (with_reducible refine Kd.cA9 ?_ _) | (with_reducible refine Kd.cN9 ?_ _) | (with_reducible refine Kd.cD9 ?_))); (case side2 => exact HC1.out); rintro e w6 ⟨v105, rfl, ho0, hb⟩; refine ⟨_, rfl, ?_⟩; have n0_ := Aside0.mk (Kd.R_elder' (by (with_reducible repeat (first | apply Kd.rA9 | apply Kd.rN9 | apply Kd.rD9)); exact HO103.out) (Kd.R_base ho0) hb); have n1_ := Aside0.mk (Kd.rL9 (Kd.R_new' ho0 (Kd.R_lt (by (with_reducible repeat (first | apply Kd.rA9 | apply Kd.rN9 | apply Kd.rD9)); exact HO103.out))) (bZ9 (by repeat (first | (with_reducible first | exact HB.out | apply bA9 | apply bN9 | apply bD9) | exact HB.out)))); have n2_ := Aside0.mk (bT9 (by repeat (first | (with_reducible first | exact HB.out | apply bA9 | apply bN9 | apply bD9) | exact HB.out)) hb); clear HO103; clear HB; have HO103 := n0_; have HO106 := n1_; have HB := n2_; clear n0_ n1_ n2_; (try clear hb); (try clear hb2); (try clear hk); (try clear hi); (try clear ho0)))
 go_loopg [0, 1] k (fun kq v0 v1 w' => ∃ (x0_1 : List Int) (x1_1 : List Int), Aside0 (quo_Gcd.l0 kq x0_1 x1_1 = some r) ∧ Aside0 (kq ≤ k) ∧ Aside0 (Kd.R (Kd.int .u32) 56 w' w.heap.size (fun k_ => some k_ ≠ (v1 : Value).ownBlock) v0 x0_1) ∧ Aside0 (Kd.R (Kd.int .u32) 56 w' w.heap.size (fun k_ => some k_ ≠ (v0 : Value).ownBlock) v1 x1_1) ∧ Aside0 (Below w.heap.size w w'))
 case atStart => exact ⟨(t101), (t104), H', ⟨Nat.le_refl _⟩, ⟨by (with_reducible repeat (first | apply Kd.rA9 | apply Kd.rN9 | apply Kd.rD9)); exact Kd.R_mono HO103.out (fun _ hk => hk.2)⟩, ⟨by (with_reducible repeat (first | apply Kd.rA9 | apply Kd.rN9 | apply Kd.rD9)); exact Kd.R_mono HO106.out (fun _ hk => hk.2)⟩, ⟨by repeat (first | (with_reducible first | exact HB.out | apply bA9 | apply bN9 | apply bD9) | exact HB.out)⟩⟩
 case round =>
  clear H'
  try clear c1
  try clear p2
  try clear c4
  obtain ⟨x0_1, x1_1, HA, HK1, HO_0, HO_1, HB⟩ := hrel
  cases gk with
  | zero => exact absurd HA.out (by simp [quo_Gcd.l0])
  | succ k1 =>
   have H := HA.out
   clear HA
   simp only [quo_Gcd.l0] at H
   by_cases c7 : (x1_1.length : Int) > 0
   ·rw [if_pos c7] at H
    have c7b0 : decide (0 < (x1_1.length : Int)) = true := decide_eq_true c7
    have c7b1 : decide (0 < x1_1.length) = true := decide_eq_true (by omega)
    clear c7
    replace H := Option.bind_eq_some_iff.mp H
    obtain ⟨⟨t107, t108, t109⟩, A80, H⟩ := H
    replace H : (quo_Gcd.l0 k1 x1_1 t108) = some r := H
    have A8 := Aside0.mk A80
    clear A80
    have H' := Aside0.mk H
    clear H
    obtain ⟨Ao9, co9, eo9⟩ := Kd.rS9 HO_1.out
    subst eo9
    obtain ⟨Ao10, co10, eo10⟩ := Kd.rS9 HO_0.out
    subst eo10
    go_wp2_with (first | ((with_reducible refine gC9 (f := 115) rfl ?_); refine goesL_ (some 18) rfl rfl Tryz.func115 (by kernel_rfl) rfl #[.slice Ao10 x0_1.length co10, .slice Ao9 x1_1.length co9] rfl (by (try simp only [List.map_toArray, List.map_cons, List.map_nil]); first | done | rfl | (simp only [List.length_drop, List.length_take]; rfl)) ?_; (with_reducible refine (quo_DivMod.calls _ _ x0_1 _ _ x1_1 t107 t108 t109 _ ?side1 ?side2 ?side3 ?side4 A8.out).mono ?_); (case side1 => repeat (first | exact (Kd.rR9 HO_0.out).2.2 | (with_reducible refine Kd.cA9 ?_ _) | (with_reducible refine Kd.cN9 ?_ _) | (with_reducible refine Kd.cD9 ?_))); (case side2 => exact (Kd.rR9 HO_0.out).2.1); (case side3 => repeat (first | exact (Kd.rR9 HO_1.out).2.2 | (with_reducible refine Kd.cA9 ?_ _) | (with_reducible refine Kd.cN9 ?_ _) | (with_reducible refine Kd.cD9 ?_))); (case side4 => exact (Kd.rR9 HO_1.out).2.1); rintro e w11 ⟨v110, v112, rfl, ho0, ho1, hb⟩; refine ⟨_, rfl, ?_⟩; have n0_ := Aside0.mk (Kd.R_mono (Kd.R_told (Kd.R_told (Kd.R_old (by (with_reducible repeat (first | apply Kd.rA9 | apply Kd.rN9 | apply Kd.rD9)); exact HO_0.out) hb) (Kd.R_base ho0)) (Kd.R_base ho1)) (fun _ h_ => h_.1)); have n1_ := Aside0.mk (Kd.R_mono (Kd.R_told (Kd.R_told (Kd.R_old (by (with_reducible repeat (first | apply Kd.rA9 | apply Kd.rN9 | apply Kd.rD9)); exact HO_1.out) hb) (Kd.R_base ho0)) (Kd.R_base ho1)) (fun _ h_ => h_.1)); have n2_ := Aside0.mk (Kd.rL9 (Kd.R_new' (Kd.R_new' ho0 (Kd.R_lt (by (with_reducible repeat (first | apply Kd.rA9 | apply Kd.rN9 | apply Kd.rD9)); exact HO_0.out))) (Kd.R_lt (by (with_reducible repeat (first | apply Kd.rA9 | apply Kd.rN9 | apply Kd.rD9)); exact HO_1.out))) (bZ9 (by repeat (first | (with_reducible first | exact HB.out | apply bA9 | apply bN9 | apply bD9) | exact HB.out)))); have n3_ := Aside0.mk (Kd.rL9 (Kd.R_new' (Kd.R_new' ho1 (Kd.R_lt (by (with_reducible repeat (first | apply Kd.rA9 | apply Kd.rN9 | apply Kd.rD9)); exact HO_0.out))) (Kd.R_lt (by (with_reducible repeat (first | apply Kd.rA9 | apply Kd.rN9 | apply Kd.rD9)); exact HO_1.out))) (bZ9 (by repeat (first | (with_reducible first | exact HB.out | apply bA9 | apply bN9 | apply bD9) | exact HB.out)))); have n4_ := Aside0.mk (bT9 (by repeat (first | (with_reducible first | exact HB.out | apply bA9 | apply bN9 | apply bD9) | exact HB.out)) hb); clear HO_0; clear HO_1; clear HB; have HO_0 := n0_; have HO_1 := n1_; have HO111 := n2_; have HO113 := n3_; have HB := n4_; clear n0_ n1_ n2_ n3_ n4_; (try clear hb); (try clear hb2); (try clear hk); (try clear hi); (try clear ho0); (try clear ho1)))
    go_roundg k1
    case measure => have := HK1.out; omega
    case rel => exact ⟨(x1_1), (t108), H', ⟨by have := HK1.out; omega⟩, ⟨by (with_reducible repeat (first | apply Kd.rA9 | apply Kd.rN9 | apply Kd.rD9)); exact Kd.R_mono HO_1.out (fun _ hk => hk.2)⟩, ⟨by (with_reducible repeat (first | apply Kd.rA9 | apply Kd.rN9 | apply Kd.rD9)); exact Kd.R_mono HO113.out (fun _ hk => hk.2)⟩, ⟨by repeat (first | (with_reducible first | exact HB.out | apply bA9 | apply bN9 | apply bD9) | exact HB.out)⟩⟩
   ·rw [if_neg c7] at H
    have c7b0 : decide (0 < (x1_1.length : Int)) = false := decide_eq_false c7
    have c7b1 : decide (0 < x1_1.length) = false := decide_eq_false (by omega)
    clear c7
    obtain rfl := Option.some.inj H
    obtain ⟨Ao12, co12, eo12⟩ := Kd.rS9 HO_1.out
    subst eo12
    go_wp2
    go_ret
    exact ⟨_, by first | rfl | (simp [eN9, eS9] <;> rfl) | (simp [*, eN9, eS9] <;> rfl), by (with_reducible repeat (first | apply Kd.rA9 | apply Kd.rN9 | apply Kd.rD9)); exact Kd.R_mono HO_0.out (fun _ hk => trivial), by repeat (first | (with_reducible first | exact HB.out | apply bA9 | apply bN9 | apply bD9) | exact HB.out)⟩
def rat_by.f (l0 : List Int) (l1 : List Int) : Option (List Int) := (quo_DivMod.f l0 l1).bind fun bt114 => (some bt114.1)
set_option maxHeartbeats 8000000 in
set_option maxRecDepth 100000 in
theorem rat_by.calls (A0 : Option Addr) (c0 : Nat) (l0 : List Int) (A1 : Option Addr) (c1 : Nat) (l1 : List Int) (r : List Int) (w : World) (hr0 : Kd.C (Kd.int .u32) w A0 l0.length l0) (hc0 : l0.length ≤ c0) (hr1 : Kd.C (Kd.int .u32) w A1 l1.length l1) (hc1 : l1.length ≤ c1) (h : rat_by.f l0 l1 = some r) :
  Calls Tryz.prog 93 #[.slice A0 l0.length c0, .slice A1 l1.length c1] w fun e w' => ∃ v0_ : Value, e = .returned (v0_) ∧ Kd.R (Kd.int .u32) 56 w' w.heap.size (fun _ => True) v0_ r ∧ Below w.heap.size w w' := by
 have HR0 := Aside0.mk hr0
 have HC0 := Aside0.mk hc0
 clear hr0 hc0
 have HR1 := Aside0.mk hr1
 have HC1 := Aside0.mk hc1
 clear hr1 hc1
 have HB := Aside0.mk (Below.refl w.heap.size w)
 have H : ((quo_DivMod.f l0 l1).bind fun bt114 => (some bt114.1)) = some r := h
 clear h
 replace H := Option.bind_eq_some_iff.mp H
 obtain ⟨⟨t114, t115, t116⟩, A30, H⟩ := H
 replace H : (some t114) = some r := H
 have A3 := Aside0.mk A30
 clear A30
 obtain rfl := Option.some.inj H
 go_enter Tryz.func93, Tryz.ntmps93
 go_wp2_with (first | ((with_reducible refine gC9 (f := 115) rfl ?_); refine goesL_ (some 11) rfl rfl Tryz.func115 (by kernel_rfl) rfl #[.slice A0 l0.length c0, .slice A1 l1.length c1] rfl (by (try simp only [List.map_toArray, List.map_cons, List.map_nil]); first | done | rfl | (simp only [List.length_drop, List.length_take]; rfl)) ?_; (with_reducible refine (quo_DivMod.calls _ _ l0 _ _ l1 t114 t115 t116 _ ?side1 ?side2 ?side3 ?side4 A3.out).mono ?_); (case side1 => repeat (first | exact HR0.out | (with_reducible refine Kd.cA9 ?_ _) | (with_reducible refine Kd.cN9 ?_ _) | (with_reducible refine Kd.cD9 ?_))); (case side2 => exact HC0.out); (case side3 => repeat (first | exact HR1.out | (with_reducible refine Kd.cA9 ?_ _) | (with_reducible refine Kd.cN9 ?_ _) | (with_reducible refine Kd.cD9 ?_))); (case side4 => exact HC1.out); rintro e w4 ⟨v117, v119, rfl, ho0, ho1, hb⟩; refine ⟨_, rfl, ?_⟩; have n0_ := Aside0.mk (Kd.rL9 ho0 (bZ9 (by repeat (first | (with_reducible first | exact HB.out | apply bA9 | apply bN9 | apply bD9) | exact HB.out)))); have n1_ := Aside0.mk (Kd.rL9 ho1 (bZ9 (by repeat (first | (with_reducible first | exact HB.out | apply bA9 | apply bN9 | apply bD9) | exact HB.out)))); have n2_ := Aside0.mk (bT9 (by repeat (first | (with_reducible first | exact HB.out | apply bA9 | apply bN9 | apply bD9) | exact HB.out)) hb); clear HB; have HO118 := n0_; have HO120 := n1_; have HB := n2_; clear n0_ n1_ n2_; (try clear hb); (try clear hb2); (try clear hk); (try clear hi); (try clear ho0); (try clear ho1)))
 go_ret
 exact ⟨_, by first | rfl | (simp [eN9, eS9] <;> rfl) | (simp [*, eN9, eS9] <;> rfl), by (with_reducible repeat (first | apply Kd.rA9 | apply Kd.rN9 | apply Kd.rD9)); exact Kd.R_mono HO118.out (fun _ hk => trivial), by repeat (first | (with_reducible first | exact HB.out | apply bA9 | apply bN9 | apply bD9) | exact HB.out)⟩
def rat_one.f  : Option (List Int) := (nat_Of.f 1).bind fun t121 => (some t121)
set_option maxHeartbeats 8000000 in
set_option maxRecDepth 100000 in
theorem rat_one.calls  (r : List Int) (w : World) (h : rat_one.f  = some r) :
  Calls Tryz.prog 67 #[] w fun e w' => ∃ v0_ : Value, e = .returned (v0_) ∧ Kd.R (Kd.int .u32) 56 w' w.heap.size (fun _ => True) v0_ r ∧ Below w.heap.size w w' := by
 have HB := Aside0.mk (Below.refl w.heap.size w)
 have H : ((nat_Of.f 1).bind fun t121 => (some t121)) = some r := h
 clear h
 replace H := Option.bind_eq_some_iff.mp H
 obtain ⟨t121, A10, H⟩ := H
 replace H : (some t121) = some r := H
 have A1 := Aside0.mk A10
 clear A10
 obtain rfl := Option.some.inj H
 go_enter Tryz.func67, Tryz.ntmps67
 go_wp2_with (first | ((with_reducible refine gC9 (f := 30) rfl ?_); refine goesL_ (some 1) rfl rfl Tryz.func30 (by kernel_rfl) rfl #[.int .u64 1] rfl (by (try simp only [List.map_toArray, List.map_cons, List.map_nil]); first | done | rfl | (simp only [List.length_drop, List.length_take]; rfl)) ?_; (with_reducible refine (nat_Of.calls 1 t121 _ A1.out).mono ?_); rintro e w2 ⟨v122, rfl, ho0, hb⟩; refine ⟨_, rfl, ?_⟩; have n0_ := Aside0.mk (Kd.rL9 ho0 (bZ9 (by repeat (first | (with_reducible first | exact HB.out | apply bA9 | apply bN9 | apply bD9) | exact HB.out)))); have n1_ := Aside0.mk (bT9 (by repeat (first | (with_reducible first | exact HB.out | apply bA9 | apply bN9 | apply bD9) | exact HB.out)) hb); clear HB; have HO123 := n0_; have HB := n1_; clear n0_ n1_; (try clear hb); (try clear hb2); (try clear hk); (try clear hi); (try clear ho0)))
 go_ret
 exact ⟨_, by first | rfl | (simp [eN9, eS9] <;> rfl) | (simp [*, eN9, eS9] <;> rfl), by (with_reducible repeat (first | apply Kd.rA9 | apply Kd.rN9 | apply Kd.rD9)); exact HO123.out, by repeat (first | (with_reducible first | exact HB.out | apply bA9 | apply bN9 | apply bD9) | exact HB.out)⟩
end Go.Proofs.YthppjdmkinbccaaGreatDoor.Print

namespace Go.Proofs
open Go.RowKit Go.Shelf
shelf_lay Lays.n128 Nm 128 at Tryz as Tryz.layLen32
end Go.Proofs
namespace Go.Proofs.YthppjdmkinbccaaGreatDoor.Print
open Go.RowKit Go.Proofs.YthppjdmkinbccaaGreatDoorW.PrintWords Go.Proofs.YthppjdmkinbccaaGreatDoorW.PrintLast Go.Proofs.YthppjdmkinbccaaGreatDoorW.PrintMore Go.Proofs.YthppjdmkinbccaaGreatDoor.Base
set_option linter.unusedVariables false
set_option linter.unusedSimpArgs false
set_option linter.unusedSectionVars false
def bitsL (l : List Int) : Int := if (trimL l).length = 0 then 0 else 32 * (((trimL l).length : Int) - 1) + (Lib.bitLen (limbN l ((trimL l).length - 1)) : Int)
theorem bitLen_pos {x : Nat} (h : 1 ≤ x) (h2 : x < 4294967296) : 1 ≤ Lib.bitLen x := by
  rcases Nat.eq_zero_or_pos (Lib.bitLen x) with h0 | h0
  · have := lt_bitLen h2
    rw [h0] at this; simp at this; omega
  · exact h0
theorem limbN_last {l : List Int} (hd : DigB 4294967296 l) (h : (trimL l).length ≠ 0) : 1 ≤ limbN l ((trimL l).length - 1) := by
  have hle := trimL_len_le l
  have hc := trimL_can l
  have hi : (trimL l).length - 1 < l.length := by omega
  have e : (trimL l)[(trimL l).length - 1]? = l[(trimL l).length - 1]? := by
    have h1 : (trimL l)[(trimL l).length - 1]? = (l.take (trimL l).length)[(trimL l).length - 1]? := by rw [← trimL_take]
    rw [h1, List.getElem?_take, if_pos (by omega)]
  rw [List.getLast?_eq_getElem?, e, List.getElem?_eq_getElem hi] at hc
  have := hd l[(trimL l).length - 1] (List.getElem_mem hi)
  simp only [limbN, List.getD_eq_getElem?_getD, List.getElem?_eq_getElem hi, Option.getD_some]
  have hne : l[(trimL l).length - 1] ≠ 0 := fun hz => hc (by rw [hz])
  omega
theorem bitsL_zero {l : List Int} (hd : DigB 4294967296 l) : bitsL l = 0 ↔ valB 4294967296 l = 0 := by
  unfold bitsL
  have hg : GoodB 4294967296 (trimL l) := trimL_good hd
  have hv := trimL_val 4294967296 l
  by_cases h : (trimL l).length = 0
  · rw [if_pos h]
    have := List.eq_nil_of_length_eq_zero h
    rw [this, valB_nil] at hv
    exact ⟨fun _ => hv.symm, fun _ => rfl⟩
  · rw [if_neg h]
    refine ⟨fun hz => ?_, fun hz => ?_⟩
    · exfalso
      have hx : 1 ≤ limbN l ((trimL l).length - 1) := by
        have hlast := limbN_last hd h
        exact hlast
      have h2 := limbN_lt (by decide) hd ((trimL l).length - 1)
      have := bitLen_pos hx h2
      omega
    · exfalso
      have := hg.zero (by rw [hv, hz])
      rw [this] at h
      exact h rfl
def nat_Bits.f (l0 : List Int) : Option Int := if okN l0 = true then some (bitsL l0) else none
set_option maxRecDepth 100000 in
set_option maxHeartbeats 4000000 in
theorem nat_Bits.calls (A0 : Option Addr) (c0 : Nat) (l0 : List Int) (r : Int) (w : World) (hr0 : Kd.C (Kd.int .u32) w A0 l0.length l0) (hc0 : l0.length ≤ c0) (h : nat_Bits.f l0 = some r) :
    Calls Tryz.prog 90 #[.slice A0 l0.length c0] w fun e w' => e = .returned (.int .i64 r) ∧ Drawn0 w w' := by
  unfold nat_Bits.f at h
  by_cases hg : okN l0 = true
  · rw [if_pos hg] at h
    obtain rfl := Option.some.inj h
    obtain ⟨n0, d0⟩ := okN_iff.1 hg
    have TOP := top_calls A0 c0 l0 w hr0 hc0 (by omega)
    have hle := trimL_len_le l0
    unfold bitsL
    by_cases h0 : (trimL l0).length = 0
    · rw [if_pos h0]
      rw [h0] at TOP
      have HT := Aside0.mk TOP
      clear TOP
      go_enter Tryz.func90, Tryz.ntmps90
      go_wp2_with (go_at_call 74; refine HT.out.mono ?_; rintro e w1 ⟨rfl, ⟨q, rfl⟩⟩)
      go_ret
      exact ⟨rfl, ⟨_, rfl⟩⟩
    · rw [if_neg h0]
      have hl := limbN_last d0 h0
      obtain ⟨m, hm⟩ : ∃ m, (trimL l0).length = m := ⟨_, rfl⟩
      rw [hm] at hl TOP hle h0 ⊢
      obtain ⟨hx, hx2⟩ := rd_nat d0 (show m - 1 < l0.length by omega)
      obtain ⟨x, hxe⟩ : ∃ x, limbN l0 (m - 1) = x := ⟨_, rfl⟩
      rw [hxe] at hx hx2 hl ⊢
      obtain ⟨ad, hA, hcell⟩ := Kd.at_int hr0 ((m - 1 : Nat) : Int) (by omega) (by omega)
      rw [hx, Int.toNat_natCast] at hcell
      have LEN := fun W => Any.bits_Len32 Tryz.layLen32 (x : Int) W (by omega) (by omega)
      rw [Int.toNat_natCast] at LEN
      have hb := Any.bitLen_le32 (x : Int) (by omega) (by omega)
      rw [Int.toNat_natCast] at hb
      obtain ⟨b, hbb⟩ : ∃ b, Lib.bitLen x = b := ⟨_, rfl⟩
      rw [hbb] at LEN hb ⊢
      have hd0 : ((m : Int) == 0) = false := beq_eq_false_iff_ne.mpr (by omega)
      have q1 : (0 : Int) ≤ (m : Int) - 1 := by omega
      have q2 : (m : Int) - 1 < (l0.length : Int) := by omega
      have q3 : ((m : Int) - 1).toNat = m - 1 := by omega
      cases hA
      have HT := Aside0.mk TOP
      clear TOP hr0 hm hxe hbb hx
      go_enter Tryz.func90, Tryz.ntmps90
      go_wp2_with (first | (go_at_call 74; refine HT.out.mono ?_; rintro e w1 ⟨rfl, ⟨q, rfl⟩⟩) | (go_at_call 114; refine (LEN _).mono ?_; rintro e w1 ⟨rfl, rfl⟩))
      go_ret
      exact ⟨rfl, ⟨_, rfl⟩⟩
  · rw [if_neg hg] at h; cases h
theorem divmod_f {a b : List Int} (ha : okN a = true) (hb : okN b = true) (la : a.length ≤ 1048000) (lb : b.length ≤ 1048000) (h0 : valB 4294967296 b ≠ 0) : quo_DivMod.f a b = some (digB 4294967296 (valB 4294967296 a / valB 4294967296 b), digB 4294967296 (valB 4294967296 a % valB 4294967296 b), 0) := by
  unfold quo_DivMod.f
  rw [if_pos ⟨ha, hb, la, lb⟩, if_neg h0]
theorem gcd_law (n : Nat) (hn : n ≤ 1048000) : ∀ (y x k : Nat), x < 4294967296 ^ n → y < 4294967296 ^ n → y < k → quo_Gcd.l0 k (digB 4294967296 x) (digB 4294967296 y) = some (digB 4294967296 (Nat.gcd x y)) := by
  intro y
  induction y using Nat.strongRecOn with
  | ind y ih =>
    intro x k hx hy hk
    obtain ⟨k, rfl⟩ : ∃ m, k = m + 1 := ⟨k - 1, by omega⟩
    simp only [quo_Gcd.l0]
    by_cases h0 : y = 0
    · subst h0
      rw [digB_zero _ (by decide), if_neg (by simp), Nat.gcd_zero_right]
    · have hpos : 0 < (digB 4294967296 y).length := digB_len_ge (by decide) (n := 0) (by rw [Nat.pow_zero]; omega)
      have hlx := digB_len (B := 4294967296) (by decide) hx
      have hly := digB_len (B := 4294967296) (by decide) hy
      have hm : x % y < y := Nat.mod_lt _ (by omega)
      rw [if_pos (by omega), divmod_f (okN_digB hx (by omega)) (okN_digB hy (by omega)) (by omega) (by omega) (by rw [digB_val _ (by decide)]; exact h0)]
      simp only [Option.bind_some, digB_val 4294967296 (by decide)]
      rw [ih (x % y) hm y k hy (by omega) (by omega), gcd_rests x y (by omega)]
def quo_GcdC.f (l0 l1 : List Int) : Option (List Int) := if okN l0 = true ∧ okN l1 = true ∧ l0.length ≤ 1048000 ∧ l1.length ≤ 1048000 then some (digB 4294967296 (Nat.gcd (valB 4294967296 l0) (valB 4294967296 l1))) else none
theorem quo_GcdC.calls (A0 : Option Addr) (c0 : Nat) (l0 : List Int) (A1 : Option Addr) (c1 : Nat) (l1 : List Int) (r : List Int) (w : World) (hr0 : Kd.C (Kd.int .u32) w A0 l0.length l0) (hc0 : l0.length ≤ c0) (hr1 : Kd.C (Kd.int .u32) w A1 l1.length l1) (hc1 : l1.length ≤ c1) (h : quo_GcdC.f l0 l1 = some r) :
    Calls Tryz.prog 91 #[.slice A0 l0.length c0, .slice A1 l1.length c1] w fun e w' => ∃ v0_ : Value, e = .returned (v0_) ∧ Kd.R (Kd.int .u32) 56 w' w.heap.size (fun _ => True) v0_ r ∧ Below w.heap.size w w' := by
  unfold quo_GcdC.f at h
  by_cases hg : okN l0 = true ∧ okN l1 = true ∧ l0.length ≤ 1048000 ∧ l1.length ≤ 1048000
  · rw [if_pos hg] at h
    obtain ⟨k0, k1, n0, n1⟩ := hg
    refine quo_Gcd.calls (valB 4294967296 l1 + 1) A0 c0 l0 A1 c1 l1 r w hr0 hc0 hr1 hc1 ?_
    have d0 := (okN_iff.1 k0).2
    have d1 := (okN_iff.1 k1).2
    unfold quo_Gcd.f
    rw [trim_f k0, Option.bind_some, trim_f k1, Option.bind_some, trimL_eq (by decide) d0, trimL_eq (by decide) d1, ← h]
    obtain ⟨n, hn⟩ : ∃ n, max l0.length l1.length = n := ⟨_, rfl⟩
    have m0 : 4294967296 ^ l0.length ≤ 4294967296 ^ n := Nat.pow_le_pow_right (by decide) (by omega)
    have m1 : 4294967296 ^ l1.length ≤ 4294967296 ^ n := Nat.pow_le_pow_right (by decide) (by omega)
    exact gcd_law n (by omega) _ _ _ (Nat.lt_of_lt_of_le (valB_lt _ _ d0) m0) (Nat.lt_of_lt_of_le (valB_lt _ _ d1) m1) (Nat.lt_succ_self _)
  · rw [if_neg hg] at h; cases h
theorem below_setRow {B g : Nat} {a w : World} (h : Below B a w) (hg : B ≤ g) (cs : Array Value) : Below B a (w.setRow g cs) :=
  h.trans ⟨rfl, rfl, rfl, by simp [World.setRow], fun k hk => setRow_other _ _ _ _ (by omega)⟩
theorem store_row_any {P : Program} {ops : Array Oper} {rest : List Oper} {o : Oper} {a : Act} {w : World} {Q : Exit → Act → World → Prop} (hgd : o.guard = none) (ty : TypeId) (x y : Operand) (ho : o.op = .store ty x y)
    (g : Nat) (cells : Array Value) (hx : a.eval x = .pointer (some ⟨g, 0, none⟩)) (hy : a.eval y = .agg cells)
    (t : TypeId) (old : Array Value) (hg : w.heap[g]? = some (.cells old t (0, 0))) (hi : (P.info? ty).map (·.size) = some cells.size)
    (hold : old.size = cells.size) (h1 : cells.all (·.oneCell') = true)
    (h : ∀ W5 : World, W5.heap[g]? = some (.cells cells t (0, 0)) → (∀ k, k ≠ g → W5.heap[k]? = w.heap[k]?) → (∀ B, B ≤ g → Below B w W5) → wpList P ops Q rest (a.put o.dst undef) W5) : wpList P ops Q (o :: rest) a w :=
  wpList_store_row hgd ty x y ho g cells hx hy t old hg hi hold h1 (h _ (setRow_heap _ _ _ _ _ _ hg) (fun k hk => setRow_other _ _ _ _ hk) (fun B hB => below_setRow (Below.refl _ _) hB _))
set_option maxRecDepth 100000 in
set_option maxHeartbeats 4000000 in
theorem part_calls {a g : List Int} {na ng : Nat} (A : Option Addr) (ca : Nat) (G : Option Addr) (cg Bg : Nat) (W : World) (hna : a.length = na) (hng : g.length = ng) (hB : Boxed W Bg 23 (.slice G ng cg)) (hA : Kd.C (Kd.int .u32) W A a.length a) (hG : Kd.C (Kd.int .u32) W G g.length g) (h1 : na ≤ ca) (h2 : ng ≤ cg)
    (ka : okN a = true) (kg : okN g = true) (la : na ≤ 1048000) (lg : ng ≤ 1048000) (h0 : valB 4294967296 g ≠ 0) :
    Calls Tryz.prog 92 #[.slice A na ca, .pointer (some ⟨Bg, 0, none⟩)] W fun e W' => ∃ v, e = .returned v ∧ Kd.R (Kd.int .u32) 56 W' W.heap.size (fun _ => True) v (digB 4294967296 (valB 4294967296 a / valB 4294967296 g)) ∧ Below W.heap.size W W' := by
  subst hna
  subst hng
  have hc := hB.cell
  have BY := rat_by.calls A ca a G cg g (digB 4294967296 (valB 4294967296 a / valB 4294967296 g)) W hA h1 hG h2 (by unfold rat_by.f; rw [divmod_f ka kg la lg h0]; rfl)
  have HB := Aside0.mk BY
  clear BY hA hG
  go_enter Tryz.func92, Tryz.ntmps92
  go_wp2_with (go_at_call 93; refine HB.out.mono ?_; rintro e w1 ⟨v, rfl, hr, hb⟩)
  go_ret
  exact ⟨_, rfl, hr, hb⟩
def rat_Make.f (a0 : Bool) (l1 l2 : List Int) : Option (Bool × List Int × List Int × Int) :=
  if okN l1 = true ∧ okN l2 = true ∧ l1.length ≤ 1048000 ∧ l2.length ≤ 1048000 then (if valB 4294967296 l2 = 0 then some (false, [], [], 17) else if valB 4294967296 l1 = 0 then some (false, [], [1], 0) else
    some (a0, digB 4294967296 (valB 4294967296 l1 / Nat.gcd (valB 4294967296 l1) (valB 4294967296 l2)), digB 4294967296 (valB 4294967296 l2 / Nat.gcd (valB 4294967296 l1) (valB 4294967296 l2)), 0)) else none
theorem ratInfo : (Tryz.prog.info? 35).map (·.size) = some 3 := by kernel_rfl
def RatPost (w : World) (n : Bool) (a b : List Int) (x : Int) (e : Ending) (w' : World) : Prop := ∃ v1_ v2_ : Value, e = .returned (.tuple #[.agg #[.bool n, v1_, v2_], .int .i64 x]) ∧ Kd.R (Kd.int .u32) 56 w' w.heap.size (fun k_ => some k_ ≠ (v2_ : Value).ownBlock) v1_ a ∧ Kd.R (Kd.int .u32) 56 w' w.heap.size (fun k_ => some k_ ≠ (v1_ : Value).ownBlock) v2_ b ∧ Below w.heap.size w w'
section
variable (a0 : Bool) (A1 : Option Addr) (c1 : Nat) (l1 : List Int) (A2 : Option Addr) (c2 : Nat) (l2 : List Int) (w : World) (hr1 : Kd.C (Kd.int .u32) w A1 l1.length l1) (hc1 : l1.length ≤ c1) (hr2 : Kd.C (Kd.int .u32) w A2 l2.length l2) (hc2 : l2.length ≤ c2)
  (ok1 : okN l1 = true) (ok2 : okN l2 = true) (n1 : l1.length ≤ 1048000) (n2 : l2.length ≤ 1048000)
include hr1 hc1 hr2 hc2 ok1 ok2 n1 n2
set_option maxRecDepth 100000 in
set_option maxHeartbeats 8000000 in
theorem make_zero_calls (h0 : valB 4294967296 l2 = 0) : Calls Tryz.prog 66 #[.bool a0, .slice A1 l1.length c1, .slice A2 l2.length c2] w (RatPost w false [] [] 17) := by
  have hblk := World.alloc_heap_new w (.cells #[.bool false, .slice none 0 0, .slice none 0 0] 35)
  have B2 := nat_Bits.calls A2 c2 l2 0 (w.alloc (.cells #[.bool false, .slice none 0 0, .slice none 0 0] 35)) (Kd.cA9 hr2 _) hc2 (by unfold nat_Bits.f; rw [if_pos ok2, (bitsL_zero (okN_iff.1 ok2).2).2 h0])
  have HB2 := Aside0.mk B2
  have HBLK := Aside0.mk hblk
  clear B2 hr1 hr2 hblk
  go_enter Tryz.func66, Tryz.ntmps66
  go_wp2_with (first | (go_at_call 90; refine HB2.out.mono ?_; rintro e w1 ⟨rfl, ⟨q, rfl⟩⟩) | ((with_reducible refine gate_store (t := 35) (p := 6) rfl ?_); go_loud (refine store_row_any rfl 35 _ _ rfl w.heap.size #[.bool false, .slice none 0 0, .slice none 0 0] rfl rfl 35 #[.bool false, .slice none 0 0, .slice none 0 0] HBLK.out ratInfo rfl (by simp [Value.oneCell']) ?_); intro W5 hblk5 hoth hbel))
  refine bodyPost_ret (results_ct rfl _ _ w.heap.size 35 _ (0, 0) _ rfl hblk5 Tryz.underlying35 rfl ratInfo) rfl ?_
  exact ⟨_, _, rfl, Kd.R_nil _ _ _ _ _, Kd.R_nil _ _ _ _ _, (bN9 (bA9 (Below.refl _ _) _) _).trans (hbel _ (Nat.le_refl _))⟩
set_option maxRecDepth 100000 in
set_option maxHeartbeats 8000000 in
theorem make_nought_calls (h0 : valB 4294967296 l2 ≠ 0) (h1 : valB 4294967296 l1 = 0) : Calls Tryz.prog 66 #[.bool a0, .slice A1 l1.length c1, .slice A2 l2.length c2] w (RatPost w false [] [1] 0) := by
  have hblk := World.alloc_heap_new w (.cells #[.bool false, .slice none 0 0, .slice none 0 0] 35)
  obtain ⟨b, hb⟩ : ∃ b, bitsL l2 = b := ⟨_, rfl⟩
  have hb0 : b ≠ 0 := by rw [← hb]; exact fun h => h0 ((bitsL_zero (okN_iff.1 ok2).2).1 h)
  have B2 := nat_Bits.calls A2 c2 l2 b (w.alloc (.cells #[.bool false, .slice none 0 0, .slice none 0 0] 35)) (Kd.cA9 hr2 _) hc2 (by unfold nat_Bits.f; rw [if_pos ok2, hb])
  have B1 := fun W k => nat_Bits.calls A1 c1 l1 0 W k hc1 (by unfold nat_Bits.f; rw [if_pos ok1, (bitsL_zero (okN_iff.1 ok1).2).2 h1])
  have ONE := fun W => rat_one.calls [1] W (by
    unfold rat_one.f nat_Of.f
    rw [if_pos (by omega)]
    rw [show (1 : Int).toNat = 1 from rfl, digB_small (by decide) (by decide) (by decide)]
    rfl)
  have hd0 : (b == 0) = false := beq_eq_false_iff_ne.mpr hb0
  have HC1 := Aside0.mk (Kd.cA9 hr1 (.cells #[.bool false, .slice none 0 0, .slice none 0 0] 35))
  have HB2 := Aside0.mk B2
  have HBLK := Aside0.mk hblk
  clear B2 hr1 hr2 hblk hb hb0 h0 h1
  go_enter Tryz.func66, Tryz.ntmps66
  go_wp2_with (first | (go_at_call 90; (with_reducible refine HB2.out.mono ?_); rintro e w1 ⟨rfl, ⟨q, rfl⟩⟩) | (go_at_call 90; (with_reducible refine (B1 _ (Kd.cN9 HC1.out _)).mono ?_); rintro e w1 ⟨rfl, ⟨q2, rfl⟩⟩) | (go_at_call 67; refine (ONE _).mono ?_; rintro e w2 ⟨v, rfl, hrv, hb2⟩; have HRV := Aside0.mk hrv; have HB := Aside0.mk hb2; clear hrv hb2; obtain ⟨Av, cv, rfl⟩ := Kd.rS9 HRV.out) | ((with_reducible refine gate_store (t := 35) (p := 6) rfl ?_); go_loud (refine store_row_any rfl 35 _ _ rfl w.heap.size #[.bool false, .slice none 0 0, .slice Av [(1 : Int)].length cv] rfl rfl 35 #[.bool false, .slice none 0 0, .slice none 0 0] ((HB.out.block _ (by simp)).trans HBLK.out) ratInfo rfl (by simp [Value.oneCell']) ?_); intro W5 hblk5 hoth hbel))
  refine bodyPost_ret (results_ct rfl _ _ w.heap.size 35 _ (0, 0) _ rfl hblk5 Tryz.underlying35 rfl ratInfo) rfl ?_
  have hbe : Below w.heap.size w w2 := (bN9 (bA9 (Below.refl _ _) _) _).trans (HB.out.mono (by simp))
  refine ⟨_, _, rfl, Kd.R_nil _ _ _ _ _, ?_, hbe.trans (hbel _ (Nat.le_refl _))⟩
  have hR := Kd.R_bound HRV.out
  refine Kd.R_mono (Kd.rL9 (Kd.R_move hR (fun k hk => hoth k ?_)) (by simp)) (fun k _ h => by cases h)
  have := hk.2.1
  simp at this
  omega
set_option maxRecDepth 100000 in
set_option maxHeartbeats 16000000 in
theorem make_main_calls (h0 : valB 4294967296 l2 ≠ 0) (h1 : valB 4294967296 l1 ≠ 0) : Calls Tryz.prog 66 #[.bool a0, .slice A1 l1.length c1, .slice A2 l2.length c2] w
    (RatPost w a0 (digB 4294967296 (valB 4294967296 l1 / Nat.gcd (valB 4294967296 l1) (valB 4294967296 l2))) (digB 4294967296 (valB 4294967296 l2 / Nat.gcd (valB 4294967296 l1) (valB 4294967296 l2))) 0) := by
  have hblk := World.alloc_heap_new w (.cells #[.bool false, .slice none 0 0, .slice none 0 0] 35)
  obtain ⟨b, hb⟩ : ∃ b, bitsL l2 = b := ⟨_, rfl⟩
  obtain ⟨b', hb'⟩ : ∃ b, bitsL l1 = b := ⟨_, rfl⟩
  have hb0 : b ≠ 0 := by rw [← hb]; exact fun h => h0 ((bitsL_zero (okN_iff.1 ok2).2).1 h)
  have hb0' : b' ≠ 0 := by rw [← hb']; exact fun h => h1 ((bitsL_zero (okN_iff.1 ok1).2).1 h)
  have B2 := nat_Bits.calls A2 c2 l2 b (w.alloc (.cells #[.bool false, .slice none 0 0, .slice none 0 0] 35)) (Kd.cA9 hr2 _) hc2 (by unfold nat_Bits.f; rw [if_pos ok2, hb])
  have B1 := fun W k => nat_Bits.calls A1 c1 l1 b' W k hc1 (by unfold nat_Bits.f; rw [if_pos ok1, hb'])
  have hd0 : (b == 0) = false := beq_eq_false_iff_ne.mpr hb0
  have hd0' : (b' == 0) = false := beq_eq_false_iff_ne.mpr hb0'
  obtain ⟨g, hg⟩ : ∃ g, Nat.gcd (valB 4294967296 l1) (valB 4294967296 l2) = g := ⟨_, rfl⟩
  have hgp : 0 < g := by rw [← hg]; exact Nat.gcd_pos_of_pos_left _ (by omega)
  have hgl : g < 4294967296 ^ l1.length := by
    have h2 := Nat.gcd_le_left (valB 4294967296 l2) (show 0 < valB 4294967296 l1 by omega)
    have h3 := valB_lt 4294967296 l1 (okN_iff.1 ok1).2
    omega
  obtain ⟨gs, hgs⟩ : ∃ gs, digB 4294967296 g = gs := ⟨_, rfl⟩
  have egs : valB 4294967296 gs = g := by rw [← hgs]; exact digB_val _ (by decide) _
  have kgs : okN gs = true := by rw [← hgs]; exact okN_digB hgl (okN_iff.1 ok1).1
  have lgs : gs.length ≤ 1048000 := by rw [← hgs]; exact Nat.le_trans (digB_len (by decide) hgl) n1
  obtain ⟨ng, hng⟩ : ∃ ng, gs.length = ng := ⟨_, rfl⟩
  have GCD := fun W k1 k2 => slice_form (quo_GcdC.calls A1 c1 l1 A2 c2 l2 gs W k1 hc1 k2 hc2 (by unfold quo_GcdC.f; rw [if_pos ⟨ok1, ok2, n1, n2⟩, hg, hgs])) hng
  have P1 := fun G cg Bg W k1 k2 k3 k4 => part_calls (a := l1) (g := gs) A1 c1 G cg Bg W rfl hng k1 k2 k3 hc1 k4 ok1 kgs n1 (hng ▸ lgs) (by rw [egs]; omega)
  have P2 := fun G cg Bg W k1 k2 k3 k4 => part_calls (a := l2) (g := gs) A2 c2 G cg Bg W rfl hng k1 k2 k3 hc2 k4 ok2 kgs n2 (hng ▸ lgs) (by rw [egs]; omega)
  rw [egs] at P1 P2
  rw [hg]
  have HC1 := Aside0.mk (Kd.cA9 hr1 (.cells #[.bool false, .slice none 0 0, .slice none 0 0] 35))
  have HC2 := Aside0.mk (Kd.cA9 hr2 (.cells #[.bool false, .slice none 0 0, .slice none 0 0] 35))
  have HB2 := Aside0.mk B2
  have HBLK := Aside0.mk hblk
  have HNG := Aside0.mk hng
  obtain ⟨qa, hqa⟩ : ∃ q, digB 4294967296 (valB 4294967296 l1 / g) = q := ⟨_, rfl⟩
  obtain ⟨qb, hqb⟩ : ∃ q, digB 4294967296 (valB 4294967296 l2 / g) = q := ⟨_, rfl⟩
  rw [hqa] at P1
  rw [hqb] at P2
  rw [hqa, hqb]
  clear B2 hr1 hr2 hblk hb hb0 h0 h1 hb' hb0' hng hgs hg hqa hqb
  go_enter Tryz.func66, Tryz.ntmps66
  go_wp2_with (first | (go_at_call 90; (with_reducible refine HB2.out.mono ?_); rintro e w1 ⟨rfl, ⟨q, rfl⟩⟩) | (go_at_call 90; (with_reducible refine (B1 _ (Kd.cN9 HC1.out _)).mono ?_); rintro e w1 ⟨rfl, ⟨q2, rfl⟩⟩) | (go_at_call 91; go_loud (refine (GCD _ (Kd.cN9 HC1.out _) (Kd.cN9 HC2.out _)).mono ?_); rintro e w2 ⟨Ag, cg, rfl, hcg, hrg, hb2⟩; have HRG := Aside0.mk hrg; have HB := Aside0.mk hb2; clear hrg hb2) | (go_at_call 92; refine (P1 Ag cg w2.heap.size _ (Boxed.new _ _ _) (Kd.cB9 (Kd.cB9 (Kd.cN9 HC1.out _) HB.out) (bA9 (Below.refl _ _) _)) (C_of_R (Kd.rB9 HRG.out (bA9 (Below.refl _ _) _)) HNG.out) hcg).mono ?_; rintro e w4 ⟨v4, rfl, hr4, hb4⟩; obtain ⟨Aq, cq, rfl⟩ := Kd.rS9 hr4; have HR4 := Aside0.mk hr4; have HB4 := Aside0.mk hb4; clear hr4 hb4) | (go_at_call 92; refine (P2 Ag cg w2.heap.size _ ((HB4.out.block _ (by simp)).trans (Boxed.new _ _ _)) (Kd.cB9 (Kd.cB9 (Kd.cB9 (Kd.cN9 HC2.out _) HB.out) (bA9 (Below.refl _ _) _)) HB4.out) (C_of_R (Kd.rB9 (Kd.rB9 HRG.out (bA9 (Below.refl _ _) _)) HB4.out) HNG.out) hcg).mono ?_; rintro e w5 ⟨v5, rfl, hr5, hb5⟩; obtain ⟨Ar, cr, rfl⟩ := Kd.rS9 hr5; have HR5 := Aside0.mk hr5; have HB5 := Aside0.mk hb5; clear hr5 hb5; have s2 : w.heap.size + 1 ≤ w2.heap.size := by { have := HB.out.size; simpa using this }; have s4 : w2.heap.size + 1 ≤ w4.heap.size := by { have := HB4.out.size; simpa using this }; have s5 := HB5.out.size; have hblk := (HB5.out.block w.heap.size (by omega)).trans ((HB4.out.block w.heap.size (by simp; omega)).trans ((Below.heap_alloc w2 (.cells #[.slice Ag ng cg] 23) w.heap.size (by omega)).trans ((HB.out.block w.heap.size (by simp)).trans HBLK.out)))) | ((with_reducible refine gate_store (t := 35) (p := 6) rfl ?_); go_loud (refine store_row_any rfl 35 _ _ rfl w.heap.size #[.bool a0, .slice Aq qa.length cq, .slice Ar qb.length cr] rfl rfl 35 #[.bool false, .slice none 0 0, .slice none 0 0] hblk ratInfo rfl (by simp [Value.oneCell']) ?_); intro W5 hblk5 hoth hbel))
  refine bodyPost_ret (results_ct rfl _ _ w.heap.size 35 _ (0, 0) _ rfl hblk5 Tryz.underlying35 rfl ratInfo) rfl ?_
  have hb0 : Below w.heap.size w w2 := (bN9 (bA9 (Below.refl _ _) _) _).trans (HB.out.mono (by simp))
  have hb4 : Below w.heap.size w w4 := (bA9 hb0 _).trans (HB4.out.mono (by simp; omega))
  have hb5 : Below w.heap.size w w5 := hb4.trans (HB5.out.mono (by omega))
  have q4 := Kd.R_elder HR4.out HR5.out HB5.out
  have q5 := Kd.R_newR HR5.out HR4.out
  refine ⟨_, _, rfl, ?_, ?_, hb5.trans (hbel _ (Nat.le_refl _))⟩
  · refine Kd.R_mono (Kd.rL9 (Kd.R_move (Kd.R_bound q4) (fun k hk => hoth k ?_)) (by simp; omega)) (fun k hk => hk.1.2)
    have := hk.2.1
    simp at this
    omega
  · refine Kd.R_mono (Kd.rL9 (Kd.R_move (Kd.R_bound q5) (fun k hk => hoth k ?_)) (by omega)) (fun k hk => hk.1.2)
    have := hk.2.1
    omega
end
theorem rat_Make.calls (a0 : Bool) (A1 : Option Addr) (c1 : Nat) (l1 : List Int) (A2 : Option Addr) (c2 : Nat) (l2 : List Int) (r1 : Bool) (r2 r3 : List Int) (r4 : Int) (w : World) (hr1 : Kd.C (Kd.int .u32) w A1 l1.length l1) (hc1 : l1.length ≤ c1) (hr2 : Kd.C (Kd.int .u32) w A2 l2.length l2) (hc2 : l2.length ≤ c2) (h : rat_Make.f a0 l1 l2 = some (r1, r2, r3, r4)) :
    Calls Tryz.prog 66 #[.bool a0, .slice A1 l1.length c1, .slice A2 l2.length c2] w fun e w' => ∃ v1_ v2_ : Value, e = .returned (.tuple #[.agg #[.bool r1, v1_, v2_], .int .i64 r4]) ∧ Kd.R (Kd.int .u32) 56 w' w.heap.size (fun k_ => some k_ ≠ (v2_ : Value).ownBlock) v1_ r2 ∧ Kd.R (Kd.int .u32) 56 w' w.heap.size (fun k_ => some k_ ≠ (v1_ : Value).ownBlock) v2_ r3 ∧ Below w.heap.size w w' := by
  unfold rat_Make.f at h
  by_cases hg : okN l1 = true ∧ okN l2 = true ∧ l1.length ≤ 1048000 ∧ l2.length ≤ 1048000
  · rw [if_pos hg] at h
    obtain ⟨k1, k2, n1, n2⟩ := hg
    by_cases h2 : valB 4294967296 l2 = 0
    · rw [if_pos h2] at h
      obtain ⟨rfl, rfl, rfl, rfl⟩ : false = r1 ∧ [] = r2 ∧ [] = r3 ∧ 17 = r4 := by simpa using h
      exact make_zero_calls a0 A1 c1 l1 A2 c2 l2 w hr1 hc1 hr2 hc2 k1 k2 n1 n2 h2
    · rw [if_neg h2] at h
      by_cases h1 : valB 4294967296 l1 = 0
      · rw [if_pos h1] at h
        obtain ⟨rfl, rfl, rfl, rfl⟩ : false = r1 ∧ [] = r2 ∧ [1] = r3 ∧ 0 = r4 := by simpa using h
        exact make_nought_calls a0 A1 c1 l1 A2 c2 l2 w hr1 hc1 hr2 hc2 k1 k2 n1 n2 h2 h1
      · rw [if_neg h1] at h
        have h := Option.some.inj h
        simp only [Prod.mk.injEq] at h
        obtain ⟨e1, e2, e3, e4⟩ := h
        subst e1 e2 e3 e4
        exact make_main_calls a0 A1 c1 l1 A2 c2 l2 w hr1 hc1 hr2 hc2 k1 k2 n1 n2 h2 h1
  · rw [if_neg hg] at h; cases h
end Go.Proofs.YthppjdmkinbccaaGreatDoor.Print

namespace Go.Proofs.YthppjdmkinbccaaGreatDoor.Print
open Go.RowKit Go.Proofs.YthppjdmkinbccaaGreatDoorW.PrintWords Go.Proofs.YthppjdmkinbccaaGreatDoorW.PrintLast Go.Proofs.YthppjdmkinbccaaGreatDoorW.PrintMore
attribute [local go_sem] max2_int min2_int max_two min_two max_three min_three max_four min_four   -- for this text's walks alone
set_option linter.unusedVariables false
set_option linter.unusedSimpArgs false
def rat_Norm.f (a0_0 : Bool) (l0_1 : List Int) (l0_2 : List Int) : Option (Bool × List Int × List Int) := (rat_Make.f a0_0 l0_1 l0_2).bind fun bt103 => (if bt103.2.2.2 = 0 then (some (bt103.1, bt103.2.1, bt103.2.2.1)) else ((rat_one.f).bind fun t112 => (some (false, ([] : List Int), t112))))
set_option maxHeartbeats 8000000 in
set_option maxRecDepth 100000 in
theorem rat_Norm.calls (a0_0 : Bool) (A0_1 : Option Addr) (c0_1 : Nat) (l0_1 : List Int) (A0_2 : Option Addr) (c0_2 : Nat) (l0_2 : List Int) (r1 : Bool) (r2 : List Int) (r3 : List Int) (w : World) (hr0_1 : Kd.C (Kd.int .u32) w A0_1 l0_1.length l0_1) (hc0_1 : l0_1.length ≤ c0_1) (hr0_2 : Kd.C (Kd.int .u32) w A0_2 l0_2.length l0_2) (hc0_2 : l0_2.length ≤ c0_2) (h : rat_Norm.f a0_0 l0_1 l0_2 = some (r1, r2, r3)) :
  Calls Tryz.prog 39 #[.agg #[.bool a0_0, .slice A0_1 l0_1.length c0_1, .slice A0_2 l0_2.length c0_2]] w fun e w' => ∃ v1_ v2_ : Value, e = .returned (.agg #[.bool r1, v1_, v2_]) ∧ Kd.R (Kd.int .u32) 56 w' w.heap.size (fun k_ => some k_ ≠ (v2_ : Value).ownBlock) v1_ r2 ∧ Kd.R (Kd.int .u32) 56 w' w.heap.size (fun k_ => some k_ ≠ (v1_ : Value).ownBlock) v2_ r3 ∧ Below w.heap.size w w' := by
 have hu35 := Tryz.underlying35
 have HR0_1 := Aside0.mk hr0_1
 have HC0_1 := Aside0.mk hc0_1
 clear hr0_1 hc0_1
 have HR0_2 := Aside0.mk hr0_2
 have HC0_2 := Aside0.mk hc0_2
 clear hr0_2 hc0_2
 have HB := Aside0.mk (Below.refl w.heap.size w)
 have H : ((rat_Make.f a0_0 l0_1 l0_2).bind fun bt103 => (if bt103.2.2.2 = 0 then (some (bt103.1, bt103.2.1, bt103.2.2.1)) else ((rat_one.f).bind fun t112 => (some (false, ([] : List Int), t112))))) = some (r1, r2, r3) := h
 clear h
 replace H := Option.bind_eq_some_iff.mp H
 obtain ⟨⟨t103, t104, t107, t110⟩, A20, H⟩ := H
 (try dsimp only at H)
 have A2 := Aside0.mk A20
 clear A20
 by_cases c3 : t110 = 0
 ·rw [if_pos c3] at H
  have c3b0 : (t110 == 0) = true := beq_iff_eq.mpr c3
  have c3b1 : (t110 != 0) = false := bne_eq_false_iff_eq.mpr c3
  clear c3
  simp only [Option.some.injEq, Prod.mk.injEq] at H
  obtain ⟨rfl, rfl, rfl⟩ := H
  go_enter Tryz.func39, Tryz.ntmps39
  go_wp2_with (first | ((with_reducible refine gD9 (N := 1) rfl ?_); refine bE9 ?hg (N := 1) ?hd (cs := #[.bool a0_0, .slice A0_1 l0_1.length c0_1, .slice A0_2 l0_2.length c0_2]) (t := 35) ?hr ?_; (case hd => rfl); (case hg => rfl); (case hr => first | (go_simp; done) | (go_simp; rfl)); intro gb101 hg w4 hbox hb; have n0_ := Aside0.mk (bT9 (by repeat (first | (with_reducible first | exact HB.out | apply bA9 | apply bN9 | apply bD9) | exact HB.out)) hb); have n1_ := Aside0.mk (hbox); have n2_ := Aside0.mk ((by rw [hg]; exact (bZ9 (by repeat (first | (with_reducible first | exact HB.out | apply bA9 | apply bN9 | apply bD9) | exact HB.out))) : w.heap.size ≤ gb101)); have n3_ := Aside0.mk ((by rw [hg]; exact (bZ9 (by repeat (first | (with_reducible first | exact HB.out | apply bA9 | apply bN9 | apply bD9) | exact HB.out))) : w.heap.size ≤ gb101)); clear HB; have HB := n0_; have BK101 := n1_; have GW101 := n2_; have GE101 := n3_; clear n0_ n1_ n2_ n3_; clear hb hbox hg) | ((with_reducible refine gD9 (N := 2) rfl ?_); refine bE9 ?hg (N := 2) ?hd (cs := #[.bool false, .slice none 0 0, .slice none 0 0]) (t := 35) ?hr ?_; (case hd => rfl); (case hg => rfl); (case hr => first | (go_simp; done) | (go_simp; rfl)); intro gb102 hg w5 hbox hb; have n0_ := Aside0.mk (kB9 (g := gb101) (o := .cells #[.bool a0_0, .slice A0_1 l0_1.length c0_1, .slice A0_2 l0_2.length c0_2] 35 (0, 0)) (by (with_reducible repeat (first | refine kN9 ?_ _ | refine kD9 ?_ | refine kA9 ?_ _)); exact BK101.out) hb); have n1_ := Aside0.mk (bT9 (by repeat (first | (with_reducible first | exact HB.out | apply bA9 | apply bN9 | apply bD9 | refine bS9 ?_ GE101.out) | exact HB.out)) hb); have n2_ := Aside0.mk (hbox); have n3_ := Aside0.mk ((by rw [hg]; exact (bZ9 (by repeat (first | (with_reducible first | exact HB.out | apply bA9 | apply bN9 | apply bD9 | refine bS9 ?_ GE101.out) | exact HB.out))) : w.heap.size ≤ gb102)); have n4_ := Aside0.mk ((by rw [hg]; exact (bZ9 (by repeat (first | (with_reducible first | exact HB.out | apply bA9 | apply bN9 | apply bD9 | refine bS9 ?_ GE101.out) | exact HB.out))) : w.heap.size ≤ gb102)); have n5_ := Aside0.mk ((by rw [hg]; exact Nat.ne_of_lt (blk_lt (g := gb101) (o := .cells #[.bool a0_0, .slice A0_1 l0_1.length c0_1, .slice A0_2 l0_2.length c0_2] 35 (0, 0)) (by (with_reducible repeat (first | refine kN9 ?_ _ | refine kD9 ?_ | refine kA9 ?_ _)); exact BK101.out)) : gb101 ≠ gb102)); have n6_ := Aside0.mk ((by rw [hg]; exact Nat.ne_of_gt (blk_lt (g := gb101) (o := .cells #[.bool a0_0, .slice A0_1 l0_1.length c0_1, .slice A0_2 l0_2.length c0_2] 35 (0, 0)) (by (with_reducible repeat (first | refine kN9 ?_ _ | refine kD9 ?_ | refine kA9 ?_ _)); exact BK101.out)) : gb102 ≠ gb101)); clear BK101; clear HB; have BK101 := n0_; have HB := n1_; have BK102 := n2_; have GW102 := n3_; have GE102 := n4_; have NB101_102 := n5_; have NB102_101 := n6_; clear n0_ n1_ n2_ n3_ n4_ n5_ n6_; clear hb hbox hg; have hnb6 := NB101_102.out; have hnc6 := NB102_101.out; have hcz7_0 : w5.cell? ⟨gb101, 0, none⟩ = some (.bool a0_0) := (kC9 BK101.out 0).trans rfl; have hcz7_1 : w5.cell? ⟨gb101, 1, none⟩ = some (.slice A0_1 l0_1.length c0_1) := (kC9 BK101.out 1).trans rfl; have hcz7_2 : w5.cell? ⟨gb101, 2, none⟩ = some (.slice A0_2 l0_2.length c0_2) := (kC9 BK101.out 2).trans rfl; have hfz7_0 := kF9 BK101.out 0; have hfz7_1 := kF9 BK101.out 1; have hfz7_2 := kF9 BK101.out 2) | ((with_reducible refine gC9 (f := 66) rfl ?_); refine goesL_ (some 12) rfl rfl Tryz.func66 (by kernel_rfl) rfl #[.bool a0_0, .slice A0_1 l0_1.length c0_1, .slice A0_2 l0_2.length c0_2] rfl (by (try simp only [List.map_toArray, List.map_cons, List.map_nil]); first | done | rfl | (simp only [List.length_drop, List.length_take]; rfl)) ?_; (with_reducible refine (rat_Make.calls a0_0 _ _ l0_1 _ _ l0_2 t103 t104 t107 t110 _ ?side1 ?side2 ?side3 ?side4 A2.out).mono ?_); (case side1 => repeat (first | exact (Kd.cB9 HR0_1.out HB.out) | (with_reducible refine Kd.cA9 ?_ _) | (with_reducible refine Kd.cN9 ?_ _) | (with_reducible refine Kd.cD9 ?_))); (case side2 => exact HC0_1.out); (case side3 => repeat (first | exact (Kd.cB9 HR0_2.out HB.out) | (with_reducible refine Kd.cA9 ?_ _) | (with_reducible refine Kd.cN9 ?_ _) | (with_reducible refine Kd.cD9 ?_))); (case side4 => exact HC0_2.out); rintro e w8 ⟨v105, v108, rfl, ho0, ho1, hb⟩; refine ⟨_, rfl, ?_⟩; have n0_ := Aside0.mk (Kd.rL9 ho0 (bZ9 (by repeat (first | (with_reducible first | exact HB.out | apply bA9 | apply bN9 | apply bD9 | refine bS9 ?_ GE101.out | refine bS9 ?_ GE102.out) | exact HB.out)))); have n1_ := Aside0.mk (Kd.rL9 ho1 (bZ9 (by repeat (first | (with_reducible first | exact HB.out | apply bA9 | apply bN9 | apply bD9 | refine bS9 ?_ GE101.out | refine bS9 ?_ GE102.out) | exact HB.out)))); have n2_ := Aside0.mk (kB9 (g := gb101) (o := .cells #[.bool a0_0, .slice A0_1 l0_1.length c0_1, .slice A0_2 l0_2.length c0_2] 35 (0, 0)) (by (with_reducible repeat (first | refine kN9 ?_ _ | refine kD9 ?_ | refine kA9 ?_ _)); exact BK101.out) hb); have n3_ := Aside0.mk (kB9 (g := gb102) (o := .cells #[.bool false, .slice none 0 0, .slice none 0 0] 35 (0, 0)) (by (with_reducible repeat (first | refine kN9 ?_ _ | refine kD9 ?_ | refine kA9 ?_ _)); exact BK102.out) hb); have n4_ := Aside0.mk (bT9 (by repeat (first | (with_reducible first | exact HB.out | apply bA9 | apply bN9 | apply bD9 | refine bS9 ?_ GE101.out | refine bS9 ?_ GE102.out) | exact HB.out)) hb); clear BK101; clear BK102; clear HB; have HO106 := n0_; have HO109 := n1_; have BK101 := n2_; have BK102 := n3_; have HB := n4_; clear n0_ n1_ n2_ n3_ n4_; (try clear hb); (try clear hb2); (try clear hk); (try clear hi); (try clear ho0); (try clear ho1)) | ((with_reducible refine gD9 (N := 3) rfl ?_); refine bE9 ?hg (N := 3) ?hd (cs := #[.bool false, .slice none 0 0, .slice none 0 0]) (t := 35) ?hr ?_; (case hd => rfl); (case hg => rfl); (case hr => first | (go_simp; done) | (go_simp; rfl)); intro gb111 hg w9 hbox hb; have n0_ := Aside0.mk (Kd.rB9 (by (with_reducible repeat (first | apply Kd.rA9 | apply Kd.rN9 | apply Kd.rD9)); exact HO106.out) hb); have n1_ := Aside0.mk (Kd.rB9 (by (with_reducible repeat (first | apply Kd.rA9 | apply Kd.rN9 | apply Kd.rD9)); exact HO109.out) hb); have n2_ := Aside0.mk (kB9 (g := gb101) (o := .cells #[.bool a0_0, .slice A0_1 l0_1.length c0_1, .slice A0_2 l0_2.length c0_2] 35 (0, 0)) (by (with_reducible repeat (first | refine kN9 ?_ _ | refine kD9 ?_ | refine kA9 ?_ _)); exact BK101.out) hb); have n3_ := Aside0.mk (kB9 (g := gb102) (o := .cells #[.bool false, .slice none 0 0, .slice none 0 0] 35 (0, 0)) (by (with_reducible repeat (first | refine kN9 ?_ _ | refine kD9 ?_ | refine kA9 ?_ _)); exact BK102.out) hb); have n4_ := Aside0.mk (bT9 (by repeat (first | (with_reducible first | exact HB.out | apply bA9 | apply bN9 | apply bD9 | refine bS9 ?_ GE101.out | refine bS9 ?_ GE102.out) | exact HB.out)) hb); have n5_ := Aside0.mk (hbox); have n6_ := Aside0.mk ((by rw [hg]; exact (bZ9 (by repeat (first | (with_reducible first | exact HB.out | apply bA9 | apply bN9 | apply bD9 | refine bS9 ?_ GE101.out | refine bS9 ?_ GE102.out) | exact HB.out))) : w.heap.size ≤ gb111)); have n7_ := Aside0.mk ((by rw [hg]; exact (bZ9 (by repeat (first | (with_reducible first | exact HB.out | apply bA9 | apply bN9 | apply bD9 | refine bS9 ?_ GE101.out | refine bS9 ?_ GE102.out) | exact HB.out))) : w.heap.size ≤ gb111)); have n8_ := Aside0.mk ((by rw [hg]; exact Nat.ne_of_lt (blk_lt (g := gb101) (o := .cells #[.bool a0_0, .slice A0_1 l0_1.length c0_1, .slice A0_2 l0_2.length c0_2] 35 (0, 0)) (by (with_reducible repeat (first | refine kN9 ?_ _ | refine kD9 ?_ | refine kA9 ?_ _)); exact BK101.out)) : gb101 ≠ gb111)); have n9_ := Aside0.mk ((by rw [hg]; exact Nat.ne_of_gt (blk_lt (g := gb101) (o := .cells #[.bool a0_0, .slice A0_1 l0_1.length c0_1, .slice A0_2 l0_2.length c0_2] 35 (0, 0)) (by (with_reducible repeat (first | refine kN9 ?_ _ | refine kD9 ?_ | refine kA9 ?_ _)); exact BK101.out)) : gb111 ≠ gb101)); have n10_ := Aside0.mk ((by rw [hg]; exact Nat.ne_of_lt (blk_lt (g := gb102) (o := .cells #[.bool false, .slice none 0 0, .slice none 0 0] 35 (0, 0)) (by (with_reducible repeat (first | refine kN9 ?_ _ | refine kD9 ?_ | refine kA9 ?_ _)); exact BK102.out)) : gb102 ≠ gb111)); have n11_ := Aside0.mk ((by rw [hg]; exact Nat.ne_of_gt (blk_lt (g := gb102) (o := .cells #[.bool false, .slice none 0 0, .slice none 0 0] 35 (0, 0)) (by (with_reducible repeat (first | refine kN9 ?_ _ | refine kD9 ?_ | refine kA9 ?_ _)); exact BK102.out)) : gb111 ≠ gb102)); clear HO106; clear HO109; clear BK101; clear BK102; clear HB; have HO106 := n0_; have HO109 := n1_; have BK101 := n2_; have BK102 := n3_; have HB := n4_; have BK111 := n5_; have GW111 := n6_; have GE111 := n7_; have NB101_111 := n8_; have NB111_101 := n9_; have NB102_111 := n10_; have NB111_102 := n11_; clear n0_ n1_ n2_ n3_ n4_ n5_ n6_ n7_ n8_ n9_ n10_ n11_; clear hb hbox hg; have hnb10 := NB111_101.out; have hnc10 := NB101_111.out; have hnb11 := NB111_102.out; have hnc11 := NB102_111.out; have hcz12_0 : w9.cell? ⟨gb111, 0, none⟩ = some (.bool false) := (kC9 BK111.out 0).trans rfl; have hcz12_1 : w9.cell? ⟨gb111, 1, none⟩ = some (.slice none 0 0) := (kC9 BK111.out 1).trans rfl; have hcz12_2 : w9.cell? ⟨gb111, 2, none⟩ = some (.slice none 0 0) := (kC9 BK111.out 2).trans rfl; have hfz12_0 := kF9 BK111.out 0; have hfz12_1 := kF9 BK111.out 1; have hfz12_2 := kF9 BK111.out 2; obtain ⟨Ao13, co13, eo13⟩ := Kd.rS9 HO106.out; subst eo13; obtain ⟨Ao14, co14, eo14⟩ := Kd.rS9 HO109.out; subst eo14; have hcz15_0 : w9.cell? ⟨gb102, 0, none⟩ = some (.bool false) := (kC9 BK102.out 0).trans rfl; have hcz15_1 : w9.cell? ⟨gb102, 1, none⟩ = some (.slice none 0 0) := (kC9 BK102.out 1).trans rfl; have hcz15_2 : w9.cell? ⟨gb102, 2, none⟩ = some (.slice none 0 0) := (kC9 BK102.out 2).trans rfl; have hfz15_0 := kF9 BK102.out 0; have hfz15_1 := kF9 BK102.out 1; have hfz15_2 := kF9 BK102.out 2))
  refine bodyPost_ret (results_cell_row rfl _ _ gb102 35 #[.bool t103, .slice Ao13 t104.length co13, .slice Ao14 t107.length co14] (0, 0) _ rfl (by (with_reducible repeat (first | refine kN9 ?_ _ | refine kD9 ?_ | refine kA9 ?_ _)); refine kP9 (cs := #[.bool t103, .slice Ao13 t104.length co13, .slice none 0 0]) ?_ 2 _ rfl; (with_reducible repeat (first | refine kN9 ?_ _ | refine kD9 ?_ | refine kA9 ?_ _)); refine kP9 (cs := #[.bool t103, .slice none 0 0, .slice none 0 0]) ?_ 1 _ rfl; (with_reducible repeat (first | refine kN9 ?_ _ | refine kD9 ?_ | refine kA9 ?_ _)); refine kP9 (cs := #[.bool false, .slice none 0 0, .slice none 0 0]) ?_ 0 _ rfl; (with_reducible repeat (first | refine kN9 ?_ _ | refine kD9 ?_ | refine kA9 ?_ _)); refine blk_far ?_ NB102_111.out _; (with_reducible repeat (first | refine kN9 ?_ _ | refine kD9 ?_ | refine kA9 ?_ _)); refine blk_far ?_ NB102_111.out _; (with_reducible repeat (first | refine kN9 ?_ _ | refine kD9 ?_ | refine kA9 ?_ _)); refine blk_far ?_ NB102_111.out _; (with_reducible repeat (first | refine kN9 ?_ _ | refine kD9 ?_ | refine kA9 ?_ _)); exact BK102.out) Tryz.underlying35 rfl (by kernel_rfl)) rfl ?_
  exact ⟨_, _, by first | rfl | (simp [eN9, eS9] <;> rfl) | (simp [*, eN9, eS9] <;> rfl), by (with_reducible repeat (first | apply Kd.rA9 | apply Kd.rN9 | apply Kd.rD9)); exact Kd.R_mono (Kd.R_far (p := ⟨gb102, 2, none⟩) (Kd.R_far (p := ⟨gb102, 1, none⟩) (Kd.R_far (p := ⟨gb102, 0, none⟩) (Kd.R_far (p := ⟨gb111, 2, none⟩) (Kd.R_far (p := ⟨gb111, 1, none⟩) (Kd.R_far (p := ⟨gb111, 0, none⟩) (Kd.rT9 (Kd.rT9 HO106.out BK111.out (by decide)) BK102.out (by decide)) (fun _ hk => hk.1.2) (.bool t103)) (fun _ hk => hk.1.2) (.slice Ao13 t104.length co13)) (fun _ hk => hk.1.2) (.slice Ao14 t107.length co14)) (fun _ hk => hk.2) (.bool t103)) (fun _ hk => hk.2) (.slice Ao13 t104.length co13)) (fun _ hk => hk.2) (.slice Ao14 t107.length co14)) (fun _ hk => hk.1.1), by (with_reducible repeat (first | apply Kd.rA9 | apply Kd.rN9 | apply Kd.rD9)); exact Kd.R_mono (Kd.R_far (p := ⟨gb102, 2, none⟩) (Kd.R_far (p := ⟨gb102, 1, none⟩) (Kd.R_far (p := ⟨gb102, 0, none⟩) (Kd.R_far (p := ⟨gb111, 2, none⟩) (Kd.R_far (p := ⟨gb111, 1, none⟩) (Kd.R_far (p := ⟨gb111, 0, none⟩) (Kd.rT9 (Kd.rT9 HO109.out BK111.out (by decide)) BK102.out (by decide)) (fun _ hk => hk.1.2) (.bool t103)) (fun _ hk => hk.1.2) (.slice Ao13 t104.length co13)) (fun _ hk => hk.1.2) (.slice Ao14 t107.length co14)) (fun _ hk => hk.2) (.bool t103)) (fun _ hk => hk.2) (.slice Ao13 t104.length co13)) (fun _ hk => hk.2) (.slice Ao14 t107.length co14)) (fun _ hk => hk.1.1), by repeat (first | (with_reducible first | exact HB.out | apply bA9 | apply bN9 | apply bD9 | refine bS9 ?_ GE101.out | refine bS9 ?_ GE102.out | refine bS9 ?_ GE111.out) | exact HB.out)⟩
 ·rw [if_neg c3] at H
  have c3b0 : (t110 == 0) = false := beq_eq_false_iff_ne.mpr c3
  have c3b1 : (t110 != 0) = true := bne_iff_ne.mpr c3
  replace H := Option.bind_eq_some_iff.mp H
  obtain ⟨t112, A160, H⟩ := H
  replace H : (some (false, ([] : List Int), t112)) = some (r1, r2, r3) := H
  have A16 := Aside0.mk A160
  clear A160
  simp only [Option.some.injEq, Prod.mk.injEq] at H
  obtain ⟨rfl, rfl, rfl⟩ := H
  go_enter Tryz.func39, Tryz.ntmps39
  go_wp2_with (first | ((with_reducible refine gD9 (N := 1) rfl ?_); refine bE9 ?hg (N := 1) ?hd (cs := #[.bool a0_0, .slice A0_1 l0_1.length c0_1, .slice A0_2 l0_2.length c0_2]) (t := 35) ?hr ?_; (case hd => rfl); (case hg => rfl); (case hr => first | (go_simp; done) | (go_simp; rfl)); intro gb101 hg w17 hbox hb; have n0_ := Aside0.mk (bT9 (by repeat (first | (with_reducible first | exact HB.out | apply bA9 | apply bN9 | apply bD9) | exact HB.out)) hb); have n1_ := Aside0.mk (hbox); have n2_ := Aside0.mk ((by rw [hg]; exact (bZ9 (by repeat (first | (with_reducible first | exact HB.out | apply bA9 | apply bN9 | apply bD9) | exact HB.out))) : w.heap.size ≤ gb101)); have n3_ := Aside0.mk ((by rw [hg]; exact (bZ9 (by repeat (first | (with_reducible first | exact HB.out | apply bA9 | apply bN9 | apply bD9) | exact HB.out))) : w.heap.size ≤ gb101)); clear HB; have HB := n0_; have BK101 := n1_; have GW101 := n2_; have GE101 := n3_; clear n0_ n1_ n2_ n3_; clear hb hbox hg) | ((with_reducible refine gD9 (N := 2) rfl ?_); refine bE9 ?hg (N := 2) ?hd (cs := #[.bool false, .slice none 0 0, .slice none 0 0]) (t := 35) ?hr ?_; (case hd => rfl); (case hg => rfl); (case hr => first | (go_simp; done) | (go_simp; rfl)); intro gb102 hg w18 hbox hb; have n0_ := Aside0.mk (kB9 (g := gb101) (o := .cells #[.bool a0_0, .slice A0_1 l0_1.length c0_1, .slice A0_2 l0_2.length c0_2] 35 (0, 0)) (by (with_reducible repeat (first | refine kN9 ?_ _ | refine kD9 ?_ | refine kA9 ?_ _)); exact BK101.out) hb); have n1_ := Aside0.mk (bT9 (by repeat (first | (with_reducible first | exact HB.out | apply bA9 | apply bN9 | apply bD9 | refine bS9 ?_ GE101.out) | exact HB.out)) hb); have n2_ := Aside0.mk (hbox); have n3_ := Aside0.mk ((by rw [hg]; exact (bZ9 (by repeat (first | (with_reducible first | exact HB.out | apply bA9 | apply bN9 | apply bD9 | refine bS9 ?_ GE101.out) | exact HB.out))) : w.heap.size ≤ gb102)); have n4_ := Aside0.mk ((by rw [hg]; exact (bZ9 (by repeat (first | (with_reducible first | exact HB.out | apply bA9 | apply bN9 | apply bD9 | refine bS9 ?_ GE101.out) | exact HB.out))) : w.heap.size ≤ gb102)); have n5_ := Aside0.mk ((by rw [hg]; exact Nat.ne_of_lt (blk_lt (g := gb101) (o := .cells #[.bool a0_0, .slice A0_1 l0_1.length c0_1, .slice A0_2 l0_2.length c0_2] 35 (0, 0)) (by (with_reducible repeat (first | refine kN9 ?_ _ | refine kD9 ?_ | refine kA9 ?_ _)); exact BK101.out)) : gb101 ≠ gb102)); have n6_ := Aside0.mk ((by rw [hg]; exact Nat.ne_of_gt (blk_lt (g := gb101) (o := .cells #[.bool a0_0, .slice A0_1 l0_1.length c0_1, .slice A0_2 l0_2.length c0_2] 35 (0, 0)) (by (with_reducible repeat (first | refine kN9 ?_ _ | refine kD9 ?_ | refine kA9 ?_ _)); exact BK101.out)) : gb102 ≠ gb101)); clear BK101; clear HB; have BK101 := n0_; have HB := n1_; have BK102 := n2_; have GW102 := n3_; have GE102 := n4_; have NB101_102 := n5_; have NB102_101 := n6_; clear n0_ n1_ n2_ n3_ n4_ n5_ n6_; clear hb hbox hg; have hnb19 := NB101_102.out; have hnc19 := NB102_101.out; have hcz20_0 : w18.cell? ⟨gb101, 0, none⟩ = some (.bool a0_0) := (kC9 BK101.out 0).trans rfl; have hcz20_1 : w18.cell? ⟨gb101, 1, none⟩ = some (.slice A0_1 l0_1.length c0_1) := (kC9 BK101.out 1).trans rfl; have hcz20_2 : w18.cell? ⟨gb101, 2, none⟩ = some (.slice A0_2 l0_2.length c0_2) := (kC9 BK101.out 2).trans rfl; have hfz20_0 := kF9 BK101.out 0; have hfz20_1 := kF9 BK101.out 1; have hfz20_2 := kF9 BK101.out 2) | ((with_reducible refine gC9 (f := 66) rfl ?_); refine goesL_ (some 12) rfl rfl Tryz.func66 (by kernel_rfl) rfl #[.bool a0_0, .slice A0_1 l0_1.length c0_1, .slice A0_2 l0_2.length c0_2] rfl (by (try simp only [List.map_toArray, List.map_cons, List.map_nil]); first | done | rfl | (simp only [List.length_drop, List.length_take]; rfl)) ?_; (with_reducible refine (rat_Make.calls a0_0 _ _ l0_1 _ _ l0_2 t103 t104 t107 t110 _ ?side1 ?side2 ?side3 ?side4 A2.out).mono ?_); (case side1 => repeat (first | exact (Kd.cB9 HR0_1.out HB.out) | (with_reducible refine Kd.cA9 ?_ _) | (with_reducible refine Kd.cN9 ?_ _) | (with_reducible refine Kd.cD9 ?_))); (case side2 => exact HC0_1.out); (case side3 => repeat (first | exact (Kd.cB9 HR0_2.out HB.out) | (with_reducible refine Kd.cA9 ?_ _) | (with_reducible refine Kd.cN9 ?_ _) | (with_reducible refine Kd.cD9 ?_))); (case side4 => exact HC0_2.out); rintro e w21 ⟨v105, v108, rfl, ho0, ho1, hb⟩; refine ⟨_, rfl, ?_⟩; have n0_ := Aside0.mk (Kd.rL9 ho0 (bZ9 (by repeat (first | (with_reducible first | exact HB.out | apply bA9 | apply bN9 | apply bD9 | refine bS9 ?_ GE101.out | refine bS9 ?_ GE102.out) | exact HB.out)))); have n1_ := Aside0.mk (Kd.rL9 ho1 (bZ9 (by repeat (first | (with_reducible first | exact HB.out | apply bA9 | apply bN9 | apply bD9 | refine bS9 ?_ GE101.out | refine bS9 ?_ GE102.out) | exact HB.out)))); have n2_ := Aside0.mk (kB9 (g := gb101) (o := .cells #[.bool a0_0, .slice A0_1 l0_1.length c0_1, .slice A0_2 l0_2.length c0_2] 35 (0, 0)) (by (with_reducible repeat (first | refine kN9 ?_ _ | refine kD9 ?_ | refine kA9 ?_ _)); exact BK101.out) hb); have n3_ := Aside0.mk (kB9 (g := gb102) (o := .cells #[.bool false, .slice none 0 0, .slice none 0 0] 35 (0, 0)) (by (with_reducible repeat (first | refine kN9 ?_ _ | refine kD9 ?_ | refine kA9 ?_ _)); exact BK102.out) hb); have n4_ := Aside0.mk (bT9 (by repeat (first | (with_reducible first | exact HB.out | apply bA9 | apply bN9 | apply bD9 | refine bS9 ?_ GE101.out | refine bS9 ?_ GE102.out) | exact HB.out)) hb); clear BK101; clear BK102; clear HB; have HO106 := n0_; have HO109 := n1_; have BK101 := n2_; have BK102 := n3_; have HB := n4_; clear n0_ n1_ n2_ n3_ n4_; (try clear hb); (try clear hb2); (try clear hk); (try clear hi); (try clear ho0); (try clear ho1)) | ((with_reducible refine gD9 (N := 3) rfl ?_); refine bE9 ?hg (N := 3) ?hd (cs := #[.bool false, .slice none 0 0, .slice none 0 0]) (t := 35) ?hr ?_; (case hd => rfl); (case hg => rfl); (case hr => first | (go_simp; done) | (go_simp; rfl)); intro gb111 hg w22 hbox hb; have n0_ := Aside0.mk (Kd.rB9 (by (with_reducible repeat (first | apply Kd.rA9 | apply Kd.rN9 | apply Kd.rD9)); exact HO106.out) hb); have n1_ := Aside0.mk (Kd.rB9 (by (with_reducible repeat (first | apply Kd.rA9 | apply Kd.rN9 | apply Kd.rD9)); exact HO109.out) hb); have n2_ := Aside0.mk (kB9 (g := gb101) (o := .cells #[.bool a0_0, .slice A0_1 l0_1.length c0_1, .slice A0_2 l0_2.length c0_2] 35 (0, 0)) (by (with_reducible repeat (first | refine kN9 ?_ _ | refine kD9 ?_ | refine kA9 ?_ _)); exact BK101.out) hb); have n3_ := Aside0.mk (kB9 (g := gb102) (o := .cells #[.bool false, .slice none 0 0, .slice none 0 0] 35 (0, 0)) (by (with_reducible repeat (first | refine kN9 ?_ _ | refine kD9 ?_ | refine kA9 ?_ _)); exact BK102.out) hb); have n4_ := Aside0.mk (bT9 (by repeat (first | (with_reducible first | exact HB.out | apply bA9 | apply bN9 | apply bD9 | refine bS9 ?_ GE101.out | refine bS9 ?_ GE102.out) | exact HB.out)) hb); have n5_ := Aside0.mk (hbox); have n6_ := Aside0.mk ((by rw [hg]; exact (bZ9 (by repeat (first | (with_reducible first | exact HB.out | apply bA9 | apply bN9 | apply bD9 | refine bS9 ?_ GE101.out | refine bS9 ?_ GE102.out) | exact HB.out))) : w.heap.size ≤ gb111)); have n7_ := Aside0.mk ((by rw [hg]; exact (bZ9 (by repeat (first | (with_reducible first | exact HB.out | apply bA9 | apply bN9 | apply bD9 | refine bS9 ?_ GE101.out | refine bS9 ?_ GE102.out) | exact HB.out))) : w.heap.size ≤ gb111)); have n8_ := Aside0.mk ((by rw [hg]; exact Nat.ne_of_lt (blk_lt (g := gb101) (o := .cells #[.bool a0_0, .slice A0_1 l0_1.length c0_1, .slice A0_2 l0_2.length c0_2] 35 (0, 0)) (by (with_reducible repeat (first | refine kN9 ?_ _ | refine kD9 ?_ | refine kA9 ?_ _)); exact BK101.out)) : gb101 ≠ gb111)); have n9_ := Aside0.mk ((by rw [hg]; exact Nat.ne_of_gt (blk_lt (g := gb101) (o := .cells #[.bool a0_0, .slice A0_1 l0_1.length c0_1, .slice A0_2 l0_2.length c0_2] 35 (0, 0)) (by (with_reducible repeat (first | refine kN9 ?_ _ | refine kD9 ?_ | refine kA9 ?_ _)); exact BK101.out)) : gb111 ≠ gb101)); have n10_ := Aside0.mk ((by rw [hg]; exact Nat.ne_of_lt (blk_lt (g := gb102) (o := .cells #[.bool false, .slice none 0 0, .slice none 0 0] 35 (0, 0)) (by (with_reducible repeat (first | refine kN9 ?_ _ | refine kD9 ?_ | refine kA9 ?_ _)); exact BK102.out)) : gb102 ≠ gb111)); have n11_ := Aside0.mk ((by rw [hg]; exact Nat.ne_of_gt (blk_lt (g := gb102) (o := .cells #[.bool false, .slice none 0 0, .slice none 0 0] 35 (0, 0)) (by (with_reducible repeat (first | refine kN9 ?_ _ | refine kD9 ?_ | refine kA9 ?_ _)); exact BK102.out)) : gb111 ≠ gb102)); clear HO106; clear HO109; clear BK101; clear BK102; clear HB; have HO106 := n0_; have HO109 := n1_; have BK101 := n2_; have BK102 := n3_; have HB := n4_; have BK111 := n5_; have GW111 := n6_; have GE111 := n7_; have NB101_111 := n8_; have NB111_101 := n9_; have NB102_111 := n10_; have NB111_102 := n11_; clear n0_ n1_ n2_ n3_ n4_ n5_ n6_ n7_ n8_ n9_ n10_ n11_; clear hb hbox hg; have hnb23 := NB111_101.out; have hnc23 := NB101_111.out; have hnb24 := NB111_102.out; have hnc24 := NB102_111.out; have hcz25_0 : w22.cell? ⟨gb111, 0, none⟩ = some (.bool false) := (kC9 BK111.out 0).trans rfl; have hcz25_1 : w22.cell? ⟨gb111, 1, none⟩ = some (.slice none 0 0) := (kC9 BK111.out 1).trans rfl; have hcz25_2 : w22.cell? ⟨gb111, 2, none⟩ = some (.slice none 0 0) := (kC9 BK111.out 2).trans rfl; have hfz25_0 := kF9 BK111.out 0; have hfz25_1 := kF9 BK111.out 1; have hfz25_2 := kF9 BK111.out 2; obtain ⟨Ao26, co26, eo26⟩ := Kd.rS9 HO106.out; subst eo26; obtain ⟨Ao27, co27, eo27⟩ := Kd.rS9 HO109.out; subst eo27) | ((with_reducible refine gC9 (f := 67) rfl ?_); refine goesL_ (some 17) rfl rfl Tryz.func67 (by kernel_rfl) rfl #[] rfl (by (try simp only [List.map_toArray, List.map_cons, List.map_nil]); first | done | rfl | (simp only [List.length_drop, List.length_take]; rfl)) ?_; (with_reducible refine (rat_one.calls  t112 _ A16.out).mono ?_); rintro e w28 ⟨v113, rfl, ho0, hb⟩; refine ⟨_, rfl, ?_⟩; have n0_ := Aside0.mk (Kd.R_elder' (by (with_reducible repeat (first | apply Kd.rA9 | apply Kd.rN9 | apply Kd.rD9)); exact (Kd.R_mono (Kd.R_far (p := ⟨gb111, 2, none⟩) (Kd.R_far (p := ⟨gb111, 1, none⟩) (Kd.R_far (p := ⟨gb111, 0, none⟩) (Kd.rT9 HO106.out BK111.out (by decide)) (fun _ hk => hk.2) (.bool t103)) (fun _ hk => hk.2) (.slice Ao26 t104.length co26)) (fun _ hk => hk.2) (.slice Ao27 t107.length co27)) (fun _ h_ => h_.1))) (Kd.R_base ho0) hb); have n1_ := Aside0.mk (Kd.R_elder' (by (with_reducible repeat (first | apply Kd.rA9 | apply Kd.rN9 | apply Kd.rD9)); exact (Kd.R_mono (Kd.R_far (p := ⟨gb111, 2, none⟩) (Kd.R_far (p := ⟨gb111, 1, none⟩) (Kd.R_far (p := ⟨gb111, 0, none⟩) (Kd.rT9 HO109.out BK111.out (by decide)) (fun _ hk => hk.2) (.bool t103)) (fun _ hk => hk.2) (.slice Ao26 t104.length co26)) (fun _ hk => hk.2) (.slice Ao27 t107.length co27)) (fun _ h_ => h_.1))) (Kd.R_base ho0) hb); have n2_ := Aside0.mk (Kd.rL9 (Kd.R_new' (Kd.R_new' ho0 (Kd.R_lt (by (with_reducible repeat (first | apply Kd.rA9 | apply Kd.rN9 | apply Kd.rD9)); exact (Kd.R_mono (Kd.R_far (p := ⟨gb111, 2, none⟩) (Kd.R_far (p := ⟨gb111, 1, none⟩) (Kd.R_far (p := ⟨gb111, 0, none⟩) (Kd.rT9 HO106.out BK111.out (by decide)) (fun _ hk => hk.2) (.bool t103)) (fun _ hk => hk.2) (.slice Ao26 t104.length co26)) (fun _ hk => hk.2) (.slice Ao27 t107.length co27)) (fun _ h_ => h_.1))))) (Kd.R_lt (by (with_reducible repeat (first | apply Kd.rA9 | apply Kd.rN9 | apply Kd.rD9)); exact (Kd.R_mono (Kd.R_far (p := ⟨gb111, 2, none⟩) (Kd.R_far (p := ⟨gb111, 1, none⟩) (Kd.R_far (p := ⟨gb111, 0, none⟩) (Kd.rT9 HO109.out BK111.out (by decide)) (fun _ hk => hk.2) (.bool t103)) (fun _ hk => hk.2) (.slice Ao26 t104.length co26)) (fun _ hk => hk.2) (.slice Ao27 t107.length co27)) (fun _ h_ => h_.1))))) (bZ9 (by repeat (first | (with_reducible first | exact HB.out | apply bA9 | apply bN9 | apply bD9 | refine bS9 ?_ GE101.out | refine bS9 ?_ GE102.out | refine bS9 ?_ GE111.out) | exact HB.out)))); have n3_ := Aside0.mk (kB9 (g := gb101) (o := .cells #[.bool a0_0, .slice A0_1 l0_1.length c0_1, .slice A0_2 l0_2.length c0_2] 35 (0, 0)) (by (with_reducible repeat (first | refine kN9 ?_ _ | refine kD9 ?_ | refine kA9 ?_ _)); refine blk_far ?_ NB101_111.out _; (with_reducible repeat (first | refine kN9 ?_ _ | refine kD9 ?_ | refine kA9 ?_ _)); refine blk_far ?_ NB101_111.out _; (with_reducible repeat (first | refine kN9 ?_ _ | refine kD9 ?_ | refine kA9 ?_ _)); refine blk_far ?_ NB101_111.out _; (with_reducible repeat (first | refine kN9 ?_ _ | refine kD9 ?_ | refine kA9 ?_ _)); exact BK101.out) hb); have n4_ := Aside0.mk (kB9 (g := gb102) (o := .cells #[.bool false, .slice none 0 0, .slice none 0 0] 35 (0, 0)) (by (with_reducible repeat (first | refine kN9 ?_ _ | refine kD9 ?_ | refine kA9 ?_ _)); refine blk_far ?_ NB102_111.out _; (with_reducible repeat (first | refine kN9 ?_ _ | refine kD9 ?_ | refine kA9 ?_ _)); refine blk_far ?_ NB102_111.out _; (with_reducible repeat (first | refine kN9 ?_ _ | refine kD9 ?_ | refine kA9 ?_ _)); refine blk_far ?_ NB102_111.out _; (with_reducible repeat (first | refine kN9 ?_ _ | refine kD9 ?_ | refine kA9 ?_ _)); exact BK102.out) hb); have n5_ := Aside0.mk (kB9 (g := gb111) (o := .cells #[.bool t103, .slice Ao26 t104.length co26, .slice Ao27 t107.length co27] 35 (0, 0)) (by (with_reducible repeat (first | refine kN9 ?_ _ | refine kD9 ?_ | refine kA9 ?_ _)); refine kP9 (cs := #[.bool t103, .slice Ao26 t104.length co26, .slice none 0 0]) ?_ 2 _ rfl; (with_reducible repeat (first | refine kN9 ?_ _ | refine kD9 ?_ | refine kA9 ?_ _)); refine kP9 (cs := #[.bool t103, .slice none 0 0, .slice none 0 0]) ?_ 1 _ rfl; (with_reducible repeat (first | refine kN9 ?_ _ | refine kD9 ?_ | refine kA9 ?_ _)); refine kP9 (cs := #[.bool false, .slice none 0 0, .slice none 0 0]) ?_ 0 _ rfl; (with_reducible repeat (first | refine kN9 ?_ _ | refine kD9 ?_ | refine kA9 ?_ _)); exact BK111.out) hb); have n6_ := Aside0.mk (bT9 (by repeat (first | (with_reducible first | exact HB.out | apply bA9 | apply bN9 | apply bD9 | refine bS9 ?_ GE101.out | refine bS9 ?_ GE102.out | refine bS9 ?_ GE111.out) | exact HB.out)) hb); clear HO106; clear HO109; clear BK101; clear BK102; clear BK111; clear HB; have HO106 := n0_; have HO109 := n1_; have HO114 := n2_; have BK101 := n3_; have BK102 := n4_; have BK111 := n5_; have HB := n6_; clear n0_ n1_ n2_ n3_ n4_ n5_ n6_; (try clear hb); (try clear hb2); (try clear hk); (try clear hi); (try clear ho0); obtain ⟨Ao29, co29, eo29⟩ := Kd.rS9 HO114.out; subst eo29; have hcz30_0 : w28.cell? ⟨gb102, 0, none⟩ = some (.bool false) := (kC9 BK102.out 0).trans rfl; have hcz30_1 : w28.cell? ⟨gb102, 1, none⟩ = some (.slice none 0 0) := (kC9 BK102.out 1).trans rfl; have hcz30_2 : w28.cell? ⟨gb102, 2, none⟩ = some (.slice none 0 0) := (kC9 BK102.out 2).trans rfl; have hfz30_0 := kF9 BK102.out 0; have hfz30_1 := kF9 BK102.out 1; have hfz30_2 := kF9 BK102.out 2))
  refine bodyPost_ret (results_cell_row rfl _ _ gb102 35 #[.bool false, .slice none 0 0, .slice Ao29 t112.length co29] (0, 0) _ rfl (by (with_reducible repeat (first | refine kN9 ?_ _ | refine kD9 ?_ | refine kA9 ?_ _)); refine kP9 (cs := #[.bool false, .slice none 0 0, .slice none 0 0]) ?_ 2 _ rfl; (with_reducible repeat (first | refine kN9 ?_ _ | refine kD9 ?_ | refine kA9 ?_ _)); refine kP9 (cs := #[.bool false, .slice none 0 0, .slice none 0 0]) ?_ 1 _ rfl; (with_reducible repeat (first | refine kN9 ?_ _ | refine kD9 ?_ | refine kA9 ?_ _)); refine kP9 (cs := #[.bool false, .slice none 0 0, .slice none 0 0]) ?_ 0 _ rfl; (with_reducible repeat (first | refine kN9 ?_ _ | refine kD9 ?_ | refine kA9 ?_ _)); exact BK102.out) Tryz.underlying35 rfl (by kernel_rfl)) rfl ?_
  exact ⟨_, _, by first | rfl | (simp [eN9, eS9] <;> rfl) | (simp [*, eN9, eS9] <;> rfl), by first | exact Kd.R_nil _ _ _ _ _ | exact Kd.N_nil _ _ _ _ _ | exact Kd.V_nil _ _ _ _ _ | exact Kd.Q_nil _ _ _ _ _ | exact Kd.S_nil _ _ _ _ _, by (with_reducible repeat (first | apply Kd.rA9 | apply Kd.rN9 | apply Kd.rD9)); exact Kd.R_mono (Kd.R_far (p := ⟨gb102, 2, none⟩) (Kd.R_far (p := ⟨gb102, 1, none⟩) (Kd.R_far (p := ⟨gb102, 0, none⟩) (Kd.rT9 HO114.out BK102.out (by decide)) (fun _ hk => hk.2) (.bool false)) (fun _ hk => hk.2) (.slice none 0 0)) (fun _ hk => hk.2) (.slice Ao29 t112.length co29)) (fun _ hk => (by simp [Value.ownBlock])), by repeat (first | (with_reducible first | exact HB.out | apply bA9 | apply bN9 | apply bD9 | refine bS9 ?_ GE101.out | refine bS9 ?_ GE102.out | refine bS9 ?_ GE111.out) | exact HB.out)⟩
def rat_limbs.f (l0 : List Int) (l1 : List Int) : Option (Bool) := if (l0.length : Int) = (l1.length : Int) then ((nat_Cmp.f l0 l1).bind fun t115 => (some (t115 == 0))) else (some false)
set_option maxHeartbeats 8000000 in
set_option maxRecDepth 100000 in
theorem rat_limbs.calls (A0 : Option Addr) (c0 : Nat) (l0 : List Int) (A1 : Option Addr) (c1 : Nat) (l1 : List Int) (r : Bool) (w : World) (hr0 : Kd.C (Kd.int .u32) w A0 l0.length l0) (hc0 : l0.length ≤ c0) (hr1 : Kd.C (Kd.int .u32) w A1 l1.length l1) (hc1 : l1.length ≤ c1) (h : rat_limbs.f l0 l1 = some r) :
  Calls Tryz.prog 72 #[.slice A0 l0.length c0, .slice A1 l1.length c1] w fun e w' => e = .returned (.bool r) ∧ Below w.heap.size w w' := by
 have HR0 := Aside0.mk hr0
 have HC0 := Aside0.mk hc0
 clear hr0 hc0
 have HR1 := Aside0.mk hr1
 have HC1 := Aside0.mk hc1
 clear hr1 hc1
 have HB := Aside0.mk (Below.refl w.heap.size w)
 have H : (if (l0.length : Int) = (l1.length : Int) then ((nat_Cmp.f l0 l1).bind fun t115 => (some (t115 == 0))) else (some false)) = some r := h
 clear h
 by_cases c3 : (l0.length : Int) = (l1.length : Int)
 ·rw [if_pos c3] at H
  have c3b0 : ((l0.length : Int) == (l1.length : Int)) = true := beq_iff_eq.mpr c3
  have c3b1 : ((l0.length : Int) != (l1.length : Int)) = false := bne_eq_false_iff_eq.mpr c3
  have c3b2 : (l0.length == l1.length) = true := by first | simpa using c3 | (simp at c3 ⊢; omega)
  clear c3
  replace H := Option.bind_eq_some_iff.mp H
  obtain ⟨t115, A40, H⟩ := H
  replace H : (some (t115 == 0)) = some r := H
  have A4 := Aside0.mk A40
  clear A40
  obtain rfl := Option.some.inj H
  go_enter Tryz.func72, Tryz.ntmps72
  go_wp2_with (first | (go_at_call 28; (with_reducible refine (nat_Cmp.calls _ _ l0 _ _ l1 t115 _ ?side1 ?side2 ?side3 ?side4 A4.out).mono ?_); (case side1 => repeat (first | exact HR0.out | (with_reducible refine Kd.cA9 ?_ _) | (with_reducible refine Kd.cN9 ?_ _) | (with_reducible refine Kd.cD9 ?_))); (case side2 => exact HC0.out); (case side3 => repeat (first | exact HR1.out | (with_reducible refine Kd.cA9 ?_ _) | (with_reducible refine Kd.cN9 ?_ _) | (with_reducible refine Kd.cD9 ?_))); (case side4 => exact HC1.out); rintro e w5 ⟨rfl, hb⟩; have n0_ := Aside0.mk (bT9 (by repeat (first | (with_reducible first | exact HB.out | apply bA9 | apply bN9 | apply bD9) | exact HB.out)) hb); clear HB; have HB := n0_; clear n0_; (try clear hb); (try clear hb2); (try clear hk); (try clear hi)))
  go_ret
  exact ⟨by first | rfl | (simp [eN9, eS9] <;> rfl) | (simp [*, eN9, eS9] <;> rfl), by repeat (first | (with_reducible first | exact HB.out | apply bA9 | apply bN9 | apply bD9) | exact HB.out)⟩
 ·rw [if_neg c3] at H
  have c3b0 : ((l0.length : Int) == (l1.length : Int)) = false := beq_eq_false_iff_ne.mpr c3
  have c3b1 : ((l0.length : Int) != (l1.length : Int)) = true := bne_iff_ne.mpr c3
  have c3b2 : (l0.length == l1.length) = false := by first | simpa using c3 | (simp at c3 ⊢; omega)
  obtain rfl := Option.some.inj H
  go_enter Tryz.func72, Tryz.ntmps72
  go_wp2
  go_ret
  exact ⟨by first | rfl | (simp [eN9, eS9] <;> rfl) | (simp [*, eN9, eS9] <;> rfl), by repeat (first | (with_reducible first | exact HB.out | apply bA9 | apply bN9 | apply bD9) | exact HB.out)⟩
def rat_May.f (a0_0 : Bool) (l0_1 : List Int) (l0_2 : List Int) : Option (Int) := (rat_Norm.f a0_0 l0_1 l0_2).bind fun bt117 => (if (bt117.1 != a0_0) = true then (some 6) else ((rat_limbs.f bt117.2.1 l0_1).bind fun t125 => (if t125 = true then ((rat_limbs.f bt117.2.2 l0_2).bind fun t126 => (if t126 = true then (some 0) else (some 6))) else (some 6))))
set_option maxHeartbeats 8000000 in
set_option maxRecDepth 100000 in
theorem rat_May.calls (a0_0 : Bool) (A0_1 : Option Addr) (c0_1 : Nat) (l0_1 : List Int) (A0_2 : Option Addr) (c0_2 : Nat) (l0_2 : List Int) (r : Int) (w : World) (hr0_1 : Kd.C (Kd.int .u32) w A0_1 l0_1.length l0_1) (hc0_1 : l0_1.length ≤ c0_1) (hr0_2 : Kd.C (Kd.int .u32) w A0_2 l0_2.length l0_2) (hc0_2 : l0_2.length ≤ c0_2) (h : rat_May.f a0_0 l0_1 l0_2 = some r) :
  Calls Tryz.prog 43 #[.agg #[.bool a0_0, .slice A0_1 l0_1.length c0_1, .slice A0_2 l0_2.length c0_2]] w fun e w' => e = .returned (.int .i64 r) ∧ Below w.heap.size w w' := by
 have hu35 := Tryz.underlying35
 have HR0_1 := Aside0.mk hr0_1
 have HC0_1 := Aside0.mk hc0_1
 clear hr0_1 hc0_1
 have HR0_2 := Aside0.mk hr0_2
 have HC0_2 := Aside0.mk hc0_2
 clear hr0_2 hc0_2
 have HB := Aside0.mk (Below.refl w.heap.size w)
 have H : ((rat_Norm.f a0_0 l0_1 l0_2).bind fun bt117 => (if (bt117.1 != a0_0) = true then (some 6) else ((rat_limbs.f bt117.2.1 l0_1).bind fun t125 => (if t125 = true then ((rat_limbs.f bt117.2.2 l0_2).bind fun t126 => (if t126 = true then (some 0) else (some 6))) else (some 6))))) = some r := h
 clear h
 replace H := Option.bind_eq_some_iff.mp H
 obtain ⟨⟨t117, t118, t121⟩, A20, H⟩ := H
 (try dsimp only at H)
 have A2 := Aside0.mk A20
 clear A20
 by_cases c3 : (t117 != a0_0) = true
 ·rw [if_pos c3] at H
  have c3b0 : (t117 != a0_0) = true := c3
  (try (have c3b1 : decide (t117 = a0_0) = false := by simpa using c3))
  (try (have c3b2 : (t117 == a0_0) = false := by simpa using c3))
  (try (have c3b3 : ¬ (t117 = a0_0) := by simpa using c3))
  clear c3
  obtain rfl := Option.some.inj H
  go_enter Tryz.func43, Tryz.ntmps43
  go_wp2_with (first | ((with_reducible refine gD9 (N := 1) rfl ?_); refine bE9 ?hg (N := 1) ?hd (cs := #[.bool a0_0, .slice A0_1 l0_1.length c0_1, .slice A0_2 l0_2.length c0_2]) (t := 35) ?hr ?_; (case hd => rfl); (case hg => rfl); (case hr => first | (go_simp; done) | (go_simp; rfl)); intro gb116 hg w4 hbox hb; have n0_ := Aside0.mk (bT9 (by repeat (first | (with_reducible first | exact HB.out | apply bA9 | apply bN9 | apply bD9) | exact HB.out)) hb); have n1_ := Aside0.mk (hbox); have n2_ := Aside0.mk ((by rw [hg]; exact (bZ9 (by repeat (first | (with_reducible first | exact HB.out | apply bA9 | apply bN9 | apply bD9) | exact HB.out))) : w.heap.size ≤ gb116)); have n3_ := Aside0.mk ((by rw [hg]; exact (bZ9 (by repeat (first | (with_reducible first | exact HB.out | apply bA9 | apply bN9 | apply bD9) | exact HB.out))) : w.heap.size ≤ gb116)); clear HB; have HB := n0_; have BK116 := n1_; have GW116 := n2_; have GE116 := n3_; clear n0_ n1_ n2_ n3_; clear hb hbox hg; have hcz5_0 : w4.cell? ⟨gb116, 0, none⟩ = some (.bool a0_0) := (kC9 BK116.out 0).trans rfl; have hcz5_1 : w4.cell? ⟨gb116, 1, none⟩ = some (.slice A0_1 l0_1.length c0_1) := (kC9 BK116.out 1).trans rfl; have hcz5_2 : w4.cell? ⟨gb116, 2, none⟩ = some (.slice A0_2 l0_2.length c0_2) := (kC9 BK116.out 2).trans rfl; have hfz5_0 := kF9 BK116.out 0; have hfz5_1 := kF9 BK116.out 1; have hfz5_2 := kF9 BK116.out 2) | ((with_reducible refine gC9 (f := 39) rfl ?_); refine goesL_ (some 5) rfl rfl Tryz.func39 (by kernel_rfl) rfl #[.agg #[.bool a0_0, .slice A0_1 l0_1.length c0_1, .slice A0_2 l0_2.length c0_2]] rfl (by (try simp only [List.map_toArray, List.map_cons, List.map_nil]); first | done | rfl | (simp only [List.length_drop, List.length_take]; rfl)) ?_; (with_reducible refine (rat_Norm.calls a0_0 _ _ l0_1 _ _ l0_2 t117 t118 t121 _ ?side1 ?side2 ?side3 ?side4 A2.out).mono ?_); (case side1 => repeat (first | exact (Kd.cB9 HR0_1.out HB.out) | (with_reducible refine Kd.cA9 ?_ _) | (with_reducible refine Kd.cN9 ?_ _) | (with_reducible refine Kd.cD9 ?_))); (case side2 => exact HC0_1.out); (case side3 => repeat (first | exact (Kd.cB9 HR0_2.out HB.out) | (with_reducible refine Kd.cA9 ?_ _) | (with_reducible refine Kd.cN9 ?_ _) | (with_reducible refine Kd.cD9 ?_))); (case side4 => exact HC0_2.out); rintro e w6 ⟨v119, v122, rfl, ho0, ho1, hb⟩; refine ⟨_, rfl, ?_⟩; have n0_ := Aside0.mk (Kd.rL9 ho0 (bZ9 (by repeat (first | (with_reducible first | exact HB.out | apply bA9 | apply bN9 | apply bD9 | refine bS9 ?_ GE116.out) | exact HB.out)))); have n1_ := Aside0.mk (Kd.rL9 ho1 (bZ9 (by repeat (first | (with_reducible first | exact HB.out | apply bA9 | apply bN9 | apply bD9 | refine bS9 ?_ GE116.out) | exact HB.out)))); have n2_ := Aside0.mk (kB9 (g := gb116) (o := .cells #[.bool a0_0, .slice A0_1 l0_1.length c0_1, .slice A0_2 l0_2.length c0_2] 35 (0, 0)) (by (with_reducible repeat (first | refine kN9 ?_ _ | refine kD9 ?_ | refine kA9 ?_ _)); exact BK116.out) hb); have n3_ := Aside0.mk (bT9 (by repeat (first | (with_reducible first | exact HB.out | apply bA9 | apply bN9 | apply bD9 | refine bS9 ?_ GE116.out) | exact HB.out)) hb); clear BK116; clear HB; have HO120 := n0_; have HO123 := n1_; have BK116 := n2_; have HB := n3_; clear n0_ n1_ n2_ n3_; (try clear hb); (try clear hb2); (try clear hk); (try clear hi); (try clear ho0); (try clear ho1)) | ((with_reducible refine gD9 (N := 3) rfl ?_); refine bE9 ?hg (N := 3) ?hd (cs := #[.bool false, .slice none 0 0, .slice none 0 0]) (t := 35) ?hr ?_; (case hd => rfl); (case hg => rfl); (case hr => first | (go_simp; done) | (go_simp; rfl)); intro gb124 hg w7 hbox hb; have n0_ := Aside0.mk (Kd.rB9 (by (with_reducible repeat (first | apply Kd.rA9 | apply Kd.rN9 | apply Kd.rD9)); exact HO120.out) hb); have n1_ := Aside0.mk (Kd.rB9 (by (with_reducible repeat (first | apply Kd.rA9 | apply Kd.rN9 | apply Kd.rD9)); exact HO123.out) hb); have n2_ := Aside0.mk (kB9 (g := gb116) (o := .cells #[.bool a0_0, .slice A0_1 l0_1.length c0_1, .slice A0_2 l0_2.length c0_2] 35 (0, 0)) (by (with_reducible repeat (first | refine kN9 ?_ _ | refine kD9 ?_ | refine kA9 ?_ _)); exact BK116.out) hb); have n3_ := Aside0.mk (bT9 (by repeat (first | (with_reducible first | exact HB.out | apply bA9 | apply bN9 | apply bD9 | refine bS9 ?_ GE116.out) | exact HB.out)) hb); have n4_ := Aside0.mk (hbox); have n5_ := Aside0.mk ((by rw [hg]; exact (bZ9 (by repeat (first | (with_reducible first | exact HB.out | apply bA9 | apply bN9 | apply bD9 | refine bS9 ?_ GE116.out) | exact HB.out))) : w.heap.size ≤ gb124)); have n6_ := Aside0.mk ((by rw [hg]; exact (bZ9 (by repeat (first | (with_reducible first | exact HB.out | apply bA9 | apply bN9 | apply bD9 | refine bS9 ?_ GE116.out) | exact HB.out))) : w.heap.size ≤ gb124)); have n7_ := Aside0.mk ((by rw [hg]; exact Nat.ne_of_lt (blk_lt (g := gb116) (o := .cells #[.bool a0_0, .slice A0_1 l0_1.length c0_1, .slice A0_2 l0_2.length c0_2] 35 (0, 0)) (by (with_reducible repeat (first | refine kN9 ?_ _ | refine kD9 ?_ | refine kA9 ?_ _)); exact BK116.out)) : gb116 ≠ gb124)); have n8_ := Aside0.mk ((by rw [hg]; exact Nat.ne_of_gt (blk_lt (g := gb116) (o := .cells #[.bool a0_0, .slice A0_1 l0_1.length c0_1, .slice A0_2 l0_2.length c0_2] 35 (0, 0)) (by (with_reducible repeat (first | refine kN9 ?_ _ | refine kD9 ?_ | refine kA9 ?_ _)); exact BK116.out)) : gb124 ≠ gb116)); clear HO120; clear HO123; clear BK116; clear HB; have HO120 := n0_; have HO123 := n1_; have BK116 := n2_; have HB := n3_; have BK124 := n4_; have GW124 := n5_; have GE124 := n6_; have NB116_124 := n7_; have NB124_116 := n8_; clear n0_ n1_ n2_ n3_ n4_ n5_ n6_ n7_ n8_; clear hb hbox hg; have hnb8 := NB124_116.out; have hnc8 := NB116_124.out; have hcz9_0 : w7.cell? ⟨gb124, 0, none⟩ = some (.bool false) := (kC9 BK124.out 0).trans rfl; have hcz9_1 : w7.cell? ⟨gb124, 1, none⟩ = some (.slice none 0 0) := (kC9 BK124.out 1).trans rfl; have hcz9_2 : w7.cell? ⟨gb124, 2, none⟩ = some (.slice none 0 0) := (kC9 BK124.out 2).trans rfl; have hfz9_0 := kF9 BK124.out 0; have hfz9_1 := kF9 BK124.out 1; have hfz9_2 := kF9 BK124.out 2; obtain ⟨Ao10, co10, eo10⟩ := Kd.rS9 HO120.out; subst eo10; obtain ⟨Ao11, co11, eo11⟩ := Kd.rS9 HO123.out; subst eo11; have hcz12_0 : w7.cell? ⟨gb116, 0, none⟩ = some (.bool a0_0) := (kC9 BK116.out 0).trans rfl; have hcz12_1 : w7.cell? ⟨gb116, 1, none⟩ = some (.slice A0_1 l0_1.length c0_1) := (kC9 BK116.out 1).trans rfl; have hcz12_2 : w7.cell? ⟨gb116, 2, none⟩ = some (.slice A0_2 l0_2.length c0_2) := (kC9 BK116.out 2).trans rfl; have hfz12_0 := kF9 BK116.out 0; have hfz12_1 := kF9 BK116.out 1; have hfz12_2 := kF9 BK116.out 2))
  go_ret
  exact ⟨by first | rfl | (simp [eN9, eS9] <;> rfl) | (simp [*, eN9, eS9] <;> rfl), by repeat (first | (with_reducible first | exact HB.out | apply bA9 | apply bN9 | apply bD9 | refine bS9 ?_ GE116.out | refine bS9 ?_ GE124.out) | exact HB.out)⟩
 ·rw [if_neg c3] at H
  have c3b0 : (t117 != a0_0) = false := by simpa using c3
  (try (have c3b1 : decide (t117 = a0_0) = true := by simpa using c3))
  (try (have c3b2 : (t117 == a0_0) = true := by simpa using c3))
  clear c3
  replace H := Option.bind_eq_some_iff.mp H
  obtain ⟨t125, A130, H⟩ := H
  (try dsimp only at H)
  have A13 := Aside0.mk A130
  clear A130
  by_cases c14 : t125 = true
  ·subst c14
   have H1 : ((rat_limbs.f t121 l0_2).bind fun t126 => (if t126 = true then (some 0) else (some 6))) = some r := by rw [if_pos rfl] at H; exact H
   clear H
   have H := H1
   clear H1
   replace H := Option.bind_eq_some_iff.mp H
   obtain ⟨t126, A150, H⟩ := H
   replace H : (if t126 = true then (some 0) else (some 6)) = some r := H
   have A15 := Aside0.mk A150
   clear A150
   by_cases c16 : t126 = true
   ·subst c16
    have H1 : (some 0) = some r := by rw [if_pos rfl] at H; exact H
    clear H
    have H := H1
    clear H1
    obtain rfl := Option.some.inj H
    go_enter Tryz.func43, Tryz.ntmps43
    go_wp2_with (first | ((with_reducible refine gD9 (N := 1) rfl ?_); refine bE9 ?hg (N := 1) ?hd (cs := #[.bool a0_0, .slice A0_1 l0_1.length c0_1, .slice A0_2 l0_2.length c0_2]) (t := 35) ?hr ?_; (case hd => rfl); (case hg => rfl); (case hr => first | (go_simp; done) | (go_simp; rfl)); intro gb116 hg w17 hbox hb; have n0_ := Aside0.mk (bT9 (by repeat (first | (with_reducible first | exact HB.out | apply bA9 | apply bN9 | apply bD9) | exact HB.out)) hb); have n1_ := Aside0.mk (hbox); have n2_ := Aside0.mk ((by rw [hg]; exact (bZ9 (by repeat (first | (with_reducible first | exact HB.out | apply bA9 | apply bN9 | apply bD9) | exact HB.out))) : w.heap.size ≤ gb116)); have n3_ := Aside0.mk ((by rw [hg]; exact (bZ9 (by repeat (first | (with_reducible first | exact HB.out | apply bA9 | apply bN9 | apply bD9) | exact HB.out))) : w.heap.size ≤ gb116)); clear HB; have HB := n0_; have BK116 := n1_; have GW116 := n2_; have GE116 := n3_; clear n0_ n1_ n2_ n3_; clear hb hbox hg; have hcz18_0 : w17.cell? ⟨gb116, 0, none⟩ = some (.bool a0_0) := (kC9 BK116.out 0).trans rfl; have hcz18_1 : w17.cell? ⟨gb116, 1, none⟩ = some (.slice A0_1 l0_1.length c0_1) := (kC9 BK116.out 1).trans rfl; have hcz18_2 : w17.cell? ⟨gb116, 2, none⟩ = some (.slice A0_2 l0_2.length c0_2) := (kC9 BK116.out 2).trans rfl; have hfz18_0 := kF9 BK116.out 0; have hfz18_1 := kF9 BK116.out 1; have hfz18_2 := kF9 BK116.out 2) | ((with_reducible refine gC9 (f := 39) rfl ?_); refine goesL_ (some 5) rfl rfl Tryz.func39 (by kernel_rfl) rfl #[.agg #[.bool a0_0, .slice A0_1 l0_1.length c0_1, .slice A0_2 l0_2.length c0_2]] rfl (by (try simp only [List.map_toArray, List.map_cons, List.map_nil]); first | done | rfl | (simp only [List.length_drop, List.length_take]; rfl)) ?_; (with_reducible refine (rat_Norm.calls a0_0 _ _ l0_1 _ _ l0_2 t117 t118 t121 _ ?side1 ?side2 ?side3 ?side4 A2.out).mono ?_); (case side1 => repeat (first | exact (Kd.cB9 HR0_1.out HB.out) | (with_reducible refine Kd.cA9 ?_ _) | (with_reducible refine Kd.cN9 ?_ _) | (with_reducible refine Kd.cD9 ?_))); (case side2 => exact HC0_1.out); (case side3 => repeat (first | exact (Kd.cB9 HR0_2.out HB.out) | (with_reducible refine Kd.cA9 ?_ _) | (with_reducible refine Kd.cN9 ?_ _) | (with_reducible refine Kd.cD9 ?_))); (case side4 => exact HC0_2.out); rintro e w19 ⟨v119, v122, rfl, ho0, ho1, hb⟩; refine ⟨_, rfl, ?_⟩; have n0_ := Aside0.mk (Kd.rL9 ho0 (bZ9 (by repeat (first | (with_reducible first | exact HB.out | apply bA9 | apply bN9 | apply bD9 | refine bS9 ?_ GE116.out) | exact HB.out)))); have n1_ := Aside0.mk (Kd.rL9 ho1 (bZ9 (by repeat (first | (with_reducible first | exact HB.out | apply bA9 | apply bN9 | apply bD9 | refine bS9 ?_ GE116.out) | exact HB.out)))); have n2_ := Aside0.mk (kB9 (g := gb116) (o := .cells #[.bool a0_0, .slice A0_1 l0_1.length c0_1, .slice A0_2 l0_2.length c0_2] 35 (0, 0)) (by (with_reducible repeat (first | refine kN9 ?_ _ | refine kD9 ?_ | refine kA9 ?_ _)); exact BK116.out) hb); have n3_ := Aside0.mk (bT9 (by repeat (first | (with_reducible first | exact HB.out | apply bA9 | apply bN9 | apply bD9 | refine bS9 ?_ GE116.out) | exact HB.out)) hb); clear BK116; clear HB; have HO120 := n0_; have HO123 := n1_; have BK116 := n2_; have HB := n3_; clear n0_ n1_ n2_ n3_; (try clear hb); (try clear hb2); (try clear hk); (try clear hi); (try clear ho0); (try clear ho1)) | ((with_reducible refine gD9 (N := 3) rfl ?_); refine bE9 ?hg (N := 3) ?hd (cs := #[.bool false, .slice none 0 0, .slice none 0 0]) (t := 35) ?hr ?_; (case hd => rfl); (case hg => rfl); (case hr => first | (go_simp; done) | (go_simp; rfl)); intro gb124 hg w20 hbox hb; have n0_ := Aside0.mk (Kd.rB9 (by (with_reducible repeat (first | apply Kd.rA9 | apply Kd.rN9 | apply Kd.rD9)); exact HO120.out) hb); have n1_ := Aside0.mk (Kd.rB9 (by (with_reducible repeat (first | apply Kd.rA9 | apply Kd.rN9 | apply Kd.rD9)); exact HO123.out) hb); have n2_ := Aside0.mk (kB9 (g := gb116) (o := .cells #[.bool a0_0, .slice A0_1 l0_1.length c0_1, .slice A0_2 l0_2.length c0_2] 35 (0, 0)) (by (with_reducible repeat (first | refine kN9 ?_ _ | refine kD9 ?_ | refine kA9 ?_ _)); exact BK116.out) hb); have n3_ := Aside0.mk (bT9 (by repeat (first | (with_reducible first | exact HB.out | apply bA9 | apply bN9 | apply bD9 | refine bS9 ?_ GE116.out) | exact HB.out)) hb); have n4_ := Aside0.mk (hbox); have n5_ := Aside0.mk ((by rw [hg]; exact (bZ9 (by repeat (first | (with_reducible first | exact HB.out | apply bA9 | apply bN9 | apply bD9 | refine bS9 ?_ GE116.out) | exact HB.out))) : w.heap.size ≤ gb124)); have n6_ := Aside0.mk ((by rw [hg]; exact (bZ9 (by repeat (first | (with_reducible first | exact HB.out | apply bA9 | apply bN9 | apply bD9 | refine bS9 ?_ GE116.out) | exact HB.out))) : w.heap.size ≤ gb124)); have n7_ := Aside0.mk ((by rw [hg]; exact Nat.ne_of_lt (blk_lt (g := gb116) (o := .cells #[.bool a0_0, .slice A0_1 l0_1.length c0_1, .slice A0_2 l0_2.length c0_2] 35 (0, 0)) (by (with_reducible repeat (first | refine kN9 ?_ _ | refine kD9 ?_ | refine kA9 ?_ _)); exact BK116.out)) : gb116 ≠ gb124)); have n8_ := Aside0.mk ((by rw [hg]; exact Nat.ne_of_gt (blk_lt (g := gb116) (o := .cells #[.bool a0_0, .slice A0_1 l0_1.length c0_1, .slice A0_2 l0_2.length c0_2] 35 (0, 0)) (by (with_reducible repeat (first | refine kN9 ?_ _ | refine kD9 ?_ | refine kA9 ?_ _)); exact BK116.out)) : gb124 ≠ gb116)); clear HO120; clear HO123; clear BK116; clear HB; have HO120 := n0_; have HO123 := n1_; have BK116 := n2_; have HB := n3_; have BK124 := n4_; have GW124 := n5_; have GE124 := n6_; have NB116_124 := n7_; have NB124_116 := n8_; clear n0_ n1_ n2_ n3_ n4_ n5_ n6_ n7_ n8_; clear hb hbox hg; have hnb21 := NB124_116.out; have hnc21 := NB116_124.out; have hcz22_0 : w20.cell? ⟨gb124, 0, none⟩ = some (.bool false) := (kC9 BK124.out 0).trans rfl; have hcz22_1 : w20.cell? ⟨gb124, 1, none⟩ = some (.slice none 0 0) := (kC9 BK124.out 1).trans rfl; have hcz22_2 : w20.cell? ⟨gb124, 2, none⟩ = some (.slice none 0 0) := (kC9 BK124.out 2).trans rfl; have hfz22_0 := kF9 BK124.out 0; have hfz22_1 := kF9 BK124.out 1; have hfz22_2 := kF9 BK124.out 2; obtain ⟨Ao23, co23, eo23⟩ := Kd.rS9 HO120.out; subst eo23; obtain ⟨Ao24, co24, eo24⟩ := Kd.rS9 HO123.out; subst eo24; have hcz25_0 : w20.cell? ⟨gb116, 0, none⟩ = some (.bool a0_0) := (kC9 BK116.out 0).trans rfl; have hcz25_1 : w20.cell? ⟨gb116, 1, none⟩ = some (.slice A0_1 l0_1.length c0_1) := (kC9 BK116.out 1).trans rfl; have hcz25_2 : w20.cell? ⟨gb116, 2, none⟩ = some (.slice A0_2 l0_2.length c0_2) := (kC9 BK116.out 2).trans rfl; have hfz25_0 := kF9 BK116.out 0; have hfz25_1 := kF9 BK116.out 1; have hfz25_2 := kF9 BK116.out 2) | (go_at_call 72; (with_reducible refine (rat_limbs.calls _ _ t118 _ _ l0_1 true _ ?side1 ?side2 ?side3 ?side4 A13.out).mono ?_); (case side1 => refine (Kd.rR9 (e := 56) (base := w.heap.size) (ok := fun k_ => some k_ ≠ (.slice Ao24 t121.length co24 : Value).ownBlock) (n := t118.length) (c := co23) ?_).2.2; exact (by (with_reducible repeat (first | apply Kd.rA9 | apply Kd.rN9 | apply Kd.rD9)); exact (Kd.R_mono (Kd.R_far (p := ⟨gb124, 2, none⟩) (Kd.R_far (p := ⟨gb124, 1, none⟩) (Kd.R_far (p := ⟨gb124, 0, none⟩) (Kd.rT9 HO120.out BK124.out (by decide)) (fun _ hk => hk.2) (.bool t117)) (fun _ hk => hk.2) (.slice Ao23 t118.length co23)) (fun _ hk => hk.2) (.slice Ao24 t121.length co24)) (fun _ h_ => h_.1)))); (case side2 => exact (Kd.rR9 HO120.out).2.1); (case side3 => exact Kd.cB9 HR0_1.out (by repeat (first | (with_reducible first | exact HB.out | apply bA9 | apply bN9 | apply bD9 | refine bS9 ?_ GE116.out | refine bS9 ?_ GE124.out) | exact HB.out))); (case side4 => exact HC0_1.out); rintro e w26 ⟨rfl, hb⟩; have n0_ := Aside0.mk (Kd.rB9 (by (with_reducible repeat (first | apply Kd.rA9 | apply Kd.rN9 | apply Kd.rD9)); exact (Kd.R_mono (Kd.R_far (p := ⟨gb124, 2, none⟩) (Kd.R_far (p := ⟨gb124, 1, none⟩) (Kd.R_far (p := ⟨gb124, 0, none⟩) (Kd.rT9 HO120.out BK124.out (by decide)) (fun _ hk => hk.2) (.bool t117)) (fun _ hk => hk.2) (.slice Ao23 t118.length co23)) (fun _ hk => hk.2) (.slice Ao24 t121.length co24)) (fun _ h_ => h_.1))) hb); have n1_ := Aside0.mk (Kd.rB9 (by (with_reducible repeat (first | apply Kd.rA9 | apply Kd.rN9 | apply Kd.rD9)); exact (Kd.R_mono (Kd.R_far (p := ⟨gb124, 2, none⟩) (Kd.R_far (p := ⟨gb124, 1, none⟩) (Kd.R_far (p := ⟨gb124, 0, none⟩) (Kd.rT9 HO123.out BK124.out (by decide)) (fun _ hk => hk.2) (.bool t117)) (fun _ hk => hk.2) (.slice Ao23 t118.length co23)) (fun _ hk => hk.2) (.slice Ao24 t121.length co24)) (fun _ h_ => h_.1))) hb); have n2_ := Aside0.mk (kB9 (g := gb116) (o := .cells #[.bool a0_0, .slice A0_1 l0_1.length c0_1, .slice A0_2 l0_2.length c0_2] 35 (0, 0)) (by (with_reducible repeat (first | refine kN9 ?_ _ | refine kD9 ?_ | refine kA9 ?_ _)); refine blk_far ?_ NB116_124.out _; (with_reducible repeat (first | refine kN9 ?_ _ | refine kD9 ?_ | refine kA9 ?_ _)); refine blk_far ?_ NB116_124.out _; (with_reducible repeat (first | refine kN9 ?_ _ | refine kD9 ?_ | refine kA9 ?_ _)); refine blk_far ?_ NB116_124.out _; (with_reducible repeat (first | refine kN9 ?_ _ | refine kD9 ?_ | refine kA9 ?_ _)); exact BK116.out) hb); have n3_ := Aside0.mk (kB9 (g := gb124) (o := .cells #[.bool t117, .slice Ao23 t118.length co23, .slice Ao24 t121.length co24] 35 (0, 0)) (by (with_reducible repeat (first | refine kN9 ?_ _ | refine kD9 ?_ | refine kA9 ?_ _)); refine kP9 (cs := #[.bool t117, .slice Ao23 t118.length co23, .slice none 0 0]) ?_ 2 _ rfl; (with_reducible repeat (first | refine kN9 ?_ _ | refine kD9 ?_ | refine kA9 ?_ _)); refine kP9 (cs := #[.bool t117, .slice none 0 0, .slice none 0 0]) ?_ 1 _ rfl; (with_reducible repeat (first | refine kN9 ?_ _ | refine kD9 ?_ | refine kA9 ?_ _)); refine kP9 (cs := #[.bool false, .slice none 0 0, .slice none 0 0]) ?_ 0 _ rfl; (with_reducible repeat (first | refine kN9 ?_ _ | refine kD9 ?_ | refine kA9 ?_ _)); exact BK124.out) hb); have n4_ := Aside0.mk (bT9 (by repeat (first | (with_reducible first | exact HB.out | apply bA9 | apply bN9 | apply bD9 | refine bS9 ?_ GE116.out | refine bS9 ?_ GE124.out) | exact HB.out)) hb); clear HO120; clear HO123; clear BK116; clear BK124; clear HB; have HO120 := n0_; have HO123 := n1_; have BK116 := n2_; have BK124 := n3_; have HB := n4_; clear n0_ n1_ n2_ n3_ n4_; (try clear hb); (try clear hb2); (try clear hk); (try clear hi); have hcz27_0 : w26.cell? ⟨gb124, 0, none⟩ = some (.bool t117) := (kC9 BK124.out 0).trans rfl; have hcz27_1 : w26.cell? ⟨gb124, 1, none⟩ = some (.slice Ao23 t118.length co23) := (kC9 BK124.out 1).trans rfl; have hcz27_2 : w26.cell? ⟨gb124, 2, none⟩ = some (.slice Ao24 t121.length co24) := (kC9 BK124.out 2).trans rfl; have hfz27_0 := kF9 BK124.out 0; have hfz27_1 := kF9 BK124.out 1; have hfz27_2 := kF9 BK124.out 2; have hcz28_0 : w26.cell? ⟨gb116, 0, none⟩ = some (.bool a0_0) := (kC9 BK116.out 0).trans rfl; have hcz28_1 : w26.cell? ⟨gb116, 1, none⟩ = some (.slice A0_1 l0_1.length c0_1) := (kC9 BK116.out 1).trans rfl; have hcz28_2 : w26.cell? ⟨gb116, 2, none⟩ = some (.slice A0_2 l0_2.length c0_2) := (kC9 BK116.out 2).trans rfl; have hfz28_0 := kF9 BK116.out 0; have hfz28_1 := kF9 BK116.out 1; have hfz28_2 := kF9 BK116.out 2) | (go_at_call 72; (with_reducible refine (rat_limbs.calls _ _ t121 _ _ l0_2 true _ ?side1 ?side2 ?side3 ?side4 A15.out).mono ?_); (case side1 => repeat (first | exact (Kd.rR9 HO123.out).2.2 | (with_reducible refine Kd.cA9 ?_ _) | (with_reducible refine Kd.cN9 ?_ _) | (with_reducible refine Kd.cD9 ?_))); (case side2 => exact (Kd.rR9 HO123.out).2.1); (case side3 => repeat (first | exact (Kd.cB9 HR0_2.out HB.out) | (with_reducible refine Kd.cA9 ?_ _) | (with_reducible refine Kd.cN9 ?_ _) | (with_reducible refine Kd.cD9 ?_))); (case side4 => exact HC0_2.out); rintro e w29 ⟨rfl, hb⟩; have n0_ := Aside0.mk (Kd.rB9 (by (with_reducible repeat (first | apply Kd.rA9 | apply Kd.rN9 | apply Kd.rD9)); exact HO120.out) hb); have n1_ := Aside0.mk (Kd.rB9 (by (with_reducible repeat (first | apply Kd.rA9 | apply Kd.rN9 | apply Kd.rD9)); exact HO123.out) hb); have n2_ := Aside0.mk (kB9 (g := gb116) (o := .cells #[.bool a0_0, .slice A0_1 l0_1.length c0_1, .slice A0_2 l0_2.length c0_2] 35 (0, 0)) (by (with_reducible repeat (first | refine kN9 ?_ _ | refine kD9 ?_ | refine kA9 ?_ _)); exact BK116.out) hb); have n3_ := Aside0.mk (kB9 (g := gb124) (o := .cells #[.bool t117, .slice Ao23 t118.length co23, .slice Ao24 t121.length co24] 35 (0, 0)) (by (with_reducible repeat (first | refine kN9 ?_ _ | refine kD9 ?_ | refine kA9 ?_ _)); exact BK124.out) hb); have n4_ := Aside0.mk (bT9 (by repeat (first | (with_reducible first | exact HB.out | apply bA9 | apply bN9 | apply bD9 | refine bS9 ?_ GE116.out | refine bS9 ?_ GE124.out) | exact HB.out)) hb); clear HO120; clear HO123; clear BK116; clear BK124; clear HB; have HO120 := n0_; have HO123 := n1_; have BK116 := n2_; have BK124 := n3_; have HB := n4_; clear n0_ n1_ n2_ n3_ n4_; (try clear hb); (try clear hb2); (try clear hk); (try clear hi)))
    go_ret
    exact ⟨by first | rfl | (simp [eN9, eS9] <;> rfl) | (simp [*, eN9, eS9] <;> rfl), by repeat (first | (with_reducible first | exact HB.out | apply bA9 | apply bN9 | apply bD9 | refine bS9 ?_ GE116.out | refine bS9 ?_ GE124.out) | exact HB.out)⟩
   ·replace c16 := Bool.eq_false_iff.mpr c16
    subst c16
    have H1 : (some 6) = some r := by rw [if_neg (show ¬ (false = true) by decide)] at H; exact H
    clear H
    have H := H1
    clear H1
    obtain rfl := Option.some.inj H
    go_enter Tryz.func43, Tryz.ntmps43
    go_wp2_with (first | ((with_reducible refine gD9 (N := 1) rfl ?_); refine bE9 ?hg (N := 1) ?hd (cs := #[.bool a0_0, .slice A0_1 l0_1.length c0_1, .slice A0_2 l0_2.length c0_2]) (t := 35) ?hr ?_; (case hd => rfl); (case hg => rfl); (case hr => first | (go_simp; done) | (go_simp; rfl)); intro gb116 hg w30 hbox hb; have n0_ := Aside0.mk (bT9 (by repeat (first | (with_reducible first | exact HB.out | apply bA9 | apply bN9 | apply bD9) | exact HB.out)) hb); have n1_ := Aside0.mk (hbox); have n2_ := Aside0.mk ((by rw [hg]; exact (bZ9 (by repeat (first | (with_reducible first | exact HB.out | apply bA9 | apply bN9 | apply bD9) | exact HB.out))) : w.heap.size ≤ gb116)); have n3_ := Aside0.mk ((by rw [hg]; exact (bZ9 (by repeat (first | (with_reducible first | exact HB.out | apply bA9 | apply bN9 | apply bD9) | exact HB.out))) : w.heap.size ≤ gb116)); clear HB; have HB := n0_; have BK116 := n1_; have GW116 := n2_; have GE116 := n3_; clear n0_ n1_ n2_ n3_; clear hb hbox hg; have hcz31_0 : w30.cell? ⟨gb116, 0, none⟩ = some (.bool a0_0) := (kC9 BK116.out 0).trans rfl; have hcz31_1 : w30.cell? ⟨gb116, 1, none⟩ = some (.slice A0_1 l0_1.length c0_1) := (kC9 BK116.out 1).trans rfl; have hcz31_2 : w30.cell? ⟨gb116, 2, none⟩ = some (.slice A0_2 l0_2.length c0_2) := (kC9 BK116.out 2).trans rfl; have hfz31_0 := kF9 BK116.out 0; have hfz31_1 := kF9 BK116.out 1; have hfz31_2 := kF9 BK116.out 2) | ((with_reducible refine gC9 (f := 39) rfl ?_); refine goesL_ (some 5) rfl rfl Tryz.func39 (by kernel_rfl) rfl #[.agg #[.bool a0_0, .slice A0_1 l0_1.length c0_1, .slice A0_2 l0_2.length c0_2]] rfl (by (try simp only [List.map_toArray, List.map_cons, List.map_nil]); first | done | rfl | (simp only [List.length_drop, List.length_take]; rfl)) ?_; (with_reducible refine (rat_Norm.calls a0_0 _ _ l0_1 _ _ l0_2 t117 t118 t121 _ ?side1 ?side2 ?side3 ?side4 A2.out).mono ?_); (case side1 => repeat (first | exact (Kd.cB9 HR0_1.out HB.out) | (with_reducible refine Kd.cA9 ?_ _) | (with_reducible refine Kd.cN9 ?_ _) | (with_reducible refine Kd.cD9 ?_))); (case side2 => exact HC0_1.out); (case side3 => repeat (first | exact (Kd.cB9 HR0_2.out HB.out) | (with_reducible refine Kd.cA9 ?_ _) | (with_reducible refine Kd.cN9 ?_ _) | (with_reducible refine Kd.cD9 ?_))); (case side4 => exact HC0_2.out); rintro e w32 ⟨v119, v122, rfl, ho0, ho1, hb⟩; refine ⟨_, rfl, ?_⟩; have n0_ := Aside0.mk (Kd.rL9 ho0 (bZ9 (by repeat (first | (with_reducible first | exact HB.out | apply bA9 | apply bN9 | apply bD9 | refine bS9 ?_ GE116.out) | exact HB.out)))); have n1_ := Aside0.mk (Kd.rL9 ho1 (bZ9 (by repeat (first | (with_reducible first | exact HB.out | apply bA9 | apply bN9 | apply bD9 | refine bS9 ?_ GE116.out) | exact HB.out)))); have n2_ := Aside0.mk (kB9 (g := gb116) (o := .cells #[.bool a0_0, .slice A0_1 l0_1.length c0_1, .slice A0_2 l0_2.length c0_2] 35 (0, 0)) (by (with_reducible repeat (first | refine kN9 ?_ _ | refine kD9 ?_ | refine kA9 ?_ _)); exact BK116.out) hb); have n3_ := Aside0.mk (bT9 (by repeat (first | (with_reducible first | exact HB.out | apply bA9 | apply bN9 | apply bD9 | refine bS9 ?_ GE116.out) | exact HB.out)) hb); clear BK116; clear HB; have HO120 := n0_; have HO123 := n1_; have BK116 := n2_; have HB := n3_; clear n0_ n1_ n2_ n3_; (try clear hb); (try clear hb2); (try clear hk); (try clear hi); (try clear ho0); (try clear ho1)) | ((with_reducible refine gD9 (N := 3) rfl ?_); refine bE9 ?hg (N := 3) ?hd (cs := #[.bool false, .slice none 0 0, .slice none 0 0]) (t := 35) ?hr ?_; (case hd => rfl); (case hg => rfl); (case hr => first | (go_simp; done) | (go_simp; rfl)); intro gb124 hg w33 hbox hb; have n0_ := Aside0.mk (Kd.rB9 (by (with_reducible repeat (first | apply Kd.rA9 | apply Kd.rN9 | apply Kd.rD9)); exact HO120.out) hb); have n1_ := Aside0.mk (Kd.rB9 (by (with_reducible repeat (first | apply Kd.rA9 | apply Kd.rN9 | apply Kd.rD9)); exact HO123.out) hb); have n2_ := Aside0.mk (kB9 (g := gb116) (o := .cells #[.bool a0_0, .slice A0_1 l0_1.length c0_1, .slice A0_2 l0_2.length c0_2] 35 (0, 0)) (by (with_reducible repeat (first | refine kN9 ?_ _ | refine kD9 ?_ | refine kA9 ?_ _)); exact BK116.out) hb); have n3_ := Aside0.mk (bT9 (by repeat (first | (with_reducible first | exact HB.out | apply bA9 | apply bN9 | apply bD9 | refine bS9 ?_ GE116.out) | exact HB.out)) hb); have n4_ := Aside0.mk (hbox); have n5_ := Aside0.mk ((by rw [hg]; exact (bZ9 (by repeat (first | (with_reducible first | exact HB.out | apply bA9 | apply bN9 | apply bD9 | refine bS9 ?_ GE116.out) | exact HB.out))) : w.heap.size ≤ gb124)); have n6_ := Aside0.mk ((by rw [hg]; exact (bZ9 (by repeat (first | (with_reducible first | exact HB.out | apply bA9 | apply bN9 | apply bD9 | refine bS9 ?_ GE116.out) | exact HB.out))) : w.heap.size ≤ gb124)); have n7_ := Aside0.mk ((by rw [hg]; exact Nat.ne_of_lt (blk_lt (g := gb116) (o := .cells #[.bool a0_0, .slice A0_1 l0_1.length c0_1, .slice A0_2 l0_2.length c0_2] 35 (0, 0)) (by (with_reducible repeat (first | refine kN9 ?_ _ | refine kD9 ?_ | refine kA9 ?_ _)); exact BK116.out)) : gb116 ≠ gb124)); have n8_ := Aside0.mk ((by rw [hg]; exact Nat.ne_of_gt (blk_lt (g := gb116) (o := .cells #[.bool a0_0, .slice A0_1 l0_1.length c0_1, .slice A0_2 l0_2.length c0_2] 35 (0, 0)) (by (with_reducible repeat (first | refine kN9 ?_ _ | refine kD9 ?_ | refine kA9 ?_ _)); exact BK116.out)) : gb124 ≠ gb116)); clear HO120; clear HO123; clear BK116; clear HB; have HO120 := n0_; have HO123 := n1_; have BK116 := n2_; have HB := n3_; have BK124 := n4_; have GW124 := n5_; have GE124 := n6_; have NB116_124 := n7_; have NB124_116 := n8_; clear n0_ n1_ n2_ n3_ n4_ n5_ n6_ n7_ n8_; clear hb hbox hg; have hnb34 := NB124_116.out; have hnc34 := NB116_124.out; have hcz35_0 : w33.cell? ⟨gb124, 0, none⟩ = some (.bool false) := (kC9 BK124.out 0).trans rfl; have hcz35_1 : w33.cell? ⟨gb124, 1, none⟩ = some (.slice none 0 0) := (kC9 BK124.out 1).trans rfl; have hcz35_2 : w33.cell? ⟨gb124, 2, none⟩ = some (.slice none 0 0) := (kC9 BK124.out 2).trans rfl; have hfz35_0 := kF9 BK124.out 0; have hfz35_1 := kF9 BK124.out 1; have hfz35_2 := kF9 BK124.out 2; obtain ⟨Ao36, co36, eo36⟩ := Kd.rS9 HO120.out; subst eo36; obtain ⟨Ao37, co37, eo37⟩ := Kd.rS9 HO123.out; subst eo37; have hcz38_0 : w33.cell? ⟨gb116, 0, none⟩ = some (.bool a0_0) := (kC9 BK116.out 0).trans rfl; have hcz38_1 : w33.cell? ⟨gb116, 1, none⟩ = some (.slice A0_1 l0_1.length c0_1) := (kC9 BK116.out 1).trans rfl; have hcz38_2 : w33.cell? ⟨gb116, 2, none⟩ = some (.slice A0_2 l0_2.length c0_2) := (kC9 BK116.out 2).trans rfl; have hfz38_0 := kF9 BK116.out 0; have hfz38_1 := kF9 BK116.out 1; have hfz38_2 := kF9 BK116.out 2) | (go_at_call 72; (with_reducible refine (rat_limbs.calls _ _ t118 _ _ l0_1 true _ ?side1 ?side2 ?side3 ?side4 A13.out).mono ?_); (case side1 => refine (Kd.rR9 (e := 56) (base := w.heap.size) (ok := fun k_ => some k_ ≠ (.slice Ao37 t121.length co37 : Value).ownBlock) (n := t118.length) (c := co36) ?_).2.2; exact (by (with_reducible repeat (first | apply Kd.rA9 | apply Kd.rN9 | apply Kd.rD9)); exact (Kd.R_mono (Kd.R_far (p := ⟨gb124, 2, none⟩) (Kd.R_far (p := ⟨gb124, 1, none⟩) (Kd.R_far (p := ⟨gb124, 0, none⟩) (Kd.rT9 HO120.out BK124.out (by decide)) (fun _ hk => hk.2) (.bool t117)) (fun _ hk => hk.2) (.slice Ao36 t118.length co36)) (fun _ hk => hk.2) (.slice Ao37 t121.length co37)) (fun _ h_ => h_.1)))); (case side2 => exact (Kd.rR9 HO120.out).2.1); (case side3 => exact Kd.cB9 HR0_1.out (by repeat (first | (with_reducible first | exact HB.out | apply bA9 | apply bN9 | apply bD9 | refine bS9 ?_ GE116.out | refine bS9 ?_ GE124.out) | exact HB.out))); (case side4 => exact HC0_1.out); rintro e w39 ⟨rfl, hb⟩; have n0_ := Aside0.mk (Kd.rB9 (by (with_reducible repeat (first | apply Kd.rA9 | apply Kd.rN9 | apply Kd.rD9)); exact (Kd.R_mono (Kd.R_far (p := ⟨gb124, 2, none⟩) (Kd.R_far (p := ⟨gb124, 1, none⟩) (Kd.R_far (p := ⟨gb124, 0, none⟩) (Kd.rT9 HO120.out BK124.out (by decide)) (fun _ hk => hk.2) (.bool t117)) (fun _ hk => hk.2) (.slice Ao36 t118.length co36)) (fun _ hk => hk.2) (.slice Ao37 t121.length co37)) (fun _ h_ => h_.1))) hb); have n1_ := Aside0.mk (Kd.rB9 (by (with_reducible repeat (first | apply Kd.rA9 | apply Kd.rN9 | apply Kd.rD9)); exact (Kd.R_mono (Kd.R_far (p := ⟨gb124, 2, none⟩) (Kd.R_far (p := ⟨gb124, 1, none⟩) (Kd.R_far (p := ⟨gb124, 0, none⟩) (Kd.rT9 HO123.out BK124.out (by decide)) (fun _ hk => hk.2) (.bool t117)) (fun _ hk => hk.2) (.slice Ao36 t118.length co36)) (fun _ hk => hk.2) (.slice Ao37 t121.length co37)) (fun _ h_ => h_.1))) hb); have n2_ := Aside0.mk (kB9 (g := gb116) (o := .cells #[.bool a0_0, .slice A0_1 l0_1.length c0_1, .slice A0_2 l0_2.length c0_2] 35 (0, 0)) (by (with_reducible repeat (first | refine kN9 ?_ _ | refine kD9 ?_ | refine kA9 ?_ _)); refine blk_far ?_ NB116_124.out _; (with_reducible repeat (first | refine kN9 ?_ _ | refine kD9 ?_ | refine kA9 ?_ _)); refine blk_far ?_ NB116_124.out _; (with_reducible repeat (first | refine kN9 ?_ _ | refine kD9 ?_ | refine kA9 ?_ _)); refine blk_far ?_ NB116_124.out _; (with_reducible repeat (first | refine kN9 ?_ _ | refine kD9 ?_ | refine kA9 ?_ _)); exact BK116.out) hb); have n3_ := Aside0.mk (kB9 (g := gb124) (o := .cells #[.bool t117, .slice Ao36 t118.length co36, .slice Ao37 t121.length co37] 35 (0, 0)) (by (with_reducible repeat (first | refine kN9 ?_ _ | refine kD9 ?_ | refine kA9 ?_ _)); refine kP9 (cs := #[.bool t117, .slice Ao36 t118.length co36, .slice none 0 0]) ?_ 2 _ rfl; (with_reducible repeat (first | refine kN9 ?_ _ | refine kD9 ?_ | refine kA9 ?_ _)); refine kP9 (cs := #[.bool t117, .slice none 0 0, .slice none 0 0]) ?_ 1 _ rfl; (with_reducible repeat (first | refine kN9 ?_ _ | refine kD9 ?_ | refine kA9 ?_ _)); refine kP9 (cs := #[.bool false, .slice none 0 0, .slice none 0 0]) ?_ 0 _ rfl; (with_reducible repeat (first | refine kN9 ?_ _ | refine kD9 ?_ | refine kA9 ?_ _)); exact BK124.out) hb); have n4_ := Aside0.mk (bT9 (by repeat (first | (with_reducible first | exact HB.out | apply bA9 | apply bN9 | apply bD9 | refine bS9 ?_ GE116.out | refine bS9 ?_ GE124.out) | exact HB.out)) hb); clear HO120; clear HO123; clear BK116; clear BK124; clear HB; have HO120 := n0_; have HO123 := n1_; have BK116 := n2_; have BK124 := n3_; have HB := n4_; clear n0_ n1_ n2_ n3_ n4_; (try clear hb); (try clear hb2); (try clear hk); (try clear hi); have hcz40_0 : w39.cell? ⟨gb124, 0, none⟩ = some (.bool t117) := (kC9 BK124.out 0).trans rfl; have hcz40_1 : w39.cell? ⟨gb124, 1, none⟩ = some (.slice Ao36 t118.length co36) := (kC9 BK124.out 1).trans rfl; have hcz40_2 : w39.cell? ⟨gb124, 2, none⟩ = some (.slice Ao37 t121.length co37) := (kC9 BK124.out 2).trans rfl; have hfz40_0 := kF9 BK124.out 0; have hfz40_1 := kF9 BK124.out 1; have hfz40_2 := kF9 BK124.out 2; have hcz41_0 : w39.cell? ⟨gb116, 0, none⟩ = some (.bool a0_0) := (kC9 BK116.out 0).trans rfl; have hcz41_1 : w39.cell? ⟨gb116, 1, none⟩ = some (.slice A0_1 l0_1.length c0_1) := (kC9 BK116.out 1).trans rfl; have hcz41_2 : w39.cell? ⟨gb116, 2, none⟩ = some (.slice A0_2 l0_2.length c0_2) := (kC9 BK116.out 2).trans rfl; have hfz41_0 := kF9 BK116.out 0; have hfz41_1 := kF9 BK116.out 1; have hfz41_2 := kF9 BK116.out 2) | (go_at_call 72; (with_reducible refine (rat_limbs.calls _ _ t121 _ _ l0_2 false _ ?side1 ?side2 ?side3 ?side4 A15.out).mono ?_); (case side1 => repeat (first | exact (Kd.rR9 HO123.out).2.2 | (with_reducible refine Kd.cA9 ?_ _) | (with_reducible refine Kd.cN9 ?_ _) | (with_reducible refine Kd.cD9 ?_))); (case side2 => exact (Kd.rR9 HO123.out).2.1); (case side3 => repeat (first | exact (Kd.cB9 HR0_2.out HB.out) | (with_reducible refine Kd.cA9 ?_ _) | (with_reducible refine Kd.cN9 ?_ _) | (with_reducible refine Kd.cD9 ?_))); (case side4 => exact HC0_2.out); rintro e w42 ⟨rfl, hb⟩; have n0_ := Aside0.mk (Kd.rB9 (by (with_reducible repeat (first | apply Kd.rA9 | apply Kd.rN9 | apply Kd.rD9)); exact HO120.out) hb); have n1_ := Aside0.mk (Kd.rB9 (by (with_reducible repeat (first | apply Kd.rA9 | apply Kd.rN9 | apply Kd.rD9)); exact HO123.out) hb); have n2_ := Aside0.mk (kB9 (g := gb116) (o := .cells #[.bool a0_0, .slice A0_1 l0_1.length c0_1, .slice A0_2 l0_2.length c0_2] 35 (0, 0)) (by (with_reducible repeat (first | refine kN9 ?_ _ | refine kD9 ?_ | refine kA9 ?_ _)); exact BK116.out) hb); have n3_ := Aside0.mk (kB9 (g := gb124) (o := .cells #[.bool t117, .slice Ao36 t118.length co36, .slice Ao37 t121.length co37] 35 (0, 0)) (by (with_reducible repeat (first | refine kN9 ?_ _ | refine kD9 ?_ | refine kA9 ?_ _)); exact BK124.out) hb); have n4_ := Aside0.mk (bT9 (by repeat (first | (with_reducible first | exact HB.out | apply bA9 | apply bN9 | apply bD9 | refine bS9 ?_ GE116.out | refine bS9 ?_ GE124.out) | exact HB.out)) hb); clear HO120; clear HO123; clear BK116; clear BK124; clear HB; have HO120 := n0_; have HO123 := n1_; have BK116 := n2_; have BK124 := n3_; have HB := n4_; clear n0_ n1_ n2_ n3_ n4_; (try clear hb); (try clear hb2); (try clear hk); (try clear hi)))
    go_ret
    exact ⟨by first | rfl | (simp [eN9, eS9] <;> rfl) | (simp [*, eN9, eS9] <;> rfl), by repeat (first | (with_reducible first | exact HB.out | apply bA9 | apply bN9 | apply bD9 | refine bS9 ?_ GE116.out | refine bS9 ?_ GE124.out) | exact HB.out)⟩
  ·replace c14 := Bool.eq_false_iff.mpr c14
   subst c14
   have H1 : (some 6) = some r := by rw [if_neg (show ¬ (false = true) by decide)] at H; exact H
   clear H
   have H := H1
   clear H1
   obtain rfl := Option.some.inj H
   go_enter Tryz.func43, Tryz.ntmps43
   go_wp2_with (first | ((with_reducible refine gD9 (N := 1) rfl ?_); refine bE9 ?hg (N := 1) ?hd (cs := #[.bool a0_0, .slice A0_1 l0_1.length c0_1, .slice A0_2 l0_2.length c0_2]) (t := 35) ?hr ?_; (case hd => rfl); (case hg => rfl); (case hr => first | (go_simp; done) | (go_simp; rfl)); intro gb116 hg w43 hbox hb; have n0_ := Aside0.mk (bT9 (by repeat (first | (with_reducible first | exact HB.out | apply bA9 | apply bN9 | apply bD9) | exact HB.out)) hb); have n1_ := Aside0.mk (hbox); have n2_ := Aside0.mk ((by rw [hg]; exact (bZ9 (by repeat (first | (with_reducible first | exact HB.out | apply bA9 | apply bN9 | apply bD9) | exact HB.out))) : w.heap.size ≤ gb116)); have n3_ := Aside0.mk ((by rw [hg]; exact (bZ9 (by repeat (first | (with_reducible first | exact HB.out | apply bA9 | apply bN9 | apply bD9) | exact HB.out))) : w.heap.size ≤ gb116)); clear HB; have HB := n0_; have BK116 := n1_; have GW116 := n2_; have GE116 := n3_; clear n0_ n1_ n2_ n3_; clear hb hbox hg; have hcz44_0 : w43.cell? ⟨gb116, 0, none⟩ = some (.bool a0_0) := (kC9 BK116.out 0).trans rfl; have hcz44_1 : w43.cell? ⟨gb116, 1, none⟩ = some (.slice A0_1 l0_1.length c0_1) := (kC9 BK116.out 1).trans rfl; have hcz44_2 : w43.cell? ⟨gb116, 2, none⟩ = some (.slice A0_2 l0_2.length c0_2) := (kC9 BK116.out 2).trans rfl; have hfz44_0 := kF9 BK116.out 0; have hfz44_1 := kF9 BK116.out 1; have hfz44_2 := kF9 BK116.out 2) | ((with_reducible refine gC9 (f := 39) rfl ?_); refine goesL_ (some 5) rfl rfl Tryz.func39 (by kernel_rfl) rfl #[.agg #[.bool a0_0, .slice A0_1 l0_1.length c0_1, .slice A0_2 l0_2.length c0_2]] rfl (by (try simp only [List.map_toArray, List.map_cons, List.map_nil]); first | done | rfl | (simp only [List.length_drop, List.length_take]; rfl)) ?_; (with_reducible refine (rat_Norm.calls a0_0 _ _ l0_1 _ _ l0_2 t117 t118 t121 _ ?side1 ?side2 ?side3 ?side4 A2.out).mono ?_); (case side1 => repeat (first | exact (Kd.cB9 HR0_1.out HB.out) | (with_reducible refine Kd.cA9 ?_ _) | (with_reducible refine Kd.cN9 ?_ _) | (with_reducible refine Kd.cD9 ?_))); (case side2 => exact HC0_1.out); (case side3 => repeat (first | exact (Kd.cB9 HR0_2.out HB.out) | (with_reducible refine Kd.cA9 ?_ _) | (with_reducible refine Kd.cN9 ?_ _) | (with_reducible refine Kd.cD9 ?_))); (case side4 => exact HC0_2.out); rintro e w45 ⟨v119, v122, rfl, ho0, ho1, hb⟩; refine ⟨_, rfl, ?_⟩; have n0_ := Aside0.mk (Kd.rL9 ho0 (bZ9 (by repeat (first | (with_reducible first | exact HB.out | apply bA9 | apply bN9 | apply bD9 | refine bS9 ?_ GE116.out) | exact HB.out)))); have n1_ := Aside0.mk (Kd.rL9 ho1 (bZ9 (by repeat (first | (with_reducible first | exact HB.out | apply bA9 | apply bN9 | apply bD9 | refine bS9 ?_ GE116.out) | exact HB.out)))); have n2_ := Aside0.mk (kB9 (g := gb116) (o := .cells #[.bool a0_0, .slice A0_1 l0_1.length c0_1, .slice A0_2 l0_2.length c0_2] 35 (0, 0)) (by (with_reducible repeat (first | refine kN9 ?_ _ | refine kD9 ?_ | refine kA9 ?_ _)); exact BK116.out) hb); have n3_ := Aside0.mk (bT9 (by repeat (first | (with_reducible first | exact HB.out | apply bA9 | apply bN9 | apply bD9 | refine bS9 ?_ GE116.out) | exact HB.out)) hb); clear BK116; clear HB; have HO120 := n0_; have HO123 := n1_; have BK116 := n2_; have HB := n3_; clear n0_ n1_ n2_ n3_; (try clear hb); (try clear hb2); (try clear hk); (try clear hi); (try clear ho0); (try clear ho1)) | ((with_reducible refine gD9 (N := 3) rfl ?_); refine bE9 ?hg (N := 3) ?hd (cs := #[.bool false, .slice none 0 0, .slice none 0 0]) (t := 35) ?hr ?_; (case hd => rfl); (case hg => rfl); (case hr => first | (go_simp; done) | (go_simp; rfl)); intro gb124 hg w46 hbox hb; have n0_ := Aside0.mk (Kd.rB9 (by (with_reducible repeat (first | apply Kd.rA9 | apply Kd.rN9 | apply Kd.rD9)); exact HO120.out) hb); have n1_ := Aside0.mk (Kd.rB9 (by (with_reducible repeat (first | apply Kd.rA9 | apply Kd.rN9 | apply Kd.rD9)); exact HO123.out) hb); have n2_ := Aside0.mk (kB9 (g := gb116) (o := .cells #[.bool a0_0, .slice A0_1 l0_1.length c0_1, .slice A0_2 l0_2.length c0_2] 35 (0, 0)) (by (with_reducible repeat (first | refine kN9 ?_ _ | refine kD9 ?_ | refine kA9 ?_ _)); exact BK116.out) hb); have n3_ := Aside0.mk (bT9 (by repeat (first | (with_reducible first | exact HB.out | apply bA9 | apply bN9 | apply bD9 | refine bS9 ?_ GE116.out) | exact HB.out)) hb); have n4_ := Aside0.mk (hbox); have n5_ := Aside0.mk ((by rw [hg]; exact (bZ9 (by repeat (first | (with_reducible first | exact HB.out | apply bA9 | apply bN9 | apply bD9 | refine bS9 ?_ GE116.out) | exact HB.out))) : w.heap.size ≤ gb124)); have n6_ := Aside0.mk ((by rw [hg]; exact (bZ9 (by repeat (first | (with_reducible first | exact HB.out | apply bA9 | apply bN9 | apply bD9 | refine bS9 ?_ GE116.out) | exact HB.out))) : w.heap.size ≤ gb124)); have n7_ := Aside0.mk ((by rw [hg]; exact Nat.ne_of_lt (blk_lt (g := gb116) (o := .cells #[.bool a0_0, .slice A0_1 l0_1.length c0_1, .slice A0_2 l0_2.length c0_2] 35 (0, 0)) (by (with_reducible repeat (first | refine kN9 ?_ _ | refine kD9 ?_ | refine kA9 ?_ _)); exact BK116.out)) : gb116 ≠ gb124)); have n8_ := Aside0.mk ((by rw [hg]; exact Nat.ne_of_gt (blk_lt (g := gb116) (o := .cells #[.bool a0_0, .slice A0_1 l0_1.length c0_1, .slice A0_2 l0_2.length c0_2] 35 (0, 0)) (by (with_reducible repeat (first | refine kN9 ?_ _ | refine kD9 ?_ | refine kA9 ?_ _)); exact BK116.out)) : gb124 ≠ gb116)); clear HO120; clear HO123; clear BK116; clear HB; have HO120 := n0_; have HO123 := n1_; have BK116 := n2_; have HB := n3_; have BK124 := n4_; have GW124 := n5_; have GE124 := n6_; have NB116_124 := n7_; have NB124_116 := n8_; clear n0_ n1_ n2_ n3_ n4_ n5_ n6_ n7_ n8_; clear hb hbox hg; have hnb47 := NB124_116.out; have hnc47 := NB116_124.out; have hcz48_0 : w46.cell? ⟨gb124, 0, none⟩ = some (.bool false) := (kC9 BK124.out 0).trans rfl; have hcz48_1 : w46.cell? ⟨gb124, 1, none⟩ = some (.slice none 0 0) := (kC9 BK124.out 1).trans rfl; have hcz48_2 : w46.cell? ⟨gb124, 2, none⟩ = some (.slice none 0 0) := (kC9 BK124.out 2).trans rfl; have hfz48_0 := kF9 BK124.out 0; have hfz48_1 := kF9 BK124.out 1; have hfz48_2 := kF9 BK124.out 2; obtain ⟨Ao49, co49, eo49⟩ := Kd.rS9 HO120.out; subst eo49; obtain ⟨Ao50, co50, eo50⟩ := Kd.rS9 HO123.out; subst eo50; have hcz51_0 : w46.cell? ⟨gb116, 0, none⟩ = some (.bool a0_0) := (kC9 BK116.out 0).trans rfl; have hcz51_1 : w46.cell? ⟨gb116, 1, none⟩ = some (.slice A0_1 l0_1.length c0_1) := (kC9 BK116.out 1).trans rfl; have hcz51_2 : w46.cell? ⟨gb116, 2, none⟩ = some (.slice A0_2 l0_2.length c0_2) := (kC9 BK116.out 2).trans rfl; have hfz51_0 := kF9 BK116.out 0; have hfz51_1 := kF9 BK116.out 1; have hfz51_2 := kF9 BK116.out 2) | (go_at_call 72; (with_reducible refine (rat_limbs.calls _ _ t118 _ _ l0_1 false _ ?side1 ?side2 ?side3 ?side4 A13.out).mono ?_); (case side1 => refine (Kd.rR9 (e := 56) (base := w.heap.size) (ok := fun k_ => some k_ ≠ (.slice Ao50 t121.length co50 : Value).ownBlock) (n := t118.length) (c := co49) ?_).2.2; exact (by (with_reducible repeat (first | apply Kd.rA9 | apply Kd.rN9 | apply Kd.rD9)); exact (Kd.R_mono (Kd.R_far (p := ⟨gb124, 2, none⟩) (Kd.R_far (p := ⟨gb124, 1, none⟩) (Kd.R_far (p := ⟨gb124, 0, none⟩) (Kd.rT9 HO120.out BK124.out (by decide)) (fun _ hk => hk.2) (.bool t117)) (fun _ hk => hk.2) (.slice Ao49 t118.length co49)) (fun _ hk => hk.2) (.slice Ao50 t121.length co50)) (fun _ h_ => h_.1)))); (case side2 => exact (Kd.rR9 HO120.out).2.1); (case side3 => exact Kd.cB9 HR0_1.out (by repeat (first | (with_reducible first | exact HB.out | apply bA9 | apply bN9 | apply bD9 | refine bS9 ?_ GE116.out | refine bS9 ?_ GE124.out) | exact HB.out))); (case side4 => exact HC0_1.out); rintro e w52 ⟨rfl, hb⟩; have n0_ := Aside0.mk (Kd.rB9 (by (with_reducible repeat (first | apply Kd.rA9 | apply Kd.rN9 | apply Kd.rD9)); exact (Kd.R_mono (Kd.R_far (p := ⟨gb124, 2, none⟩) (Kd.R_far (p := ⟨gb124, 1, none⟩) (Kd.R_far (p := ⟨gb124, 0, none⟩) (Kd.rT9 HO120.out BK124.out (by decide)) (fun _ hk => hk.2) (.bool t117)) (fun _ hk => hk.2) (.slice Ao49 t118.length co49)) (fun _ hk => hk.2) (.slice Ao50 t121.length co50)) (fun _ h_ => h_.1))) hb); have n1_ := Aside0.mk (Kd.rB9 (by (with_reducible repeat (first | apply Kd.rA9 | apply Kd.rN9 | apply Kd.rD9)); exact (Kd.R_mono (Kd.R_far (p := ⟨gb124, 2, none⟩) (Kd.R_far (p := ⟨gb124, 1, none⟩) (Kd.R_far (p := ⟨gb124, 0, none⟩) (Kd.rT9 HO123.out BK124.out (by decide)) (fun _ hk => hk.2) (.bool t117)) (fun _ hk => hk.2) (.slice Ao49 t118.length co49)) (fun _ hk => hk.2) (.slice Ao50 t121.length co50)) (fun _ h_ => h_.1))) hb); have n2_ := Aside0.mk (kB9 (g := gb116) (o := .cells #[.bool a0_0, .slice A0_1 l0_1.length c0_1, .slice A0_2 l0_2.length c0_2] 35 (0, 0)) (by (with_reducible repeat (first | refine kN9 ?_ _ | refine kD9 ?_ | refine kA9 ?_ _)); refine blk_far ?_ NB116_124.out _; (with_reducible repeat (first | refine kN9 ?_ _ | refine kD9 ?_ | refine kA9 ?_ _)); refine blk_far ?_ NB116_124.out _; (with_reducible repeat (first | refine kN9 ?_ _ | refine kD9 ?_ | refine kA9 ?_ _)); refine blk_far ?_ NB116_124.out _; (with_reducible repeat (first | refine kN9 ?_ _ | refine kD9 ?_ | refine kA9 ?_ _)); exact BK116.out) hb); have n3_ := Aside0.mk (kB9 (g := gb124) (o := .cells #[.bool t117, .slice Ao49 t118.length co49, .slice Ao50 t121.length co50] 35 (0, 0)) (by (with_reducible repeat (first | refine kN9 ?_ _ | refine kD9 ?_ | refine kA9 ?_ _)); refine kP9 (cs := #[.bool t117, .slice Ao49 t118.length co49, .slice none 0 0]) ?_ 2 _ rfl; (with_reducible repeat (first | refine kN9 ?_ _ | refine kD9 ?_ | refine kA9 ?_ _)); refine kP9 (cs := #[.bool t117, .slice none 0 0, .slice none 0 0]) ?_ 1 _ rfl; (with_reducible repeat (first | refine kN9 ?_ _ | refine kD9 ?_ | refine kA9 ?_ _)); refine kP9 (cs := #[.bool false, .slice none 0 0, .slice none 0 0]) ?_ 0 _ rfl; (with_reducible repeat (first | refine kN9 ?_ _ | refine kD9 ?_ | refine kA9 ?_ _)); exact BK124.out) hb); have n4_ := Aside0.mk (bT9 (by repeat (first | (with_reducible first | exact HB.out | apply bA9 | apply bN9 | apply bD9 | refine bS9 ?_ GE116.out | refine bS9 ?_ GE124.out) | exact HB.out)) hb); clear HO120; clear HO123; clear BK116; clear BK124; clear HB; have HO120 := n0_; have HO123 := n1_; have BK116 := n2_; have BK124 := n3_; have HB := n4_; clear n0_ n1_ n2_ n3_ n4_; (try clear hb); (try clear hb2); (try clear hk); (try clear hi)))
   go_ret
   exact ⟨by first | rfl | (simp [eN9, eS9] <;> rfl) | (simp [*, eN9, eS9] <;> rfl), by repeat (first | (with_reducible first | exact HB.out | apply bA9 | apply bN9 | apply bD9 | refine bS9 ?_ GE116.out | refine bS9 ?_ GE124.out) | exact HB.out)⟩
end Go.Proofs.YthppjdmkinbccaaGreatDoor.Print

namespace Go.Proofs.YthppjdmkinbccaaGreatDoor.Print
open Go.RowKit Go.Shelf Go.Proofs.YthppjdmkinbccaaGreatDoorW.PrintWords Go.Proofs.YthppjdmkinbccaaGreatDoorW.PrintLast Go.Proofs.YthppjdmkinbccaaGreatDoorW.PrintMore Go.Proofs.YthppjdmkinbccaaGreatDoor.Base
attribute [local go_sem] Oper.semAt_some
set_option linter.unusedVariables false
def rearL (n : Nat) : List (Fin n) := (List.finRange n).reverse
theorem rearL_length (n : Nat) : (rearL n).length = n := by simp [rearL]
theorem rearL_take (n j : Nat) (h : j < n) : (rearL n).take (n - j) = (rearL n).take (n - 1 - j) ++ [⟨j, h⟩] := by
  rw [show n - j = n - 1 - j + 1 by omega, List.take_succ_eq_append_getElem (by rw [rearL_length]; omega)]
  congr 2
  apply Fin.ext
  simp [rearL]
  omega
def RearKeeps (n₀ Bs : Nat) (W W' : World) : Prop := Below n₀ W W' ∧ ∀ v, Boxed W Bs 22 v → Boxed W' Bs 22 v
theorem RearKeeps.refl (n₀ Bs : Nat) (W : World) : RearKeeps n₀ Bs W W := ⟨Below.refl _ _, fun _ h => h⟩
theorem RearKeeps.trans {n₀ Bs : Nat} {A B C : World} (h : RearKeeps n₀ Bs A B) (k : RearKeeps n₀ Bs B C) : RearKeeps n₀ Bs A C := ⟨h.1.trans k.1, fun v hv => k.2 v (h.2 v hv)⟩
theorem rearKeeps_b {n₀ Bs : Nat} {w : World} (hn : n₀ ≤ w.heap.size) (W : World) (l : Nat) (o o' : Obj) (hl : w.heap.size ≤ l) (h : W.heap[l]? = some o) (hc : o.isCells = false) (hk : o.isWalk = false) : RearKeeps n₀ Bs W (W.putObj l o') :=
  ⟨belowK_b hn W l o o' hl h hc hk, fun v hv => hv.kept (grownBy_putObj' W l o') (fun e => by
    obtain rfl : Bs = l := by simpa using e
    rw [show W.heap[Bs]? = _ from hv] at h; cases h; cases hc)⟩
set_option maxRecDepth 100000 in
set_option maxHeartbeats 2000000 in
theorem rear1_in (F : Fence) (n : Nat) (h7 : F.fn 75) (hro : F.round = none) (hn : 1 ≤ n) (l Bs : Nat) (A : Option Addr) (c : Nat) (xs : List Int) (w0 : World) (hr : Kd.C (Kd.int .u32) w0 A xs.length xs) (J Jx : List (Fin xs.length) → World → Prop)
    (hY : ∀ (pre : List (Fin xs.length)) (x : Fin xs.length) (W : World), J pre W → pre.length < xs.length → YieldAt F (n - 1) Tryz.prog l #[.int .i64 (x.1 : Int), .int .u32 (rd xs (x.1 : Int))] W fun e W' =>
      (e = .returned (.bool true) ∧ J (pre ++ [x]) W' ∧ RearKeeps w0.heap.size Bs W W') ∨ (e = .returned (.bool false) ∧ Jx (pre ++ [x]) W'))
    (W : World) (hB : Below w0.heap.size w0 W) (hBs : Boxed W Bs 22 (.slice A xs.length c)) (h0 : J [] W) :
    CallsIn F n Tryz.prog 75 #[.func (.yield l) #[] #[], .pointer (some ⟨Bs, 0, none⟩)] W fun e W' => (∃ v, e = .returned v) ∧
      ((∃ ys, ys = rearL xs.length ∧ J ys W') ∨ (∃ pre, True ∧ Jx pre W')) := by
  have hmax : xs.length ≤ 9223372036854775807 := Kd.C_max hr
  refine callsIn_of_wp Tryz.func75 rfl h7 ?_ hro
  simp only [Tryz.ntmps75, List.size_toArray, List.length_cons, List.length_nil, Nat.reduceAdd, Nat.reduceSub, Array.replicate_succ, Array.replicate_zero, List.push_toArray, List.append_toArray, List.nil_append, List.cons_append]
  have hc0 := hBs.cell
  gi_wp2
  gi_loopw [3] (fun v wr => ∃ i : Int, -1 ≤ i ∧ i < xs.length ∧ v = .int .i64 i ∧ J ((rearL xs.length).take (((xs.length : Int) - 1 - i).toNat)) wr ∧ RearKeeps w0.heap.size Bs W wr)
    (fun v _ => ((intOf v) + 1).toNat)
  case atStart => exact ⟨(xs.length : Int) - 1, by omega, by omega, rfl, by rw [show ((xs.length : Int) - 1 - ((xs.length : Int) - 1)).toNat = 0 by omega]; exact h0, RearKeeps.refl _ _ _⟩
  case round =>
    obtain ⟨i, hi0, hi1, rfl, hJs, hkp⟩ := hrel
    by_cases hlt : 0 ≤ i
    · have hbx := (hkp.2 _ hBs).cell
      obtain ⟨ad, hA, hcell⟩ := Kd.at_int (Kd.cB9 hr (hB.trans hkp.1)) i hlt hi1
      obtain ⟨j, rfl⟩ : ∃ j : Nat, i = j := ⟨i.toNat, by omega⟩
      have hj : j < xs.length := by omega
      obtain ⟨fn, tmps, assign, body, hy, hR⟩ := hY _ (⟨j, hj⟩ : Fin xs.length) wr hJs (by rw [List.length_take, rearL_length]; omega)
      dsimp only at hy
      cases hA
      rw [Int.toNat_natCast] at hcell
      gi_wp2
      refine hR.mono ?_
      rintro e W3 (⟨rfl, hJ3, hk3⟩ | ⟨rfl, hJx3⟩)
      · gi_wp2
        go_roundw
        case rel => exact ⟨(j : Int) - 1, by omega, by omega, rfl, by rw [show ((xs.length : Int) - 1 - ((j : Int) - 1)).toNat = xs.length - j by omega, rearL_take _ _ hj]; rw [show ((xs.length : Int) - 1 - (j : Int)).toNat = xs.length - 1 - j by omega] at hJ3; exact hJ3, hkp.trans hk3⟩
        case measure => simp [intOf]
      · gi_wp2
        refine bodyPost_ret (results_none rfl _ _ _) rfl ?_
        exact ⟨⟨_, rfl⟩, .inr ⟨_, trivial, hJx3⟩⟩
    · obtain rfl : i = -1 := by omega
      have hd : decide ((0 : Int) ≤ -1) = false := by decide
      gi_wp2
      go_end0
      rw [show ((xs.length : Int) - 1 - (-1)).toNat = xs.length by omega, List.take_of_length_le (by rw [rearL_length]; omega)] at hJs
      exact ⟨⟨_, rfl⟩, .inl hJs⟩
set_option maxHeartbeats 1000000 in
theorem rear_in (F : Fence) (n : Nat) (h5 : F.fn 47) (hro : F.round = none) (a : Option Addr) (len cap : Nat) (w : World) :
    CallsIn F n Tryz.prog 47 #[.slice a len cap] w fun e w' => e = .returned (.func (.func 75) #[] #[.pointer (some ⟨w.heap.size, 0, none⟩)]) ∧ w' = w.alloc (.cells #[.slice a len cap] 22) := by
  refine callsIn_of_wp Tryz.func47 rfl h5 ?_ hro
  simp only [Tryz.ntmps47, List.size_toArray, List.length_cons, List.length_nil, Nat.reduceAdd, Nat.reduceSub, Array.replicate_succ, Array.replicate_zero, List.push_toArray, List.append_toArray, List.nil_append, List.cons_append]
  gi_wp2
  go_ret
  exact ⟨rfl, rfl⟩
theorem rear_stops (F : Fence) (n : Nat) (h7 : F.fn 75) (hro : F.round = none) (hn : 1 ≤ n) (Bs : Nat) (A : Option Addr) (c : Nat) (xs : List Int) (w0 w : World) (hr : Kd.C (Kd.int .u32) w0 A xs.length xs) (h0 : Below w0.heap.size w0 w) (hBs : Boxed w Bs 22 (.slice A xs.length c)) :
    SeqStopsK F n Tryz.prog 75 #[.pointer (some ⟨Bs, 0, none⟩)] (fun x : Fin xs.length => #[Value.int .i64 (x.1 : Int), Value.int .u32 (rd xs (x.1 : Int))]) (RearKeeps w0.heap.size Bs) (fun ys => ys = rearL xs.length) (fun _ => True) xs.length w := fun l J Jx W hW _ _ hY hj => by
  have hb : Boxed W Bs 22 (.slice A xs.length c) := (hW.block Bs hBs.lt).trans hBs
  exact rear1_in F n h7 hro hn l Bs A c xs w0 hr J Jx hY W (h0.trans (hW.mono h0.size)) hb hj
def grp1 (xs : List Int) (x : Fin xs.length) : List UInt8 :=
  if x.1 < xs.length - 1 then List.replicate (9 - (Lib.decDigits (rd xs (x.1 : Int)).toNat).length) 48 ++ Lib.decDigits (rd xs (x.1 : Int)).toNat else Lib.decDigits (rd xs (x.1 : Int)).toNat
def grps (xs : List Int) (pre : List (Fin xs.length)) : List UInt8 := (pre.map (grp1 xs)).flatten
theorem grps_snoc (xs : List Int) (pre : List (Fin xs.length)) (x : Fin xs.length) : grps xs (pre ++ [x]) = grps xs pre ++ grp1 xs x := by simp [grps]
theorem rd_fin (xs : List Int) (x : Fin xs.length) : rd xs (x.1 : Int) = xs[x.1] := by simp [rd, x.2]
theorem rd_dig {B : Nat} {xs : List Int} (h : DigB B xs) (x : Fin xs.length) : 0 ≤ rd xs (x.1 : Int) ∧ rd xs (x.1 : Int) < (B : Int) := by
  rw [rd_fin]
  exact h _ (List.getElem_mem x.2)
theorem dec9 {p : Nat} (h : p < 1000000000) : (Lib.decDigits p).length ≤ 9 ∧ padD 9 p = List.replicate (9 - (Lib.decDigits p).length) 48 ++ Lib.decDigits p := padD_dec 8 p h
theorem grp1_len {xs : List Int} (h : DigB 1000000000 xs) (x : Fin xs.length) : (grp1 xs x).length ≤ 9 := by
  have hx := rd_dig h x
  have := (dec9 (p := (rd xs (x.1 : Int)).toNat) (by omega)).1
  unfold grp1
  split
  · simp; omega
  · exact this
theorem grps_len {xs : List Int} (h : DigB 1000000000 xs) : ∀ pre : List (Fin xs.length), (grps xs pre).length ≤ 9 * pre.length
  | [] => by simp [grps]
  | x :: r => by
    have := grps_len h r
    have := grp1_len h x
    simp only [grps, List.map_cons, List.flatten_cons, List.length_append, List.length_cons] at *
    omega
theorem drop_rd (xs : List Int) (j : Nat) (h : j < xs.length) : xs.drop j = rd xs (j : Int) :: xs.drop (j + 1) := by
  rw [List.drop_eq_getElem_cons h, ← rd_fin xs ⟨j, h⟩]
theorem grps_rear {xs : List Int} (h : GoodB 1000000000 xs) : ∀ k, 1 ≤ k → k ≤ xs.length → grps xs ((rearL xs.length).take k) = Lib.decDigits (valB 1000000000 (xs.drop (xs.length - k)))
  | 0, h0, _ => absurd h0 (by decide)
  | k + 1, _, hk => by
    have hj : xs.length - 1 - k < xs.length := by omega
    have e1 := rearL_take xs.length (xs.length - 1 - k) hj
    rw [show xs.length - (xs.length - 1 - k) = k + 1 by omega, show xs.length - 1 - (xs.length - 1 - k) = k by omega] at e1
    rw [e1, grps_snoc, show xs.length - (k + 1) = xs.length - 1 - k by omega, drop_rd xs _ hj, valB_cons]
    have hx := rd_dig h.1 ⟨xs.length - 1 - k, hj⟩
    simp only at hx
    obtain ⟨p, hp⟩ : ∃ p, (rd xs ((xs.length - 1 - k : Nat) : Int)).toNat = p := ⟨_, rfl⟩
    have hp9 : p < 1000000000 := by omega
    rcases Nat.eq_zero_or_pos k with e | e
    · subst e
      have : xs.drop (xs.length - 1 - 0 + 1) = [] := by apply List.drop_eq_nil_of_le; omega
      rw [this, valB_nil]
      simp only [grp1, hp, List.take_zero, grps, List.map_nil, List.flatten_nil, List.nil_append]
      rw [if_neg (by omega)]
      simp
    · have ih := grps_rear h k e (by omega)
      have hv : 0 < valB 1000000000 (xs.drop (xs.length - k)) := by
        rcases Nat.eq_zero_or_pos (valB 1000000000 (xs.drop (xs.length - k))) with z | z
        · have hg : GoodB 1000000000 (xs.drop (xs.length - k)) := ⟨fun d hd => h.1 d (List.mem_of_mem_drop hd), by
            rw [List.getLast?_drop]; rw [if_neg (by omega)]; exact h.2⟩
          have := congrArg List.length (hg.zero z)
          simp at this
          omega
        · exact z
      rw [ih, show xs.length - 1 - k + 1 = xs.length - k by omega, hp]
      have e2 := dec_pad 9 _ p hv hp9
      rw [(dec9 hp9).2] at e2
      rw [show p + 1000000000 * valB 1000000000 (xs.drop (xs.length - k)) = valB 1000000000 (xs.drop (xs.length - k)) * 10 ^ 9 + p by omega, e2]
      simp only [grp1, hp]
      rw [if_pos (by omega)]
theorem grps_all {v : Nat} (h : 0 < v) {xs : List Int} (hx : xs = digB 1000000000 v) : grps xs (rearL xs.length) = Lib.decDigits v := by
  have hg := digB_good 1000000000 (by decide) v
  have hv := digB_val 1000000000 (by decide) v
  rw [← hx] at hg hv
  have hl : 1 ≤ xs.length := by
    rcases Nat.eq_zero_or_pos xs.length with e | e
    · rw [List.eq_nil_of_length_eq_zero e, valB_nil] at hv; omega
    · exact e
  have e := grps_rear hg xs.length hl (Nat.le_refl _)
  rw [List.take_of_length_le (by rw [rearL_length]; omega), Nat.sub_self, List.drop_zero, hv] at e
  exact e
theorem digB_step {B : Nat} (hB : 2 ≤ B) {v : Nat} (h : 0 < v) : digB B v = ((v % B : Nat) : Int) :: digB B (v / B) := by
  have hg := digB_good B hB (v / B)
  have hv := digB_val B hB (v / B)
  have hm : v % B < B := Nat.mod_lt _ (by omega)
  refine GoodB.inj (digB_good B hB v) ⟨DigB.cons (by omega) (by omega) hg.1, ?_⟩ ?_
  · cases hd : digB B (v / B) with
    | nil =>
      rw [hd, valB_nil] at hv
      have : v < B := by
        rcases Nat.lt_or_ge v B with c | c
        · exact c
        · have := Nat.div_pos c (by omega); omega
      rw [Nat.mod_eq_of_lt this]
      simp; omega
    | cons d r => rw [List.getLast?_cons_cons]; rw [← hd]; exact hg.2
  · rw [digB_val B hB, valB_cons, hv, Int.toNat_natCast]
    have := Nat.mod_add_div v B
    omega
end Go.Proofs.YthppjdmkinbccaaGreatDoor.Print

namespace Go.Proofs
open Go.RowKit Go.Shelf
shelf_lay Lays.n283 Nm 283 at Tryz as Tryz.laySmall
shelf_lay LaysM.n284 Nm 284 at Tryz as Tryz.layNumDigits
shelf_lay Lays.n285 Nm 285 at Tryz as Tryz.layBase10
end Go.Proofs
namespace Go.Proofs.YthppjdmkinbccaaGreatDoor.Print
open Go.RowKit Go.Shelf Go.Sort Go.Lib Go.Proofs.YthppjdmkinbccaaGreatDoorW.PrintWords Go.Proofs.YthppjdmkinbccaaGreatDoorW.PrintLast Go.Proofs.YthppjdmkinbccaaGreatDoorW.PrintMore
set_option linter.unusedVariables false
set_option linter.unusedSimpArgs false
def PowTab (w : World) : Prop := Lib.TabIs Tryz.prog w "internal/strconv.uint64pow10" .u64 Lib.pow10Tab
theorem PowTab.below {w0 w : World} (h : PowTab w0) (hb : Below w0.heap.size w0 w) : PowTab w := by
  unfold PowTab Lib.TabIs World.var? at h ⊢
  obtain ⟨g, hg, h⟩ := Option.bind_eq_some_iff.1 h
  rw [hg, Option.bind_some]
  cases hw : w0.heap[g]? with
  | none => rw [hw] at h; cases h
  | some o =>
    have hlt := (Array.getElem?_eq_some_iff.1 hw).1
    rw [hb.block g hlt, hw]
    rw [hw] at h; exact h
theorem below_grow (B : Nat) (w : World) (os : Array Obj) (hB : B ≤ w.heap.size) : Below B w (Sort.grow w os) := by
  refine ⟨rfl, rfl, rfl, by simp [Sort.grow], fun j hj => ?_⟩
  simp only [Sort.grow]
  rw [Array.getElem?_append_left (by omega)]
def decB (u : Nat) : ByteArray := ⟨(Lib.decDigits u).toArray⟩
set_option maxHeartbeats 6400000 in
set_option maxRecDepth 100000 in
theorem formatUint_in (u : Nat) (hu64 : u < 18446744073709551616) (w : World) (htab : PowTab w) :
    Calls Tryz.prog 76 #[.int .u64 (u : Int), .int .i64 10] w fun e w' => e = .returned (.string (decB u)) ∧ Below w.heap.size w w' := by
  by_cases hs : u < 100
  · have hd : decide ((u : Int) < 100) = true := decide_eq_true (by omega)
    go_enter Tryz.func76, Tryz.ntmps76
    go_wp2_with (go_at_call 99; refine (Any.internal_strconv_small Tryz.laySmall u hs _).mono ?_; rintro e w' ⟨rfl, rfl⟩)
    go_ret
    exact ⟨rfl, Below.refl _ _⟩
  · have hd : decide ((u : Int) < 100) = false := decide_eq_false (by omega)
    have hu1 : 1 ≤ u := by omega
    have hnd20 : Lib.nDigits u ≤ 20 := by have := Lib.numDigits_eq u hu1 hu64; split at this <;> omega
    have hal : Tryz.prog.arrayLen 128 = 24 := by kernel_rfl
    have hsl1 : ∀ W, (Instr.sliceAt 128 (.pointer (some ⟨w.heap.size, 0, none⟩)) none (some (.int .i64 (Lib.nDigits u : Int))) none).run Tryz.prog W = .ok (.slice (some ⟨w.heap.size, 0, none⟩) (Lib.nDigits u) 24) W := fun W => by
      rw [run_sliceAt_array_h W 128 ⟨w.heap.size, 0, none⟩ (by kernel_rfl) .i64 (Lib.nDigits u : Int) (by omega) (by rw [hal]; omega)]
      go_simp
    have hH0 := Lib.holds_zero0 w 128 (Lib.nDigits u) (by omega)
    have hfmt := Any.internal_strconv_formatBase10 Tryz.layBase10 w.heap.size 0 24 u (Array.replicate (Lib.nDigits u) 0) (w.alloc (.cells Lib.zeros24 128)) hH0 (by rw [Array.size_replicate]; exact Lib.lt_pow_nDigits u) hu64 (by rw [Array.size_replicate]; omega)
    rw [Array.size_replicate] at hfmt
    have HH0 := Lib.hid hH0
    clear hH0 hal
    go_enter Tryz.func76, Tryz.ntmps76
    go_wp2_with (first | (go_at_call 100; refine (Any.internal_strconv_numDigits Tryz.layNumDigits u hu1 hu64 _ (Lib.tabIs_alloc htab _)).mono ?_; rintro e w' ⟨rfl, rfl⟩))
    go_at_call 101
    refine hfmt.mono ?_
    rintro e w' ⟨rfl, k, v', dk, rfl, hF⟩
    have hcv : (convert 77 9 (.slice (some ⟨w.heap.size, 0, none⟩) (Lib.nDigits u) 24)).run Tryz.prog ((putRow (fun (b : UInt8) => Value.int .u8 (b.toNat : Int)) (w.alloc (.cells Lib.zeros24 128)) w.heap.size 0 dk).drewN k) = .ok (.string ⟨(Lib.decDigits u).toArray⟩) ((putRow (fun (b : UInt8) => Value.int .u8 (b.toNat : Int)) (w.alloc (.cells Lib.zeros24 128)) w.heap.size 0 dk).drewN k) := by
      have h := run_convert_bytes_back (P := Tryz.prog) ((putRow (fun (b : UInt8) => Value.int .u8 (b.toNat : Int)) (w.alloc (.cells Lib.zeros24 128)) w.heap.size 0 dk).drewN k) 77 9 5 ⟨w.heap.size, 0, none⟩ 24 (Lib.decDigits u) Tryz.underlying77 Tryz.underlying5 Tryz.underlying9 (fun j hj => by
        rw [Lib.row_is_numeral hF j hj, Lib.add_plain, World.cell?_drewN]
        exact cell?_putRow (fun (b : UInt8) => Value.int .u8 (b.toNat : Int)) _ w.heap.size 0 _ dk HH0.out (by rw [hF.size, Array.size_replicate]) j (by rw [hF.size]; rw [Lib.decDigits_length] at hj; exact hj))
      rw [Lib.decDigits_length] at h
      exact h
    go_wp2
    go_ret
    obtain ⟨os, eo⟩ := Lib.fin_at w (.cells Lib.zeros24 128) dk k 0
    exact ⟨rfl, by rw [eo]; exact (bN9 (Below.refl _ _) k).trans (below_grow _ _ _ (by simp))⟩
def strconv_FormatUint.f (a0 a1 : Int) : Option ByteArray := if a1 = 10 ∧ 0 ≤ a0 ∧ a0 < 18446744073709551616 then some (decB a0.toNat) else none
theorem strconv_FormatUint.calls (a0 a1 : Int) (r : ByteArray) (w : World) (ht : PowTab w) (h : strconv_FormatUint.f a0 a1 = some r) :
    Calls Tryz.prog 48 #[.int .u64 a0, .int .i64 a1] w fun e w' => e = .returned (.string r) ∧ Below w.heap.size w w' := by
  unfold strconv_FormatUint.f at h
  by_cases ha : a1 = 10 ∧ 0 ≤ a0 ∧ a0 < 18446744073709551616
  · rw [if_pos ha] at h
    obtain rfl := Option.some.inj h
    obtain ⟨rfl, h0, h1⟩ := ha
    obtain ⟨u, rfl⟩ : ∃ u : Nat, a0 = u := ⟨a0.toNat, by omega⟩
    have hF := formatUint_in u (by omega) w ht
    go_enter Tryz.func48, Tryz.ntmps48
    go_wp2_with (go_at_call 76; refine hF.mono ?_; rintro e w' ⟨rfl, hb⟩)
    go_ret
    exact ⟨by rw [Int.toNat_natCast]; rfl, hb⟩
  · rw [if_neg ha] at h; cases h
end Go.Proofs.YthppjdmkinbccaaGreatDoor.Print

namespace Go.Proofs
open Go.RowKit Go.Shelf
shelf_lay Lays.n105 Nm 105 at Tryz as Tryz.layRep
set_option maxRecDepth 100000 in
theorem Tryz.extraRep : Builder.Extra Tryz.prog Tryz.layRep_ren where
  sizeBuilder := by kernel_rfl
  liesBuilder := by kernel_rfl
  t5 := Tryz.underlying5
  a5 := Tryz.isAgg5
  z5 := Tryz.sizeOf5
  v5 := Tryz.zeroValue5
  infoByte := by kernel_rfl
  cellsByte := by kernel_rfl
  sizeByte := by kernel_rfl
  neB5 := by decide
end Go.Proofs
namespace Go.Proofs.YthppjdmkinbccaaGreatDoor.Print
open Go.RowKit Go.Shelf Go.Proofs.YthppjdmkinbccaaGreatDoorW.PrintWords Go.Proofs.YthppjdmkinbccaaGreatDoorW.PrintLast Go.Proofs.YthppjdmkinbccaaGreatDoorW.PrintMore Go.Proofs.YthppjdmkinbccaaGreatDoor.Base
attribute [local go_sem] Oper.semAt_some
set_option linter.unusedVariables false
set_option linter.unusedSimpArgs false
theorem rowF_own {W W' : World} {row : Option Nat} {B : Nat} {e : TypeId} {size : Nat} {v : Value} {n : Nat} {bs : List Value} (h : W.ownsRowF B e size v n bs) (hg : W.grownBy W' row) (hr : ∀ r, row = some r → ∃ o : Obj, W.heap[r]? = some o ∧ o.isCells = false) : W'.ownsRowF B e size v n bs := by
  refine h.kept hg ?_
  rcases h.2 with ⟨rfl, _⟩ | ⟨g, cap, cur, fz, rfl, _, hc, _⟩
  · left; simp [Value.ownBlock]
  · right
    intro ek
    obtain ⟨o, ho, hc2⟩ := hr g (by rw [← ek]; simp [Value.ownBlock])
    rw [hc] at ho; cases ho; cases hc2
theorem builder_own (T e : TypeId) (B b : Nat) {β : Type} (bs : β → List Value) : Own (fun s W => Lib.IsBuilderF T e B b (bs s) W) := by
  have key : ∀ (s : β) (p : Value) (W W' : World) (row : Option Nat), Lib.BuilderAtF T e B b p (bs s) W → W.grownBy W' row → (∀ r, row = some r → ∃ o : Obj, W.heap[r]? = some o ∧ o.isCells = false) → Lib.BuilderAtF T e B b p (bs s) W' := by
    rintro s p W W' row ⟨h0, v, hb, hv, hn⟩ hg hr
    refine ⟨h0, v, ?_, rowF_own hv hg hr, hn⟩
    refine (hg.block b (Array.getElem?_eq_some_iff.1 hb).1 (fun ek => ?_)).trans hb
    obtain ⟨o, ho, hc2⟩ := hr b ek.symm
    rw [hb] at ho; cases ho; cases hc2
  intro s W W' row h hg hr
  rcases h with h | h
  · exact .inl (key s _ W W' row h hg hr)
  · exact .inr (key s _ W W' row h hg hr)
theorem others_of_builder {T e : TypeId} {B b : Nat} {p : Value} {bs : List Value} {W W' : World} (h : Lib.BuilderAtF T e B b p bs W) (hs : W.heap.size ≤ W'.heap.size) (ho : Lib.OthersKept e (some b) W W') : KeepsOthers W W' :=
  ⟨hs, fun k o hk hc => ho k o hk (fun ek => by
    cases ek
    obtain ⟨_, v, hb, _⟩ := h
    rw [hb] at hk; cases hk; cases hc) (fun c fz e => by subst e; cases hc)⟩
theorem others_isBuilder {T e : TypeId} {B b : Nat} {bs : List Value} {W W' : World} (h : Lib.IsBuilderF T e B b bs W) (hs : W.heap.size ≤ W'.heap.size) (ho : Lib.OthersKept e (some b) W W') : KeepsOthers W W' :=
  h.elim (fun h => others_of_builder h hs ho) (fun h => others_of_builder h hs ho)
theorem builder_below {T e : TypeId} {B b : Nat} {bs : List Value} {W W' : World} (h : Lib.IsBuilderF T e B b bs W) (hb : Below W.heap.size W W') : Lib.IsBuilderF T e B b bs W' := by
  have mv : ∀ k o, W.heap[k]? = some o → W'.heap[k]? = some o := fun k o hk => (hb.block k (Array.getElem?_eq_some_iff.1 hk).1).trans hk
  have key : ∀ p, Lib.BuilderAtF T e B b p bs W → Lib.BuilderAtF T e B b p bs W' := by
    rintro p ⟨h0, v, hv, hr, hn⟩
    refine ⟨h0, v, mv _ _ hv, ⟨hr.1, ?_⟩, hn⟩
    rcases hr.2 with h | ⟨g, cap, cur, fz, e1, e2, e3, rest⟩
    · exact .inl h
    · exact .inr ⟨g, cap, cur, fz, e1, e2, mv _ _ e3, rest⟩
  exact h.imp (key _) (key _)
def Turn (n₀ Bs : Nat) (W W' : World) : Prop := RearKeeps n₀ Bs W W' ∧ KeepsOthers W W'
theorem Turn.trans {n₀ Bs : Nat} {A B C : World} (h : Turn n₀ Bs A B) (k : Turn n₀ Bs B C) : Turn n₀ Bs A C := ⟨h.1.trans k.1, h.2.trans k.2⟩
theorem Turn.of_below {n₀ Bs : Nat} {W W' : World} (hn : n₀ ≤ W.heap.size) (hb : Below W.heap.size W W') : Turn n₀ Bs W W' :=
  ⟨⟨hb.mono hn, fun v hv => (hb.block _ (Boxed.lt hv)).trans hv⟩, ⟨hb.size, fun k o hk _ => (hb.block k (Array.getElem?_eq_some_iff.1 hk).1).trans hk⟩⟩
theorem size_toList (s : ByteArray) : s.size = s.data.toList.length := by cases s; rfl
theorem write_calls (B b : Nat) (l : List UInt8) (s : ByteArray) (w : World) (h : Lib.IsBuilderF 79 5 B b (Lib.byteCells l) w) (hl : l.length + s.size ≤ 140737488355328) (hB : B ≤ w.heap.size) :
    Calls Tryz.prog 49 #[.pointer (some ⟨b, 0, none⟩), .string s] w fun e w' => e = .returned (.tuple #[.int .i64 s.size, .nilIface]) ∧ Lib.IsBuilderF 79 5 B b (Lib.byteCells (l ++ s.data.toList)) w' ∧ Below B w w' ∧ KeepsOthers w w' ∧ ∀ k v, k ≠ b → Boxed w k 22 v → Boxed w' k 22 v :=
  (Any.Builder_WriteString_k { Tryz.layRep with } Tryz.extraRep B b (Lib.byteCells l) s w h (by simpa [Lib.byteCells] using hl) hB).mono fun e w' ⟨he, h1, h2, h3⟩ =>
    ⟨he, .inr (by rw [show Lib.byteCells (l ++ s.data.toList) = Lib.byteCells l ++ Lib.strCells s from by simp [Lib.strCells, Lib.byteCells]]; exact h1), h2, others_isBuilder h h2.size h3, fun k v hk hv => h3 k _ hv (fun e => hk (by cases e; rfl)) (fun c fz e => by cases e)⟩
theorem string_calls (B b : Nat) (l : List UInt8) (w : World) (h : Lib.IsBuilderF 79 5 B b (Lib.byteCells l) w) (hB : B ≤ w.heap.size) :
    Calls Tryz.prog 51 #[.pointer (some ⟨b, 0, none⟩)] w fun e w' => e = .returned (.string ⟨l.toArray⟩) ∧ Below B w w' ∧ KeepsOthers w w' :=
  (Any.Builder_String_any_k { Tryz.layRep with } Tryz.extraRep B b l w h hB).mono fun e w' ⟨he, _, h2, h3⟩ => ⟨he, h2, others_isBuilder h h2.size h3⟩
theorem repeat_eq (c : Nat) : Lib.repeatL [48] c = List.replicate c (48 : UInt8) := by
  induction c with
  | zero => rfl
  | succ n ih => simp [Lib.repeatL, List.replicate_succ] at *; exact ih
theorem zeros_calls (c : Nat) (hc : c ≤ 9) (w : World) :
    Calls Tryz.prog 50 #[.string ⟨#[48]⟩, .int .i64 (c : Int)] w fun e w' => e = .returned (.string ⟨(List.replicate c (48 : UInt8)).toArray⟩) ∧ Below w.heap.size w w' := by
  have h := Any.strings_Repeat Tryz.layRep Tryz.extraRep ⟨#[48]⟩ c w (by omega) (by show 1 * c ≤ _; omega)
  rw [show (⟨#[48]⟩ : ByteArray).data.toList = [48] from rfl, repeat_eq] at h
  exact h
theorem trim2_calls (A : Option Addr) (c : Nat) (l : List Int) (w : World) (hr : Kd.C (Kd.int .u32) w A l.length l) (hc : l.length ≤ c) (hk : okN l = true) :
    Calls Tryz.prog 45 #[.slice A l.length c] w fun e w' => ∃ A' c', e = .returned (.slice A' (digB 4294967296 (valB 4294967296 l)).length c') ∧ (digB 4294967296 (valB 4294967296 l)).length ≤ c' ∧ Kd.C (Kd.int .u32) w' A' (digB 4294967296 (valB 4294967296 l)).length (digB 4294967296 (valB 4294967296 l)) ∧ Below w.heap.size w w' := by
  refine (nat_Trim.calls A c l _ w hr hc (trim_f hk)).mono ?_
  rw [trimL_eq (by decide) (okN_iff.1 hk).2]
  rintro e w' ⟨v, rfl, h, hb⟩
  obtain ⟨A', c', rfl, h1, h2⟩ := Kd.R_reads h
  exact ⟨A', c', rfl, h1, h2, hb⟩
theorem short2_calls (A : Option Addr) (c v : Nat) (l : List Int) (w : World) (hr : Kd.C (Kd.int .u32) w A l.length l) (hc : l.length ≤ c) (hl : l = digB 4294967296 v) (hn : l.length ≤ 1048576) :
    Calls Tryz.prog 46 #[.slice A l.length c, .int .u32 1000000000] w fun e w' => ∃ A' c', ∃ q : List Int, e = .returned (.tuple #[.slice A' q.length c', .int .u32 ((v % 1000000000 : Nat) : Int), .int .i64 0]) ∧ q = digB 4294967296 (v / 1000000000) ∧ q.length ≤ 1048576 ∧ q.length ≤ c' ∧ Kd.R (Kd.int .u32) 56 w' w.heap.size (fun _ => True) (.slice A' q.length c') q ∧ Below w.heap.size w w' := by
  have hk : okN l = true := okN_iff.2 ⟨hn, hl ▸ (digB_good 4294967296 (by decide) v).1⟩
  have hv : valB 4294967296 l = v := by rw [hl, digB_val 4294967296 (by decide)]
  refine (quo_ShortC.calls A c l 1000000000 (digB 4294967296 (v / 1000000000)) ((v % 1000000000 : Nat) : Int) 0 w hr hc ?_).mono ?_
  · unfold quo_ShortC.f
    rw [if_pos ⟨hk, by decide, by decide⟩, if_neg (by decide), hv]
    rfl
  rintro e w' ⟨u, rfl, h, hb⟩
  obtain ⟨A', c', rfl, h1, h2⟩ := Kd.R_reads h
  refine ⟨A', c', _, rfl, rfl, ?_, h1, h, hb⟩
  have := digB_len (B := 4294967296) (by decide) (v := v / 1000000000) (n := l.length) (by
    have := valB_lt 4294967296 l (okN_iff.1 hk).2
    rw [hv] at this
    exact Nat.lt_of_le_of_lt (Nat.div_le_self _ _) this)
  omega
theorem groups_len {l : List Int} (hk : okN l = true) : (digB 1000000000 (valB 4294967296 l)).length ≤ 2097152 := by
  refine digB_len (by decide) (Nat.lt_of_lt_of_le (valB_lt 4294967296 l (okN_iff.1 hk).2) ?_)
  calc 4294967296 ^ l.length ≤ (1000000000 ^ 2) ^ l.length := Nat.pow_le_pow_left (by decide) _
    _ = 1000000000 ^ (2 * l.length) := by rw [Nat.pow_mul]
    _ ≤ 1000000000 ^ 2097152 := Nat.pow_le_pow_right (by decide) (by have := (okN_iff.1 hk).1; omega)
def digits_Nat.f (l0 : List Int) : Option ByteArray := if okN l0 = true then some (decB (valB 4294967296 l0)) else none
set_option maxRecDepth 100000 in
set_option maxHeartbeats 16000000 in
theorem digits_Nat.calls (A0 : Option Addr) (c0 : Nat) (l0 : List Int) (r : ByteArray) (w : World) (ht : PowTab w) (hr0 : Kd.C (Kd.int .u32) w A0 l0.length l0) (hc0 : l0.length ≤ c0) (h : digits_Nat.f l0 = some r) :
    Calls Tryz.prog 23 #[.slice A0 l0.length c0] w fun e w' => e = .returned (.string r) ∧ Below w.heap.size w w' := by
  unfold digits_Nat.f at h
  have hk : okN l0 = true := by
    by_cases hk : okN l0 = true
    · exact hk
    · rw [if_neg hk] at h; cases h
  rw [if_pos hk] at h
  obtain rfl := Option.some.inj h
  have GL := groups_len hk
  have TRIM := fun W hr => trim2_calls A0 c0 l0 W hr hc0 hk
  have hk1 := okN_iff.1 hk
  have TL : (digB 4294967296 (valB 4294967296 l0)).length ≤ 1048576 := Nat.le_trans (digB_len (by decide) (valB_lt 4294967296 l0 hk1.2)) hk1.1
  obtain ⟨va, hva⟩ : ∃ va, valB 4294967296 l0 = va := ⟨_, rfl⟩
  rw [hva] at GL TRIM TL ⊢
  have HR0 := Aside0.mk hr0
  have HT := Aside0.mk ht
  have HGL := Aside0.mk GL
  have HTL := Aside0.mk TL
  obtain ⟨i0, hi, hz0, hz1, hz2⟩ := info_parts infoU32
  obtain ⟨x0, hx0⟩ : ∃ x0, digB 4294967296 va = x0 := ⟨_, rfl⟩
  rw [hx0] at TRIM HTL
  have HX := Aside0.mk hx0
  clear h hk hk1 hva hx0 hr0 ht GL TL hc0
  refine callsIn_wide (n := 8).1 ?_
  refine callsIn_of_wp_marks Tryz.func23 rfl trivial ?_ rfl
  refine wpIn_wide.2 ?_
  simp only [Tryz.ntmps23, List.size_toArray, List.length_cons, List.length_nil, Nat.reduceAdd, Nat.reduceSub, Array.replicate_succ, Array.replicate_zero, List.push_toArray, List.append_toArray, List.nil_append, List.cons_append]
  go_wp2_with (go_at_call 45; refine (TRIM _ (Kd.cA9 HR0.out _)).mono ?_; rintro e w1 ⟨A1, c1, rfl, hc1, hr1, hb1⟩; have HC1 := Aside0.mk hc1; have HR1 := Aside0.mk hr1; have HB1 := Aside0.mk hb1; clear hc1 hr1 hb1)
  go_loopg [0] (va + 1) (fun kq v0 wr => ∃ (A : Option Addr) (c : Nat) (xs ps : List Int) (v : Nat) (pv : Value), v0 = .slice A xs.length c ∧ Aside0 (v < kq) ∧ Aside0 (xs = digB 4294967296 v ∧ xs.length ≤ 1048576 ∧ xs.length ≤ c ∧ ps ++ digB 1000000000 v = digB 1000000000 va) ∧ Aside0 (Kd.C (Kd.int .u32) wr A xs.length xs) ∧ Aside0 (Boxed wr w.heap.size 22 pv ∧ wr.ownsRow w.heap.size 56 1 pv ps.length (ps.map (Value.int .u32))) ∧ Aside0 (Below w.heap.size w wr))
  case atStart =>
    refine ⟨A1, c1, x0, [], va, .slice none 0 0, rfl, ⟨Nat.lt_succ_self _⟩, ⟨HX.out.symm, HTL.out, HC1.out, rfl⟩, HR1, ⟨?_, World.ownsRow_nil _ _ _ _⟩, ⟨(bA9 (Below.refl _ _) _).trans (HB1.out.mono (by simp))⟩⟩
    exact (HB1.out.block _ (by simp)).trans (Boxed.new w 22 (.slice none 0 0))
  case round =>
    obtain ⟨A, c, xs, ps, v, pv, rfl, HK, HF, HC, HP, HB⟩ := hrel
    by_cases h0 : 0 < xs.length
    · have hd0 : decide (0 < (xs.length : Int)) = true := decide_eq_true (by omega)
      have SH := short2_calls A c v xs wr HC.out HF.out.2.2.1 HF.out.1 HF.out.2.1
      have hp1 := HP.out.1
      have PL := Aside0.mk (show ps.length ≤ 2097152 by have e := congrArg List.length HF.out.2.2.2; have := HGL.out; rw [List.length_append] at e; omega)
      have hvp : 0 < v := by
        rcases Nat.eq_zero_or_pos v with e | e
        · have e2 := HF.out.1; rw [e, digB_zero _ (by decide)] at e2; rw [e2] at h0; cases h0
        · exact e
      have VP := Aside0.mk hvp
      obtain ⟨y, hy⟩ : ∃ y : Int, ((v % 1000000000 : Nat) : Int) = y := ⟨_, rfl⟩
      rw [hy] at SH
      have hw : (Lit.int .u32 y).wf = true := by
        have := Nat.mod_lt v (show 0 < 1000000000 by decide)
        exact WalkArith.wf_u32 ⟨by omega, by omega⟩
      have HY := Aside0.mk hy
      clear hy hvp hp1
      have own2 := fun (W : World) (h : Below wr.heap.size wr W) => own_move HP.out.2 (fun k hk => h.block k (own_lt HP.out.2 k hk))
      go_wp2_with (first | (go_at_call 46; refine SH.mono ?_; rintro e w2 ⟨A2, c2, qs, rfl, hq, hql, hqc, hq3, hb2⟩; have bx : Boxed w2 w.heap.size 22 pv := (hb2.block _ HP.out.1.lt).trans HP.out.1; have bx1 := Boxed.cell bx; have bx2 := Boxed.frozen bx; have BX := Aside0.mk bx; have HQ := Aside0.mk (And.intro hq (And.intro hql hqc)); have HQ3 := Aside0.mk hq3; have HB2 := Aside0.mk hb2; have hrow := own2 w2 hb2; have bw : w.heap.size ≤ w2.heap.size := Nat.le_trans HB.out.size hb2.size; clear hq hql hqc hq3 hb2 bx) | (at_builtin; refine wpList_append_own _ rfl _ _ 22 rfl w.heap.size 56 i0 (.int .u32 0) 1 4 Tryz.underlying22 hi hz0 hz1 hz2 rfl (by decide) _ _ _ rfl (hrow.alloc _) ⟨w2.heap.size, 0, none⟩ 1 1 [.int .u32 y] rfl rfl (cell_one_new _ _ _) (by simp [Value.oneCell']) (by have := PL.out; unfold maxLen; omega) (by have := PL.out; omega) (by simp; omega) ?_; intro v' w3 hown' hgrow _; obtain ⟨g', cap', rfl⟩ := ownsRow_succ hown'; obtain ⟨hv1, hv2, hr2, hk2, hb3⟩ := BX.out.appended (by decide) hrow bw (Nat.le_refl _) hown' hgrow; have hc1 := hv1.cell; have hf1 := hv1.frozen; have GR := Aside0.mk hgrow; have V2 := Aside0.mk hv2; have R2 := Aside0.mk hr2; have B3 := Aside0.mk hb3; clear hgrow hv2 hr2 hb3))
      cases gk with
      | zero => exact absurd HK.out (Nat.not_lt_zero _)
      | succ k1 =>
        go_roundg k1
        case measure => omega
        case rel =>
          refine ⟨A2, c2, qs, ps ++ [y], v / 1000000000, _, rfl, ⟨?_⟩, ⟨HQ.out.1, HQ.out.2.1, HQ.out.2.2, ?_⟩, ⟨?_⟩, ⟨V2.out, ?_⟩, ⟨(HB.out.trans (HB2.out.mono HB.out.size)).trans B3.out⟩⟩
          · have h1 := HK.out
            have h2 := Nat.div_lt_self VP.out (show 1 < 1000000000 by decide)
            omega
          · have h1 := HF.out.2.2.2
            rw [digB_step (by decide) VP.out, HY.out] at h1
            rw [List.append_assoc]
            exact h1
          · have r1 := Kd.rA9 (Kd.R_bound HQ3.out) (.cells #[.int .u32 y] 56)
            have r3 := Kd.R_grown r1 GR.out (fun k hk e => by have h1 := own_lt HP.out.2 k e.symm; have h2 := hk.2.1; omega)
            exact (Kd.rR9 (Kd.R_far r3 (p := ⟨w.heap.size, 0, none⟩) (fun k hk => by have h1 := hk.2.1; have h2 := HP.out.1.lt; show k ≠ w.heap.size; omega) _)).2.2
          · have h := R2.out
            simpa using h
    · have hd0 : decide (0 < (xs.length : Int)) = false := decide_eq_false (by omega)
      have hv0 : v = 0 := by
        have e1 := HF.out.1
        rw [List.eq_nil_of_length_eq_zero (by omega : xs.length = 0)] at e1
        have e2 := digB_val 4294967296 (by decide) v
        rw [← e1, valB_nil] at e2
        exact e2.symm
      have hps : ps = digB 1000000000 va := by
        have e := HF.out.2.2.2
        rw [hv0, digB_zero _ (by decide), List.append_nil] at e
        exact e
      have rR : Kd.R (Kd.int .u32) 56 wr w.heap.size (fun _ => True) pv ps := Kd.R_of_own (by simpa [nums, encs] using HP.out.2) (fun _ _ => trivial)
      obtain ⟨Ap, cp, rfl, hpc, hpC⟩ := Kd.R_reads rR
      have HPS := Aside0.mk hps
      have HPC := Aside0.mk hpc
      have HPR := Aside0.mk hpC
      have hc3 := HP.out.1.cell
      have hf3 := HP.out.1.frozen
      clear hps hpc hpC rR hv0
      by_cases hz : va = 0
      · have hn : ps.length = 0 := by rw [HPS.out, hz, digB_zero _ (by decide)]; rfl
        have hn2 : ((ps.length : Int) == 0) = true := by rw [hn]; rfl
        go_wp2
        refine ⟨_, results_tmp rfl _ _ _, ?_, HB.out⟩
        rw [hz]
        unfold decB
        rw [dec_small (by decide)]
        rfl
      · have hn : 0 < ps.length := by
          rcases Nat.eq_zero_or_pos ps.length with e | e
          · have e2 := digB_val 1000000000 (by decide) va
            rw [← HPS.out, List.eq_nil_of_length_eq_zero e, valB_nil] at e2
            exact absurd e2.symm hz
          · exact e
        have hn2 : ((ps.length : Int) == 0) = false := by rw [beq_eq_false_iff_ne]; omega
        have hb4 := HP.out.1.alloc (.cells #[.pointer none, .slice none 0 0] 79)
        have hc4 := hb4.cell
        have hf4 := hb4.frozen
        have HPB := Aside0.mk HP.out.1
        clear hb4
        go_wp2_with (go_at_call 47; refine (callsIn_wide.1 (rear_in Fence.wide 8 trivial rfl Ap ps.length cp _)).mono ?_; rintro e w' ⟨rfl, rfl⟩)
        have bU : Lib.IsBuilderF 79 5 wr.heap.size wr.heap.size (Lib.byteCells (grps ps [])) ((wr.alloc (.cells #[.pointer none, .slice none 0 0] 79)).alloc (.cells #[.slice Ap ps.length cp] 22)) :=
          (builder_own _ _ _ _ (fun _ : Unit => Lib.byteCells (grps ps []))).alloc (s := ()) _ (Lib.IsBuilderF.of (.inl ⟨Nat.le_refl _, .slice none 0 0, heap_alloc_new wr _, World.ownsRow_nil _ _ _ _, by simp [Value.ownBlock]⟩))
        have bS0 := Boxed.new (wr.alloc (.cells #[.pointer none, .slice none 0 0] 79)) 22 (.slice Ap ps.length cp)
        rw [World.size_alloc] at bS0
        have hB0 : Below wr.heap.size wr ((wr.alloc (.cells #[.pointer none, .slice none 0 0] 79)).alloc (.cells #[.slice Ap ps.length cp] 22)) := bA9 (bA9 (Below.refl _ _) _) _
        obtain ⟨W0, hW0⟩ : ∃ W0, ((wr.alloc (.cells #[.pointer none, .slice none 0 0] 79)).alloc (.cells #[.slice Ap ps.length cp] 22)) = W0 := ⟨_, rfl⟩
        have hsz : W0.heap.size = wr.heap.size + 2 := by rw [← hW0]; simp
        rw [hW0] at bU bS0 hB0 ⊢
        have hgd : DigB 1000000000 ps := by rw [HPS.out]; exact (digB_good 1000000000 (by decide) va).1
        have LEN := Aside0.mk (show ps.length ≤ 2097152 by rw [HPS.out]; exact HGL.out)
        have HGD := Aside0.mk hgd
        have HN := Aside0.mk hn
        clear hW0 hgd hc4 hf4 hc3 hf3 hn
        refine (wpIn_wide (n := 8)).1 ?_
        refine wpIn_rangeFunc_ownG rfl (by omega) (gf := 75) (lb := #[.pointer (some ⟨wr.heap.size + 1, 0, none⟩)]) rfl trivial (enters_of Tryz.func75 (by kernel_rfl) rfl)
          (rear_stops Fence.wide 7 trivial rfl (by omega) (wr.heap.size + 1) Ap cp ps wr W0 HPR.out hB0 bS0) RearKeeps.trans (rearKeeps_b hB0.size) (Below.refl _ _) (fun _ => rfl)
          (fun pre W => Lib.IsBuilderF 79 5 wr.heap.size wr.heap.size (Lib.byteCells (grps ps pre)) W ∧ Below wr.heap.size wr W)
          (fun _ _ _ => False)
          (OwnFrom.and ((builder_own _ _ _ _ _).from _) (ownFrom_below (Nat.le_refl _) hB0.size))
          (fun _ _ _ _ _ hs _ _ => hs)
          ⟨bU, hB0⟩
          (fun x => { tmps := #[.slice A xs.length c, undef, .string ⟨#[]⟩, .pointer (some ⟨w.heap.size, 0, none⟩), u4, u5, u6, .pointer (some ⟨wr.heap.size, 0, none⟩), .int .i64 (x.1 : Int), .int .u32 (rd ps (x.1 : Int)), undef, .slice A0 l0.length c0, .slice A1 x0.length c1, .slice A xs.length c, .int .i64 xs.length, .bool false, u16, u17, u18, u19, u20, u21, u22, u23, u24, u25, u26, .slice Ap ps.length cp, .int .i64 ps.length, .bool false, .slice Ap ps.length cp, .func (.func 75) #[] #[.pointer (some ⟨wr.heap.size + 1, 0, none⟩)], .int .i64 (x.1 : Int), .int .u32 (rd ps (x.1 : Int)), undef, undef, undef, undef, undef, undef, undef, undef, undef, undef, undef, undef, undef, undef, undef, undef], defers := [] }) ?assign ?body ?done ?stop
        case assign =>
          intro l x W K hK
          gi_wp2
          exact hK
        case body =>
          rintro l pre x W ⟨hU, hB⟩ _
          have hxr := rd_dig HGD.out x
          obtain ⟨y, hy⟩ : ∃ y : Nat, rd ps (x.1 : Int) = (y : Int) := ⟨(rd ps (x.1 : Int)).toNat, by omega⟩
          have hy9 : y < 1000000000 := by omega
          have hbx : Boxed W w.heap.size 22 (.slice Ap ps.length cp) := (hB.block _ HPB.out.lt).trans HPB.out
          have hbx1 := Boxed.cell hbx
          have hbx2 := Boxed.frozen hbx
          obtain ⟨fm, hfm⟩ : ∃ fm, decB y = fm := ⟨_, rfl⟩
          have FM := fun (W : World) (hb : Below wr.heap.size wr W) => strconv_FormatUint.calls (y : Int) 10 fm W (PowTab.below HT.out ((HB.out.trans (hb.mono HB.out.size)))) (by unfold strconv_FormatUint.f; rw [if_pos ⟨rfl, by omega, by omega⟩, Int.toNat_natCast, hfm])
          have hyw : IntKind.u64.wrap (y : Int) = (y : Int) := by rw [IntKind.wrap_u64]; omega
          have hgl := dec9 hy9
          have hfl : fm.size ≤ 9 := by rw [← hfm, size_toList]; simpa [decB] using hgl.1
          have FMi := FM W hB
          have hgr := grps_len HGD.out pre
          by_cases hx : x.1 < ps.length - 1
          · have hxl : decide ((x.1 : Int) < wrap64 ((ps.length : Int) - 1)) = true := decide_eq_true (by have := LEN.out; unfold wrap64; omega)
            have ZR := fun W1 => zeros_calls (9 - fm.size) (by omega) W1
            rw [show (((9 - fm.size : Nat) : Nat) : Int) = wrap64 (9 - (fm.size : Int)) from by unfold wrap64; omega] at ZR
            obtain ⟨zs, hzs⟩ : ∃ zs : ByteArray, ⟨(List.replicate (9 - fm.size) (48 : UInt8)).toArray⟩ = zs := ⟨_, rfl⟩
            rw [hzs] at ZR
            have hzl : zs.data.toList = List.replicate (9 - fm.size) (48 : UInt8) := by rw [← hzs]
            have hz9 : zs.size ≤ 9 := by rw [size_toList, hzl]; simp
            have WR := fun W1 (hb : Below W.heap.size W W1) => write_calls wr.heap.size wr.heap.size (grps ps pre) zs W1 (builder_below hU hb) (by have := LEN.out; omega) (Nat.le_trans hB.size hb.size)
            have WR2 := fun W1 hu (hb : wr.heap.size ≤ W1.heap.size) => write_calls wr.heap.size wr.heap.size (grps ps pre ++ zs.data.toList) fm W1 hu (by have := LEN.out; rw [List.length_append, ← size_toList]; omega) hb
            have HZL := Aside0.mk hzl
            clear hzs hzl hz9
            have BX := Aside0.mk hbx
            have HU := Aside0.mk hU
            have HBB := Aside0.mk hB
            have HFL := Aside0.mk hfl
            have HGL2 := Aside0.mk hgl
            have HFM := Aside0.mk hfm
            have HYW := Aside0.mk hyw
            have HX2 := Aside0.mk hx
            have HY := Aside0.mk hy
            have HSZ := Aside0.mk hsz
            rw [hy]
            clear hbx hU hB hfl hgl hfm hyw hx hxr hy hsz FM
            gi_wp2_with (first | (refine ⟨trivial, ?_⟩; gi_at_call 48; (with_reducible refine (CallsIn.inRound l (callsIn_wide.2 FMi)).mono ?_); rintro e W1 ⟨rfl, hb1⟩; have hc1 := Boxed.cell ((hb1.block _ BX.out.lt).trans BX.out); have hf1 := Boxed.frozen ((hb1.block _ BX.out.lt).trans BX.out); have B1 := Aside0.mk hb1; clear hb1) | (refine ⟨trivial, ?_⟩; gi_at_call 50; (with_reducible refine (CallsIn.inRound l (callsIn_wide.2 (ZR W1))).mono ?_); rintro e W2 ⟨rfl, hb2⟩; have B2 := Aside0.mk (B1.out.trans (hb2.mono B1.out.size)); clear hb2) | (refine ⟨trivial, ?_⟩; gi_at_call 49; (with_reducible refine (CallsIn.inRound l (callsIn_wide.2 (WR W2 B2.out))).mono ?_); rintro e W3 ⟨rfl, hu3, hb3, hk3, hx3⟩; have sz3 := Nat.le_trans (Nat.le_trans HBB.out.size B2.out.size) hb3.size) | (refine ⟨trivial, ?_⟩; gi_at_call 49; (with_reducible refine (CallsIn.inRound l (callsIn_wide.2 (WR2 W3 hu3 sz3))).mono ?_); rintro e W4 ⟨rfl, hu4, hb4, hk4, hx4⟩))
            have T : Turn wr.heap.size (wr.heap.size + 1) W W4 := ((Turn.of_below HBB.out.size B2.out).trans ⟨⟨hb3, fun v hv => hx3 _ _ (by omega) hv⟩, hk3⟩).trans ⟨⟨hb4, fun v hv => hx4 _ _ (by omega) hv⟩, hk4⟩
            refine ⟨T.2.from _, T.1, ⟨?_, HBB.out.trans T.1.1⟩⟩
            rw [grps_snoc]
            have e : grp1 ps x = List.replicate (9 - fm.size) (48 : UInt8) ++ fm.data.toList := by
              unfold grp1
              rw [if_pos HX2.out, HY.out, Int.toNat_natCast, ← HFM.out, size_toList]
              simp [decB]
            rw [e, ← HZL.out, ← List.append_assoc]
            exact hu4
          · have hxl : decide ((x.1 : Int) < wrap64 ((ps.length : Int) - 1)) = false := decide_eq_false (by have := LEN.out; unfold wrap64; omega)
            have WR := fun W1 (hb : Below W.heap.size W W1) => write_calls wr.heap.size wr.heap.size (grps ps pre) fm W1 (builder_below hU hb) (by have := LEN.out; omega) (Nat.le_trans hB.size hb.size)
            have BX := Aside0.mk hbx
            have HU := Aside0.mk hU
            have HBB := Aside0.mk hB
            have HFL := Aside0.mk hfl
            have HGL2 := Aside0.mk hgl
            have HFM := Aside0.mk hfm
            have HYW := Aside0.mk hyw
            have HX2 := Aside0.mk hx
            have HY := Aside0.mk hy
            have HSZ := Aside0.mk hsz
            rw [hy]
            clear hbx hU hB hfl hgl hfm hyw hx hxr hy hsz FM
            gi_wp2_with (first | (refine ⟨trivial, ?_⟩; gi_at_call 48; (with_reducible refine (CallsIn.inRound l (callsIn_wide.2 FMi)).mono ?_); rintro e W1 ⟨rfl, hb1⟩; have hc1 := Boxed.cell ((hb1.block _ BX.out.lt).trans BX.out); have hf1 := Boxed.frozen ((hb1.block _ BX.out.lt).trans BX.out); have B1 := Aside0.mk hb1; clear hb1) | (refine ⟨trivial, ?_⟩; gi_at_call 49; (with_reducible refine (CallsIn.inRound l (callsIn_wide.2 (WR W1 B1.out))).mono ?_); rintro e W2 ⟨rfl, hu2, hb2, hk2, hx2⟩))
            have T : Turn wr.heap.size (wr.heap.size + 1) W W2 := (Turn.of_below HBB.out.size B1.out).trans ⟨⟨hb2, fun v hv => hx2 _ _ (by omega) hv⟩, hk2⟩
            refine ⟨T.2.from _, T.1, ⟨?_, HBB.out.trans T.1.1⟩⟩
            rw [grps_snoc]
            have e : grp1 ps x = fm.data.toList := by
              unfold grp1
              rw [if_neg HX2.out, HY.out, Int.toNat_natCast, ← HFM.out]
              rfl
            rw [e]
            exact hu2
        case done =>
          rintro D ys W hD rfl ⟨hU, hB⟩ hK
          have hva : 0 < va := Nat.pos_of_ne_zero hz
          rw [grps_all hva HPS.out] at hU
          have SC := string_calls wr.heap.size wr.heap.size (Lib.decDigits va) W hU hB.size
          have HK := Aside0.mk hK
          have HB2 := Aside0.mk (HB.out.trans (hB.mono HB.out.size))
          have HD := Aside0.mk (show w.heap.size ≤ D by have := HB.out.size; omega)
          have HBS := Aside0.mk hB.size
          have HBW := Aside0.mk HB.out.size
          clear hK hU hB
          go_wp2_with (go_at_call 51; refine SC.mono ?_; rintro e W2 ⟨rfl, hb2, hk2⟩; have B2 := Aside0.mk hb2; have HK2 := Aside0.mk (hk2.same _ _ HK.out rfl); clear hb2 hk2)
          refine ⟨by simp, .inl ⟨_, _, rfl, run_takeDeferred HK2.out, ?_⟩⟩
          refine ⟨_, results_tmp rfl _ _ _, rfl, ?_⟩
          have h1 := HB2.out.trans (B2.out.mono HBW.out)
          exact h1.trans (belowK_b (w := w) (Nat.le_refl _) W2 D _ _ HD.out HK2.out rfl rfl)
        case stop =>
          rintro D c pre W _ _ h _
          exact h.elim
end Go.Proofs.YthppjdmkinbccaaGreatDoor.Print
