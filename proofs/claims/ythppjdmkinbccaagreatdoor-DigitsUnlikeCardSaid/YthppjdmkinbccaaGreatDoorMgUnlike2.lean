/- Written by wip/tools/claimtexts.py: these texts, one behind another, without what this claim does not use: K0, A1, A2, A3, A11, PuBase, PuSum, HTop, HTrim, B1, HGather. -/
import Derived.Test.YthppjdmkinbccaaGreatDoorProg
import Derived.Below
import Derived.Deep.Draws
import Derived.Deep.AppendLies
import Derived.Maps.AppendAt
import Derived.OwnWalk
import Derived.Laws.BytesArg
import Derived.Laws.MakeOwn
import Derived.Laws.OwnMore
import Derived.Deep.OwnRows
import Derived.Tactics
import Derived.Lib.ConvBytes
import Derived.Laws.Slices
import Derived.WalkKit
import Derived.KernelRfl
import Derived.RowKit3
import Derived.Deep.LoopGhost
import Derived.Deep.QuietTactic
import Derived.BigQuiet
import Derived.WideLaws
import Derived.Deep.DeepCutAuto
import Derived.Deep.CutBlock
import Derived.Deep.RegionHeld3
import Derived.Laws.Rows
import Derived.Lib.AppendStr
import Derived.ArgAppend
import Derived.Laws.IdiomCopy
import Derived.OrdersHeld
import Derived.Laws.BitsLemmas
import Derived.RowKit
import Derived.Test.YthppjdmkinbccaaGreatDoorMgUnlike1
import Derived.Lib.ItoaNum
import Derived.Lib.ItoaMem
import Derived.WalkSpells
import Derived.Lib.SliceRun
import Derived.RangeFuncNested
import Derived.RangeFuncBound
import Derived.RangeFuncCalls
import Derived.RangeFuncLeaves
import Derived.RangeFuncBox
import Derived.Shelf.Abstract
import Derived.OwnWalkIn
import Derived.TacticsInMore
import Derived.LoopNIn
import Derived.LoopIn
namespace Go.Proofs.YthppjdmkinbccaaGreatDoor.Print
open Go.RowKit Go.Proofs.YthppjdmkinbccaaGreatDoorW.PrintWords Go.Proofs.YthppjdmkinbccaaGreatDoorW.PrintLast Go.Proofs.YthppjdmkinbccaaGreatDoorW.PrintMore
attribute [local go_sem] max2_int min2_int max_two min_two max_three min_three max_four min_four   -- for this text's walks alone
set_option linter.unusedVariables false
set_option linter.unusedSimpArgs false
def errW : Option Int → Value
  | none => .nilIface
  | some c => .iface 0 (.int .i64 c)
theorem eN9 : errW none = .nilIface := rfl
theorem eS9 (c : Int) : errW (some c) = .iface 0 (.int .i64 c) := rfl
theorem info3 : (Tryz.prog.info? 3).map (fun i => (i.zero, i.size, i.bytes)) = some (some (.int .i64 0), 1, 8) := by kernel_rfl
theorem info56 : (Tryz.prog.info? 56).map (fun i => (i.zero, i.size, i.bytes)) = some (some (.int .u32 0), 1, 4) := by kernel_rfl
structure S7 where
  f0 : Int
  f1 : Int
  f2 : Bool
  f3 : Int
structure S8 where
  f0 : Int
  f1 : Int
  f2 : Bool
  f3 : Int
structure S13 where
  f0 : ByteArray
  f1 : Int
structure S14 where
  f0 : ByteArray
  f1 : Int
structure S34 where
  f0 : Bool
  f1 : (List Int)
  f2 : (List Int)
structure S35 where
  f0 : Bool
  f1 : (List Int)
  f2 : (List Int)
structure S38 where
  f0 : Bool
  f1 : (List Int)
  f2 : (List Int)
structure S39 where
  f0 : Bool
  f1 : (List Int)
  f2 : (List Int)
structure S165 where
  f0 : ByteArray
structure S166 where
  f0 : ByteArray
end Go.Proofs.YthppjdmkinbccaaGreatDoor.Print

namespace Go.Proofs.YthppjdmkinbccaaGreatDoor.Print
open Go.RowKit Go.Proofs.YthppjdmkinbccaaGreatDoorW.PrintWords Go.Proofs.YthppjdmkinbccaaGreatDoorW.PrintLast Go.Proofs.YthppjdmkinbccaaGreatDoorW.PrintMore
attribute [local go_sem] max2_int min2_int max_two min_two max_three min_three max_four min_four   -- for this text's walks alone
set_option linter.unusedVariables false
set_option linter.unusedSimpArgs false
def r1d.f (l0 : List Int) (a1 : Int) : Option (Int) := if a1 < (l0.length : Int) then (if 0 ≤ a1 then (some (rd l0 a1)) else (none)) else (some 0)
set_option maxHeartbeats 8000000 in
set_option maxRecDepth 100000 in
theorem r1d.calls (A0 : Option Addr) (c0 : Nat) (l0 : List Int) (a1 : Int) (r : Int) (w : World) (hr0 : Kd.C (Kd.int .i64) w A0 l0.length l0) (hc0 : l0.length ≤ c0) (h : r1d.f l0 a1 = some r) :
  Calls Tryz.prog 83 #[.slice A0 l0.length c0, .int .i64 a1] w fun e w' => e = .returned (.int .i64 r) ∧ Drawn0 w w' := by
 have HR0 := Aside0.mk hr0
 have HC0 := Aside0.mk hc0
 clear hr0 hc0
 have H : (if a1 < (l0.length : Int) then (if 0 ≤ a1 then (some (rd l0 a1)) else (none)) else (some 0)) = some r := h
 clear h
 by_cases c3 : a1 < (l0.length : Int)
 ·rw [if_pos c3] at H
  have c3b0 : decide (a1 < (l0.length : Int)) = true := decide_eq_true c3
  clear c3
  by_cases c4 : 0 ≤ a1
  ·rw [if_pos c4] at H
   have c4b0 : decide (0 ≤ a1) = true := decide_eq_true c4
   clear c4
   obtain rfl := Option.some.inj H
   have p101 : 0 ≤ (a1 : Int) := of_decide_eq_true (by first | (with_reducible assumption) | assumption)
   have q101 : a1 < (l0.length : Int) := of_decide_eq_true (by first | (with_reducible assumption) | assumption)
   obtain ⟨ad101, e101, hx101_0⟩ := Kd.at_int HR0.out a1 p101 q101
   cases e101
   replace p101 := eq_true p101
   replace q101 := eq_true q101
   go_enter Tryz.func83, Tryz.ntmps83
   go_wp2
   go_ret
   exact ⟨by first | rfl | (simp; done) | (simp [*]; done), by repeat (first | exact Drawn0.refl _ | apply Drawn0.step)⟩
  ·rw [if_neg c4] at H
   exact absurd H (by simp)
 ·rw [if_neg c3] at H
  have c3b0 : decide (a1 < (l0.length : Int)) = false := decide_eq_false c3
  clear c3
  obtain rfl := Option.some.inj H
  go_enter Tryz.func83, Tryz.ntmps83
  go_wp2
  go_ret
  exact ⟨by first | rfl | (simp; done) | (simp [*]; done), by repeat (first | exact Drawn0.refl _ | apply Drawn0.step)⟩
mutual
def r1Add.l0 : Nat → List Int → List Int → List Int → Int → Int → Option (List Int)
 | 0, _, _, _, _, _ => none
 | k + 1, x0, x1, x5, x6, x7 => if x7 < (x0.length : Int) then (r1Add.j1 k x0 x1 x5 x6 x7 true) else (if x7 < (x1.length : Int) then (r1Add.j1 k x0 x1 x5 x6 x7 true) else (r1Add.j1 k x0 x1 x5 x6 x7 (decide (x6 > 0))))
def r1Add.j1 : Nat → List Int → List Int → List Int → Int → Int → Bool → Option (List Int)
 | 0, _, _, _, _, _, _ => none
 | k + 1, x0, x1, x5, x6, x7, x22 => if x22 = true then ((r1d.f x0 x7).bind fun t102 => ((r1d.f x1 x7).bind fun t103 => (if x5.length < 17592186044416 then (r1Add.l0 k x0 x1 (x5 ++ [Int.tmod (wrap64 ((wrap64 (t102 + t103)) + x6)) 10000]) (wrap64 (Int.tdiv (wrap64 ((wrap64 (t102 + t103)) + x6)) 10000)) (wrap64 (x7 + 1))) else (none)))) else (some x5)
end
def r1Add.f (k : Nat) (l0 : List Int) (l1 : List Int) : Option (List Int) := r1Add.l0 k l0 l1 ([] : List Int) 0 0
set_option maxHeartbeats 8000000 in
set_option maxRecDepth 100000 in
theorem r1Add.calls (k : Nat) (A0 : Option Addr) (c0 : Nat) (l0 : List Int) (A1 : Option Addr) (c1 : Nat) (l1 : List Int) (r : List Int) (w : World) (hr0 : Kd.C (Kd.int .i64) w A0 l0.length l0) (hc0 : l0.length ≤ c0) (hr1 : Kd.C (Kd.int .i64) w A1 l1.length l1) (hc1 : l1.length ≤ c1) (h : r1Add.f k l0 l1 = some r) :
  Calls Tryz.prog 53 #[.slice A0 l0.length c0, .slice A1 l1.length c1] w fun e w' => ∃ v0_ : Value, e = .returned (v0_) ∧ Kd.R (Kd.int .i64) 3 w' w.heap.size (fun _ => True) v0_ r ∧ Below w.heap.size w w' := by
 have HR0 := Aside0.mk hr0
 have HC0 := Aside0.mk hc0
 clear hr0 hc0
 have HR1 := Aside0.mk hr1
 have HC1 := Aside0.mk hc1
 clear hr1 hc1
 have HB := Aside0.mk (Below.refl w.heap.size w)
 have H : (r1Add.l0 k l0 l1 ([] : List Int) 0 0) = some r := h
 clear h
 have H' := Aside0.mk H
 clear H
 go_enter Tryz.func53, Tryz.ntmps53
 go_wp2
 go_loopg [5, 6, 7] k (fun kq v5 v6 v7 w' => ∃ (x5_1 : List Int) (x6_1 : Int) (x7_1 : Int), v6 = .int .i64 x6_1 ∧ v7 = .int .i64 x7_1 ∧ Aside0 (r1Add.l0 kq l0 l1 x5_1 x6_1 x7_1 = some r) ∧ Aside0 (kq ≤ k) ∧ Aside0 (Kd.R (Kd.int .i64) 3 w' w.heap.size (fun _ => True) v5 x5_1) ∧ Aside0 (Below w.heap.size w w'))
 case atStart => exact ⟨(([] : List Int)), (0), (0), (by first | rfl | (simp; done) | (simp [*]; done)), (by first | rfl | (simp; done) | (simp [*]; done)), H', ⟨Nat.le_refl _⟩, ⟨by first | exact Kd.R_nil _ _ _ _ _ | exact Kd.N_nil _ _ _ _ _ | exact Kd.V_nil _ _ _ _ _ | exact Kd.Q_nil _ _ _ _ _ | exact Kd.S_nil _ _ _ _ _⟩, ⟨by repeat (first | (with_reducible first | exact HB.out | apply bA9 | apply bN9 | apply bD9) | exact HB.out)⟩⟩
 case round =>
  clear H'
  try clear c1
  try clear p2
  obtain ⟨x5_1, x6_1, x7_1, rfl, rfl, HA, HK1, HO_5, HB⟩ := hrel
  cases gk with
  | zero => exact absurd HA.out (by simp [r1Add.l0])
  | succ k1 =>
   have H := HA.out
   clear HA
   simp only [r1Add.l0] at H
   have HC3 := Aside0.mk H
   clear H
   go_upto_region 4 with (fail)
   go_cut [22] (fun v22 wc => ∃ (kq : Nat) (x22_2 : Bool), v22 = .bool x22_2 ∧ Aside0 (r1Add.j1 kq l0 l1 x5_1 x6_1 x7_1 x22_2 = some r) ∧ Aside0 (kq ≤ k1) ∧ Aside0 (Kd.R (Kd.int .i64) 3 wc w.heap.size (fun _ => True) u5 x5_1) ∧ Aside0 (Below w.heap.size w wc))
   case first =>
    have H := HC3.out
    clear HC3
    by_cases c4 : x7_1 < (l0.length : Int)
    ·rw [if_pos c4] at H
     have c4b0 : decide (x7_1 < (l0.length : Int)) = true := decide_eq_true c4
     clear c4
     (first | rw [c4b0] | (simp only [i64_w, i32_w]; rw [c4b0]) | skip)
     have H' := Aside0.mk H
     clear H
     go_wp2
     go_meet
     case rel => exact ⟨_, (true), (by first | rfl | (simp; done) | (simp [*]; done)), H', ⟨by have := HK1.out; first | omega | exact Nat.le_refl _⟩, ⟨by (with_reducible repeat (first | apply Kd.rA9 | apply Kd.rN9 | apply Kd.rD9)); exact HO_5.out⟩, ⟨by repeat (first | (with_reducible first | exact HB.out | apply bA9 | apply bN9 | apply bD9) | exact HB.out)⟩⟩
    ·rw [if_neg c4] at H
     have c4b0 : decide (x7_1 < (l0.length : Int)) = false := decide_eq_false c4
     clear c4
     (first | rw [c4b0] | (simp only [i64_w, i32_w]; rw [c4b0]) | skip)
     by_cases c5 : x7_1 < (l1.length : Int)
     ·rw [if_pos c5] at H
      have c5b0 : decide (x7_1 < (l1.length : Int)) = true := decide_eq_true c5
      clear c5
      have H' := Aside0.mk H
      clear H
      go_wp2
      go_meet
      case rel => exact ⟨_, (true), (by first | rfl | (simp; done) | (simp [*]; done)), H', ⟨by have := HK1.out; first | omega | exact Nat.le_refl _⟩, ⟨by (with_reducible repeat (first | apply Kd.rA9 | apply Kd.rN9 | apply Kd.rD9)); exact HO_5.out⟩, ⟨by repeat (first | (with_reducible first | exact HB.out | apply bA9 | apply bN9 | apply bD9) | exact HB.out)⟩⟩
     ·rw [if_neg c5] at H
      have c5b0 : decide (x7_1 < (l1.length : Int)) = false := decide_eq_false c5
      clear c5
      have H' := Aside0.mk H
      clear H
      go_wp2
      go_meet
      case rel => exact ⟨_, (decide (x6_1 > 0)), (by first | rfl | (simp; done) | (simp [*]; done)), H', ⟨by have := HK1.out; first | omega | exact Nat.le_refl _⟩, ⟨by (with_reducible repeat (first | apply Kd.rA9 | apply Kd.rN9 | apply Kd.rD9)); exact HO_5.out⟩, ⟨by repeat (first | (with_reducible first | exact HB.out | apply bA9 | apply bN9 | apply bD9) | exact HB.out)⟩⟩
   case rest =>
    clear HC3
    try clear c1
    try clear p2
    try clear c4
    try clear c4b0
    try clear c5
    try clear c5b0
    try clear p2
    obtain ⟨kq, x22_2, rfl, HA, HJ2, HO_5, HB⟩ := hcut
    cases kq with
    | zero => exact absurd HA.out (by simp [r1Add.j1])
    | succ kj2 =>
     have H := HA.out
     clear HA
     simp only [r1Add.j1] at H
     by_cases c6 : x22_2 = true
     ·subst c6
      have H1 : ((r1d.f l0 x7_1).bind fun t102 => ((r1d.f l1 x7_1).bind fun t103 => (if x5_1.length < 17592186044416 then (r1Add.l0 kj2 l0 l1 (x5_1 ++ [Int.tmod (wrap64 ((wrap64 (t102 + t103)) + x6_1)) 10000]) (wrap64 (Int.tdiv (wrap64 ((wrap64 (t102 + t103)) + x6_1)) 10000)) (wrap64 (x7_1 + 1))) else (none)))) = some r := by rw [if_pos rfl] at H; exact H
      clear H
      have H := H1
      clear H1
      replace H := Option.bind_eq_some_iff.mp H
      obtain ⟨t102, A70, H⟩ := H
      (try dsimp only at H)
      have A7 := Aside0.mk A70
      clear A70
      replace H := Option.bind_eq_some_iff.mp H
      obtain ⟨t103, A80, H⟩ := H
      (try dsimp only at H)
      have A8 := Aside0.mk A80
      clear A80
      by_cases c9 : x5_1.length < 17592186044416
      ·rw [if_pos c9] at H
       have LMc9 := Aside0.mk c9
       clear c9
       obtain ⟨y104, hy104⟩ : ∃ y_ : List Int, y_ = (x5_1 ++ [Int.tmod (wrap64 ((wrap64 (t102 + t103)) + x6_1)) 10000]) := ⟨_, rfl⟩
       replace H : (r1Add.l0 kj2 l0 l1 y104 (wrap64 (Int.tdiv (wrap64 ((wrap64 (t102 + t103)) + x6_1)) 10000)) (wrap64 (x7_1 + 1))) = some r := by first | (rw [hy104]; with_reducible exact H) | (have H2_ := (Option.bind_some _ _).symm.trans H; rw [hy104]; with_reducible exact H2_) | (have H2_ := (Option.bind_some _ _).symm.trans H; with_reducible exact H2_) | with_reducible exact H | (rw [hy104]; exact H) | exact H
       have Ny104 := Aside0.mk hy104
       clear hy104
       have H' := Aside0.mk H
       clear H
       go_wp2_with (first | ((with_reducible refine gC9 (f := 83) rfl ?_); refine goesL_ (some 27) rfl rfl Tryz.func83 (by kernel_rfl) rfl #[.slice A0 l0.length c0, .int .i64 x7_1] rfl (by (try simp only [List.map_toArray, List.map_cons, List.map_nil]); first | done | rfl | (simp only [List.length_drop, List.length_take]; rfl)) ?_; (with_reducible refine (r1d.calls _ _ l0 x7_1 t102 _ ?side1 ?side2 A7.out).mono ?_); (case side1 => repeat (first | exact (Kd.cB9 HR0.out HB.out) | (with_reducible refine Kd.cA9 ?_ _) | (with_reducible refine Kd.cN9 ?_ _) | (with_reducible refine Kd.cD9 ?_))); (case side2 => exact HC0.out); rintro e w' ⟨rfl, ⟨nd, rfl⟩⟩; refine ⟨_, rfl, ?_⟩) | ((with_reducible refine gC9 (f := 83) rfl ?_); refine goesL_ (some 30) rfl rfl Tryz.func83 (by kernel_rfl) rfl #[.slice A1 l1.length c1, .int .i64 x7_1] rfl (by (try simp only [List.map_toArray, List.map_cons, List.map_nil]); first | done | rfl | (simp only [List.length_drop, List.length_take]; rfl)) ?_; (with_reducible refine (r1d.calls _ _ l1 x7_1 t103 _ ?side1 ?side2 A8.out).mono ?_); (case side1 => repeat (first | exact (Kd.cB9 HR1.out (by repeat (first | (with_reducible first | exact HB.out | apply bA9 | apply bN9 | apply bD9) | exact HB.out))) | (with_reducible refine Kd.cA9 ?_ _) | (with_reducible refine Kd.cN9 ?_ _) | (with_reducible refine Kd.cD9 ?_))); (case side2 => exact HC1.out); rintro e w' ⟨rfl, ⟨nd, rfl⟩⟩; refine ⟨_, rfl, ?_⟩) | ((with_reducible refine gate_builtin (b := .append) (xs := #[.tmp 34, .tmp 37]) rfl ?_); (try (refine gate_guard (by rfl) ?_; dsimp only)); at_builtin; refine Kd.R_append (Kd.int .i64) (w0 := w) w.heap.size rfl (.tmp 34) (.tmp 37) 28 3 (.int .i64 0) 8 rfl Tryz.underlying28 info3 rfl (by decide) (by omega) u5 x5_1 (Int.tmod (wrap64 ((wrap64 (t102 + t103)) + x6_1)) 10000) [.int .i64 (Int.tmod (wrap64 ((wrap64 (t102 + t103)) + x6_1)) 10000)] (fun _ => True) (fun _ => False) rfl rfl ?aP (fun _ hk => hk.elim) ?aF ?aO ?aB ?aS ?aL ?_; (case aP => exact rfl); (case aB => exact (by repeat (first | (with_reducible first | exact HB.out | apply bA9 | apply bN9 | apply bD9) | exact HB.out))); (case aF => exact (fun _ _ => trivial)); (case aO => exact (by (with_reducible repeat (first | apply Kd.rA9 | apply Kd.rN9 | apply Kd.rD9)); exact HO_5.out)); (case aS => exact (bZ9 (by repeat (first | (with_reducible first | exact HB.out | apply bA9 | apply bN9 | apply bD9) | exact HB.out)))); (case aL => have := LMc9.out; omega); intro v105 w10 ho hb hg hat; rw [← Ny104.out] at ho; have n0_ := Aside0.mk (hb); have n1_ := Aside0.mk (ho); clear HB; clear HO_5; have HB := n0_; have HO106 := n1_; clear n0_ n1_; clear ho hb hg hat))
       go_roundg kj2
       case measure => have := HK1.out; have := HJ2.out; omega
       case rel => exact ⟨(y104), (wrap64 (Int.tdiv (wrap64 ((wrap64 (t102 + t103)) + x6_1)) 10000)), (wrap64 (x7_1 + 1)), (by first | rfl | (simp; done) | (simp [*]; done)), (by first | rfl | (simp; done) | (simp [*]; done)), H', ⟨by have := HK1.out; have := HJ2.out; omega⟩, ⟨by (with_reducible repeat (first | apply Kd.rA9 | apply Kd.rN9 | apply Kd.rD9)); exact HO106.out⟩, ⟨by repeat (first | (with_reducible first | exact HB.out | apply bA9 | apply bN9 | apply bD9) | exact HB.out)⟩⟩
      ·rw [if_neg c9] at H
       exact absurd H (by simp)
     ·replace c6 := Bool.eq_false_iff.mpr c6
      subst c6
      have H1 : (some x5_1) = some r := by rw [if_neg (show ¬ (false = true) by decide)] at H; exact H
      clear H
      have H := H1
      clear H1
      obtain rfl := Option.some.inj H
      go_wp2
      go_ret
      exact ⟨_, by first | rfl | (simp [eN9, eS9] <;> rfl) | (simp [*, eN9, eS9] <;> rfl), by (with_reducible repeat (first | apply Kd.rA9 | apply Kd.rN9 | apply Kd.rD9)); exact HO_5.out, by repeat (first | (with_reducible first | exact HB.out | apply bA9 | apply bN9 | apply bD9) | exact HB.out)⟩
def r1t.l0 : Nat → List Int → Int → Option (List Int)
 | 0, _, _ => none
 | k + 1, x0, x3 => if x3 > 0 then (if 0 ≤ (wrap64 (x3 - 1)) then (if (wrap64 (x3 - 1)) < (x0.length : Int) then (if (rd x0 (wrap64 (x3 - 1))) = 0 then (r1t.l0 k x0 (wrap64 (x3 - 1))) else (if 0 ≤ x3 then (if x3 ≤ (x0.length : Int) then (some (x0.take (x3 : Int).toNat)) else (none)) else (none))) else (none)) else (none)) else (if 0 ≤ x3 then (if x3 ≤ (x0.length : Int) then (some (x0.take (x3 : Int).toNat)) else (none)) else (none))
def r1t.f (k : Nat) (l0 : List Int) : Option (List Int) := r1t.l0 k l0 (l0.length : Int)
set_option maxHeartbeats 8000000 in
set_option maxRecDepth 100000 in
theorem r1t.calls (k : Nat) (P0_ : Nat → Prop) (u9000_ : Value) (l0 : List Int) (r : List Int) (w0 w : World) (hB : Below w0.heap.size w0 w) (ho0 : Kd.R (Kd.int .i64) 3 w w0.heap.size P0_ u9000_ l0) (h : r1t.f k l0 = some r) :
  Calls Tryz.prog 82 #[u9000_] w fun e w' => ∃ v0_ : Value, e = .returned (v0_) ∧ Kd.R (Kd.int .i64) 3 w' w0.heap.size (fun k_ => (P0_ k_ ∨ w.heap.size ≤ k_)) v0_ r ∧ Below w0.heap.size w0 w' ∧ Kept w w' (fun k_ => P0_ k_) := by
 have HO0 := Aside0.mk (show Kd.R (Kd.int .i64) 3 w w0.heap.size (fun k_ => (P0_ k_ ∨ w.heap.size ≤ k_)) u9000_ l0 from Kd.R_mono ho0 (fun k_ hk => (.inl hk)))
 have HK := Aside0.mk (Kept.refl w (fun k_ => P0_ k_))
 have HW0 := Aside0.mk hB.size
 have HB := Aside0.mk hB
 clear hB
 have H : (r1t.l0 k l0 (l0.length : Int)) = some r := h
 clear h
 have H' := Aside0.mk H
 clear H
 obtain ⟨Ao2, co2, eo2⟩ := Kd.rS9 HO0.out
 subst eo2
 go_enter Tryz.func82, Tryz.ntmps82
 go_wp2
 go_loopg [3] k (fun kq v3 w' => ∃ (x3_1 : Int), v3 = .int .i64 x3_1 ∧ Aside0 (r1t.l0 kq l0 x3_1 = some r) ∧ Aside0 (kq ≤ k) ∧ Aside0 (Kd.R (Kd.int .i64) 3 w' w0.heap.size (fun k_ => (P0_ k_ ∨ w.heap.size ≤ k_)) (.slice Ao2 l0.length co2) l0) ∧ Aside0 (Kept w w' (fun k_ => P0_ k_)) ∧ Aside0 (Below w0.heap.size w0 w'))
 case atStart => exact ⟨((l0.length : Int)), (by first | rfl | (simp; done) | (simp [*]; done)), H', ⟨Nat.le_refl _⟩, ⟨by (with_reducible repeat (first | apply Kd.rA9 | apply Kd.rN9 | apply Kd.rD9)); exact HO0.out⟩, ⟨by repeat (first | (with_reducible first | exact HK.out | apply Kept.alloc | apply Kept.drewN | apply Kept.drew) | exact HK.out)⟩, ⟨by repeat (first | (with_reducible first | exact HB.out | apply bA9 | apply bN9 | apply bD9) | exact HB.out)⟩⟩
 case round =>
  clear H'
  try clear p2
  obtain ⟨x3_1, rfl, HA, HK1, HO_0, HK, HB⟩ := hrel
  cases gk with
  | zero => exact absurd HA.out (by simp [r1t.l0])
  | succ k1 =>
   have H := HA.out
   clear HA
   simp only [r1t.l0] at H
   by_cases c3 : x3_1 > 0
   ·rw [if_pos c3] at H
    have c3b0 : decide (0 < x3_1) = true := decide_eq_true c3
    clear c3
    obtain ⟨ji4, hji4⟩ : ∃ j_ : Int, (wrap64 (x3_1 - 1)) = j_ := ⟨_, rfl⟩
    replace H : (if 0 ≤ (ji4) then (if (ji4) < (l0.length : Int) then (if (rd l0 (ji4)) = 0 then (r1t.l0 k1 l0 ji4) else (if 0 ≤ x3_1 then (if x3_1 ≤ (l0.length : Int) then (some (l0.take (x3_1 : Int).toNat)) else (none)) else (none))) else (none)) else (none)) = some r := by first | (rw [hji4] at H; exact H) | (simp only [hji4] at H ⊢; exact H)
    have hji4w : (IntKind.i64.wrap (x3_1 - 1)) = ji4 := (i64_w _).trans hji4
    by_cases c5 : 0 ≤ (ji4)
    ·rw [if_pos c5] at H
     have c5b0 : decide (0 ≤ (ji4)) = true := decide_eq_true c5
     clear c5
     by_cases c6 : (ji4) < (l0.length : Int)
     ·rw [if_pos c6] at H
      have c6b0 : decide ((ji4) < (l0.length : Int)) = true := decide_eq_true c6
      clear c6
      by_cases c7 : (rd l0 (ji4)) = 0
      ·rw [if_pos c7] at H
       have c7b0 : ((rd l0 (ji4)) == 0) = true := beq_iff_eq.mpr c7
       have c7b1 : ((rd l0 (ji4)) != 0) = false := bne_eq_false_iff_eq.mpr c7
       clear c7
       have H' := Aside0.mk H
       clear H
       have p107 : 0 ≤ ((ji4) : Int) := of_decide_eq_true (by first | (with_reducible assumption) | assumption)
       have q107 : (ji4) < (l0.length : Int) := of_decide_eq_true (by first | (with_reducible assumption) | assumption)
       obtain ⟨ad107, e107, hx107_0⟩ := Kd.at_int (Kd.rR9 HO_0.out).2.2 (ji4) p107 q107
       cases e107
       replace p107 := eq_true p107
       replace q107 := eq_true q107
       go_wp2
       go_roundg k1
       case measure => have := HK1.out; omega
       case rel => exact ⟨(ji4), (by first | rfl | (simp; done) | (simp only [← hji4] <;> (first | rfl | simp)) | (simp [*]; done)), H', ⟨by have := HK1.out; omega⟩, ⟨by (with_reducible repeat (first | apply Kd.rA9 | apply Kd.rN9 | apply Kd.rD9)); exact HO_0.out⟩, ⟨by repeat (first | (with_reducible first | exact HK.out | apply Kept.alloc | apply Kept.drewN | apply Kept.drew) | exact HK.out)⟩, ⟨by repeat (first | (with_reducible first | exact HB.out | apply bA9 | apply bN9 | apply bD9) | exact HB.out)⟩⟩
      ·rw [if_neg c7] at H
       have c7b0 : ((rd l0 (ji4)) == 0) = false := beq_eq_false_iff_ne.mpr c7
       have c7b1 : ((rd l0 (ji4)) != 0) = true := bne_iff_ne.mpr c7
       by_cases c8 : 0 ≤ x3_1
       ·rw [if_pos c8] at H
        have c8b0 := eq_true c8
        try (have h_c8 := c8; rw [ByteArray.size_append] at h_c8; have c8b3 := eq_true h_c8; have c8b4 := eq_false (Nat.not_lt.2 h_c8); clear h_c8)
        have c8b1 : decide (0 ≤ x3_1) = true := decide_eq_true c8
        clear c8
        by_cases c9 : x3_1 ≤ (l0.length : Int)
        ·rw [if_pos c9] at H
         have c9b0 := eq_true c9
         try (have h_c9 := c9; rw [ByteArray.size_append] at h_c9; have c9b3 := eq_true h_c9; have c9b4 := eq_false (Nat.not_lt.2 h_c9); clear h_c9)
         have c9b1 : decide (x3_1 ≤ (l0.length : Int)) = true := decide_eq_true c9
         clear c9
         obtain ⟨y108, hy108⟩ : ∃ y_ : List Int, y_ = (l0.take (x3_1 : Int).toNat) := ⟨_, rfl⟩
         replace H : (some y108) = some r := by first | (rw [hy108]; with_reducible exact H) | (have H2_ := (Option.bind_some _ _).symm.trans H; rw [hy108]; with_reducible exact H2_) | (have H2_ := (Option.bind_some _ _).symm.trans H; with_reducible exact H2_) | with_reducible exact H | (rw [hy108]; exact H) | exact H
         have Ny108 := Aside0.mk hy108
         clear hy108
         obtain rfl := Option.some.inj H
         have p107 : 0 ≤ ((ji4) : Int) := of_decide_eq_true (by first | (with_reducible assumption) | assumption)
         have q107 : (ji4) < (l0.length : Int) := of_decide_eq_true (by first | (with_reducible assumption) | assumption)
         obtain ⟨ad107, e107, hx107_0⟩ := Kd.at_int (Kd.rR9 HO_0.out).2.2 (ji4) p107 q107
         cases e107
         replace p107 := eq_true p107
         replace q107 := eq_true q107
         have q10 : (x3_1 : Int) ≤ ((l0.length : Int) : Int) := of_decide_eq_true (by first | (with_reducible assumption) | assumption)
         obtain ⟨i010, hi010, _, hsz10, _⟩ := info_parts info3
         have hcut10 := cut_to (P := Tryz.prog) 28 3 .i64 Tryz.underlying28 hi010 (some ad107) l0.length co2 x3_1 (of_decide_eq_true (by first | (with_reducible assumption) | assumption)) q10 (Kd.rR9 HO_0.out).2.1
         have hr10 := Kd.R_take (m := (x3_1 : Int).toNat) HO_0.out (by omega)
         have hy10 : y108.length = (x3_1 : Int).toNat := (by rw [Ny108.out, List.length_take]; omega)
         rw [← Ny108.out] at hr10
         rw [← hy10] at hr10 hcut10
         clear hy10 hi010 hsz10 HO_0
         have HO110 := Aside0.mk hr10
         clear hr10
         replace q10 := eq_true q10
         go_wp2
         go_ret
         exact ⟨_, by first | rfl | (simp [eN9, eS9] <;> rfl) | (simp only [← hji4]; first | rfl | (simp [eN9, eS9] <;> rfl)) | (simp [*, eN9, eS9] <;> rfl), by (with_reducible repeat (first | apply Kd.rA9 | apply Kd.rN9 | apply Kd.rD9)); exact HO110.out, by repeat (first | (with_reducible first | exact HB.out | apply bA9 | apply bN9 | apply bD9) | exact HB.out), by repeat (first | (with_reducible first | exact HK.out | apply Kept.alloc | apply Kept.drewN | apply Kept.drew) | exact HK.out)⟩
        ·rw [if_neg c9] at H
         exact absurd H (by simp)
       ·rw [if_neg c8] at H
        exact absurd H (by simp)
     ·rw [if_neg c6] at H
      exact absurd H (by simp)
    ·rw [if_neg c5] at H
     exact absurd H (by simp)
   ·rw [if_neg c3] at H
    have c3b0 : decide (0 < x3_1) = false := decide_eq_false c3
    clear c3
    by_cases c11 : 0 ≤ x3_1
    ·rw [if_pos c11] at H
     have c11b0 := eq_true c11
     try (have h_c11 := c11; rw [ByteArray.size_append] at h_c11; have c11b3 := eq_true h_c11; have c11b4 := eq_false (Nat.not_lt.2 h_c11); clear h_c11)
     have c11b1 : decide (0 ≤ x3_1) = true := decide_eq_true c11
     clear c11
     by_cases c12 : x3_1 ≤ (l0.length : Int)
     ·rw [if_pos c12] at H
      have c12b0 := eq_true c12
      try (have h_c12 := c12; rw [ByteArray.size_append] at h_c12; have c12b3 := eq_true h_c12; have c12b4 := eq_false (Nat.not_lt.2 h_c12); clear h_c12)
      have c12b1 : decide (x3_1 ≤ (l0.length : Int)) = true := decide_eq_true c12
      clear c12
      obtain ⟨y111, hy111⟩ : ∃ y_ : List Int, y_ = (l0.take (x3_1 : Int).toNat) := ⟨_, rfl⟩
      replace H : (some y111) = some r := by first | (rw [hy111]; with_reducible exact H) | (have H2_ := (Option.bind_some _ _).symm.trans H; rw [hy111]; with_reducible exact H2_) | (have H2_ := (Option.bind_some _ _).symm.trans H; with_reducible exact H2_) | with_reducible exact H | (rw [hy111]; exact H) | exact H
      have Ny111 := Aside0.mk hy111
      clear hy111
      obtain rfl := Option.some.inj H
      have q13 : (x3_1 : Int) ≤ ((l0.length : Int) : Int) := of_decide_eq_true (by first | (with_reducible assumption) | assumption)
      obtain ⟨i013, hi013, _, hsz13, _⟩ := info_parts info3
      have hcut13 := cut_to (P := Tryz.prog) 28 3 .i64 Tryz.underlying28 hi013 Ao2 l0.length co2 x3_1 (of_decide_eq_true (by first | (with_reducible assumption) | assumption)) q13 (Kd.rR9 HO_0.out).2.1
      have hr13 := Kd.R_take (m := (x3_1 : Int).toNat) HO_0.out (by omega)
      have hy13 : y111.length = (x3_1 : Int).toNat := (by rw [Ny111.out, List.length_take]; omega)
      rw [← Ny111.out] at hr13
      rw [← hy13] at hr13 hcut13
      clear hy13 hi013 hsz13 HO_0
      have HO113 := Aside0.mk hr13
      clear hr13
      replace q13 := eq_true q13
      go_wp2
      go_ret
      exact ⟨_, by first | rfl | (simp [eN9, eS9] <;> rfl) | (simp [*, eN9, eS9] <;> rfl), by (with_reducible repeat (first | apply Kd.rA9 | apply Kd.rN9 | apply Kd.rD9)); exact HO113.out, by repeat (first | (with_reducible first | exact HB.out | apply bA9 | apply bN9 | apply bD9) | exact HB.out), by repeat (first | (with_reducible first | exact HK.out | apply Kept.alloc | apply Kept.drewN | apply Kept.drew) | exact HK.out)⟩
     ·rw [if_neg c12] at H
      exact absurd H (by simp)
    ·rw [if_neg c11] at H
     exact absurd H (by simp)
def r1Times.l0 : Nat → List Int → Int → List Int → Int → Int → Option (List Int)
 | 0, _, _, _, _, _ => none
 | k + 1, x0, x1, x5, x6, x7 => if x7 < (x0.length : Int) then ((r1d.f x0 x7).bind fun t114 => (if x5.length < 17592186044416 then (r1Times.l0 k x0 x1 (x5 ++ [Int.tmod (wrap64 ((wrap64 (t114 * x1)) + x6)) 10000]) (wrap64 (Int.tdiv (wrap64 ((wrap64 (t114 * x1)) + x6)) 10000)) (wrap64 (x7 + 1))) else (none))) else (if x6 > 0 then ((r1d.f x0 x7).bind fun t118 => (if x5.length < 17592186044416 then (r1Times.l0 k x0 x1 (x5 ++ [Int.tmod (wrap64 ((wrap64 (t118 * x1)) + x6)) 10000]) (wrap64 (Int.tdiv (wrap64 ((wrap64 (t118 * x1)) + x6)) 10000)) (wrap64 (x7 + 1))) else (none))) else ((r1t.f k x5).bind fun t122 => (some t122)))
def r1Times.f (k : Nat) (l0 : List Int) (a1 : Int) : Option (List Int) := r1Times.l0 k l0 a1 ([] : List Int) 0 0
set_option maxHeartbeats 8000000 in
set_option maxRecDepth 100000 in
theorem r1Times.calls (k : Nat) (A0 : Option Addr) (c0 : Nat) (l0 : List Int) (a1 : Int) (r : List Int) (w : World) (hr0 : Kd.C (Kd.int .i64) w A0 l0.length l0) (hc0 : l0.length ≤ c0) (h : r1Times.f k l0 a1 = some r) :
  Calls Tryz.prog 54 #[.slice A0 l0.length c0, .int .i64 a1] w fun e w' => ∃ v0_ : Value, e = .returned (v0_) ∧ Kd.R (Kd.int .i64) 3 w' w.heap.size (fun _ => True) v0_ r ∧ Below w.heap.size w w' := by
 have HR0 := Aside0.mk hr0
 have HC0 := Aside0.mk hc0
 clear hr0 hc0
 have HB := Aside0.mk (Below.refl w.heap.size w)
 have H : (r1Times.l0 k l0 a1 ([] : List Int) 0 0) = some r := h
 clear h
 have H' := Aside0.mk H
 clear H
 go_enter Tryz.func54, Tryz.ntmps54
 go_wp2
 go_loopg [5, 6, 7] k (fun kq v5 v6 v7 w' => ∃ (x5_1 : List Int) (x6_1 : Int) (x7_1 : Int), v6 = .int .i64 x6_1 ∧ v7 = .int .i64 x7_1 ∧ Aside0 (r1Times.l0 kq l0 a1 x5_1 x6_1 x7_1 = some r) ∧ Aside0 (kq ≤ k) ∧ Aside0 (Kd.R (Kd.int .i64) 3 w' w.heap.size (fun _ => True) v5 x5_1) ∧ Aside0 (Below w.heap.size w w'))
 case atStart => exact ⟨(([] : List Int)), (0), (0), (by first | rfl | (simp; done) | (simp [*]; done)), (by first | rfl | (simp; done) | (simp [*]; done)), H', ⟨Nat.le_refl _⟩, ⟨by first | exact Kd.R_nil _ _ _ _ _ | exact Kd.N_nil _ _ _ _ _ | exact Kd.V_nil _ _ _ _ _ | exact Kd.Q_nil _ _ _ _ _ | exact Kd.S_nil _ _ _ _ _⟩, ⟨by repeat (first | (with_reducible first | exact HB.out | apply bA9 | apply bN9 | apply bD9) | exact HB.out)⟩⟩
 case round =>
  clear H'
  try clear p2
  obtain ⟨x5_1, x6_1, x7_1, rfl, rfl, HA, HK1, HO_5, HB⟩ := hrel
  cases gk with
  | zero => exact absurd HA.out (by simp [r1Times.l0])
  | succ k1 =>
   have H := HA.out
   clear HA
   simp only [r1Times.l0] at H
   by_cases c3 : x7_1 < (l0.length : Int)
   ·rw [if_pos c3] at H
    have c3b0 : decide (x7_1 < (l0.length : Int)) = true := decide_eq_true c3
    clear c3
    replace H := Option.bind_eq_some_iff.mp H
    obtain ⟨t114, A40, H⟩ := H
    (try dsimp only at H)
    have A4 := Aside0.mk A40
    clear A40
    by_cases c5 : x5_1.length < 17592186044416
    ·rw [if_pos c5] at H
     have LMc5 := Aside0.mk c5
     clear c5
     obtain ⟨y115, hy115⟩ : ∃ y_ : List Int, y_ = (x5_1 ++ [Int.tmod (wrap64 ((wrap64 (t114 * a1)) + x6_1)) 10000]) := ⟨_, rfl⟩
     replace H : (r1Times.l0 k1 l0 a1 y115 (wrap64 (Int.tdiv (wrap64 ((wrap64 (t114 * a1)) + x6_1)) 10000)) (wrap64 (x7_1 + 1))) = some r := by first | (rw [hy115]; with_reducible exact H) | (have H2_ := (Option.bind_some _ _).symm.trans H; rw [hy115]; with_reducible exact H2_) | (have H2_ := (Option.bind_some _ _).symm.trans H; with_reducible exact H2_) | with_reducible exact H | (rw [hy115]; exact H) | exact H
     have Ny115 := Aside0.mk hy115
     clear hy115
     have H' := Aside0.mk H
     clear H
     go_wp2_with (first | ((with_reducible refine gC9 (f := 83) rfl ?_); refine goesL_ (some 21) rfl rfl Tryz.func83 (by kernel_rfl) rfl #[.slice A0 l0.length c0, .int .i64 x7_1] rfl (by (try simp only [List.map_toArray, List.map_cons, List.map_nil]); first | done | rfl | (simp only [List.length_drop, List.length_take]; rfl)) ?_; (with_reducible refine (r1d.calls _ _ l0 x7_1 t114 _ ?side1 ?side2 A4.out).mono ?_); (case side1 => repeat (first | exact (Kd.cB9 HR0.out HB.out) | (with_reducible refine Kd.cA9 ?_ _) | (with_reducible refine Kd.cN9 ?_ _) | (with_reducible refine Kd.cD9 ?_))); (case side2 => exact HC0.out); rintro e w' ⟨rfl, ⟨nd, rfl⟩⟩; refine ⟨_, rfl, ?_⟩) | ((with_reducible refine gate_builtin (b := .append) (xs := #[.tmp 26, .tmp 29]) rfl ?_); at_builtin; refine Kd.R_append (Kd.int .i64) (w0 := w) w.heap.size rfl (.tmp 26) (.tmp 29) 28 3 (.int .i64 0) 8 rfl Tryz.underlying28 info3 rfl (by decide) (by omega) u5 x5_1 (Int.tmod (wrap64 ((wrap64 (t114 * a1)) + x6_1)) 10000) [.int .i64 (Int.tmod (wrap64 ((wrap64 (t114 * a1)) + x6_1)) 10000)] (fun _ => True) (fun _ => False) rfl rfl ?aP (fun _ hk => hk.elim) ?aF ?aO ?aB ?aS ?aL ?_; (case aP => exact rfl); (case aB => exact (by repeat (first | (with_reducible first | exact HB.out | apply bA9 | apply bN9 | apply bD9) | exact HB.out))); (case aF => exact (fun _ _ => trivial)); (case aO => exact (by (with_reducible repeat (first | apply Kd.rA9 | apply Kd.rN9 | apply Kd.rD9)); exact HO_5.out)); (case aS => exact (bZ9 (by repeat (first | (with_reducible first | exact HB.out | apply bA9 | apply bN9 | apply bD9) | exact HB.out)))); (case aL => have := LMc5.out; omega); intro v116 w6 ho hb hg hat; rw [← Ny115.out] at ho; have n0_ := Aside0.mk (hb); have n1_ := Aside0.mk (ho); clear HB; clear HO_5; have HB := n0_; have HO117 := n1_; clear n0_ n1_; clear ho hb hg hat))
     go_roundg k1
     case measure => have := HK1.out; omega
     case rel => exact ⟨(y115), (wrap64 (Int.tdiv (wrap64 ((wrap64 (t114 * a1)) + x6_1)) 10000)), (wrap64 (x7_1 + 1)), (by first | rfl | (simp; done) | (simp [*]; done)), (by first | rfl | (simp; done) | (simp [*]; done)), H', ⟨by have := HK1.out; omega⟩, ⟨by (with_reducible repeat (first | apply Kd.rA9 | apply Kd.rN9 | apply Kd.rD9)); exact HO117.out⟩, ⟨by repeat (first | (with_reducible first | exact HB.out | apply bA9 | apply bN9 | apply bD9) | exact HB.out)⟩⟩
    ·rw [if_neg c5] at H
     exact absurd H (by simp)
   ·rw [if_neg c3] at H
    have c3b0 : decide (x7_1 < (l0.length : Int)) = false := decide_eq_false c3
    clear c3
    by_cases c7 : x6_1 > 0
    ·rw [if_pos c7] at H
     have c7b0 : decide (0 < x6_1) = true := decide_eq_true c7
     clear c7
     replace H := Option.bind_eq_some_iff.mp H
     obtain ⟨t118, A80, H⟩ := H
     (try dsimp only at H)
     have A8 := Aside0.mk A80
     clear A80
     by_cases c9 : x5_1.length < 17592186044416
     ·rw [if_pos c9] at H
      have LMc9 := Aside0.mk c9
      clear c9
      obtain ⟨y119, hy119⟩ : ∃ y_ : List Int, y_ = (x5_1 ++ [Int.tmod (wrap64 ((wrap64 (t118 * a1)) + x6_1)) 10000]) := ⟨_, rfl⟩
      replace H : (r1Times.l0 k1 l0 a1 y119 (wrap64 (Int.tdiv (wrap64 ((wrap64 (t118 * a1)) + x6_1)) 10000)) (wrap64 (x7_1 + 1))) = some r := by first | (rw [hy119]; with_reducible exact H) | (have H2_ := (Option.bind_some _ _).symm.trans H; rw [hy119]; with_reducible exact H2_) | (have H2_ := (Option.bind_some _ _).symm.trans H; with_reducible exact H2_) | with_reducible exact H | (rw [hy119]; exact H) | exact H
      have Ny119 := Aside0.mk hy119
      clear hy119
      have H' := Aside0.mk H
      clear H
      go_wp2_with (first | ((with_reducible refine gC9 (f := 83) rfl ?_); refine goesL_ (some 21) rfl rfl Tryz.func83 (by kernel_rfl) rfl #[.slice A0 l0.length c0, .int .i64 x7_1] rfl (by (try simp only [List.map_toArray, List.map_cons, List.map_nil]); first | done | rfl | (simp only [List.length_drop, List.length_take]; rfl)) ?_; (with_reducible refine (r1d.calls _ _ l0 x7_1 t118 _ ?side1 ?side2 A8.out).mono ?_); (case side1 => repeat (first | exact (Kd.cB9 HR0.out HB.out) | (with_reducible refine Kd.cA9 ?_ _) | (with_reducible refine Kd.cN9 ?_ _) | (with_reducible refine Kd.cD9 ?_))); (case side2 => exact HC0.out); rintro e w' ⟨rfl, ⟨nd, rfl⟩⟩; refine ⟨_, rfl, ?_⟩) | ((with_reducible refine gate_builtin (b := .append) (xs := #[.tmp 26, .tmp 29]) rfl ?_); at_builtin; refine Kd.R_append (Kd.int .i64) (w0 := w) w.heap.size rfl (.tmp 26) (.tmp 29) 28 3 (.int .i64 0) 8 rfl Tryz.underlying28 info3 rfl (by decide) (by omega) u5 x5_1 (Int.tmod (wrap64 ((wrap64 (t118 * a1)) + x6_1)) 10000) [.int .i64 (Int.tmod (wrap64 ((wrap64 (t118 * a1)) + x6_1)) 10000)] (fun _ => True) (fun _ => False) rfl rfl ?aP (fun _ hk => hk.elim) ?aF ?aO ?aB ?aS ?aL ?_; (case aP => exact rfl); (case aB => exact (by repeat (first | (with_reducible first | exact HB.out | apply bA9 | apply bN9 | apply bD9) | exact HB.out))); (case aF => exact (fun _ _ => trivial)); (case aO => exact (by (with_reducible repeat (first | apply Kd.rA9 | apply Kd.rN9 | apply Kd.rD9)); exact HO_5.out)); (case aS => exact (bZ9 (by repeat (first | (with_reducible first | exact HB.out | apply bA9 | apply bN9 | apply bD9) | exact HB.out)))); (case aL => have := LMc9.out; omega); intro v120 w10 ho hb hg hat; rw [← Ny119.out] at ho; have n0_ := Aside0.mk (hb); have n1_ := Aside0.mk (ho); clear HB; clear HO_5; have HB := n0_; have HO121 := n1_; clear n0_ n1_; clear ho hb hg hat))
      go_roundg k1
      case measure => have := HK1.out; omega
      case rel => exact ⟨(y119), (wrap64 (Int.tdiv (wrap64 ((wrap64 (t118 * a1)) + x6_1)) 10000)), (wrap64 (x7_1 + 1)), (by first | rfl | (simp; done) | (simp [*]; done)), (by first | rfl | (simp; done) | (simp [*]; done)), H', ⟨by have := HK1.out; omega⟩, ⟨by (with_reducible repeat (first | apply Kd.rA9 | apply Kd.rN9 | apply Kd.rD9)); exact HO121.out⟩, ⟨by repeat (first | (with_reducible first | exact HB.out | apply bA9 | apply bN9 | apply bD9) | exact HB.out)⟩⟩
     ·rw [if_neg c9] at H
      exact absurd H (by simp)
    ·rw [if_neg c7] at H
     have c7b0 : decide (0 < x6_1) = false := decide_eq_false c7
     clear c7
     replace H := Option.bind_eq_some_iff.mp H
     obtain ⟨t122, A110, H⟩ := H
     replace H : (some t122) = some r := H
     have A11 := Aside0.mk A110
     clear A110
     obtain rfl := Option.some.inj H
     obtain ⟨Ao12, co12, eo12⟩ := Kd.rS9 HO_5.out
     subst eo12
     go_wp2_with (first | ((with_reducible refine gC9 (f := 82) rfl ?_); refine goesL_ (some 34) rfl rfl Tryz.func82 (by kernel_rfl) rfl #[.slice Ao12 x5_1.length co12] rfl (by (try simp only [List.map_toArray, List.map_cons, List.map_nil]); first | done | rfl | (simp only [List.length_drop, List.length_take]; rfl)) ?_; (with_reducible refine (r1t.calls k1 (fun k_ => some k_ = (.slice Ao12 x5_1.length co12 : Value).ownBlock) (.slice Ao12 x5_1.length co12) x5_1 t122 w _ ?side1 ?side2 A11.out).mono ?_); (case side1 => repeat (first | (with_reducible first | exact HB.out | apply bA9 | apply bN9 | apply bD9) | exact HB.out)); (case side2 => exact Kd.R_tight rfl HO_5.out); rintro e w13 ⟨v123, rfl, ho0, hb, hkp⟩; refine ⟨_, rfl, ?_⟩; have n0_ := Aside0.mk (Kd.R_mono (ok' := fun k_ => True) ho0 (fun k_ hk_ => trivial)); have n1_ := Aside0.mk (hb); clear HB; clear HO_5; have HO124 := n0_; have HB := n1_; clear n0_ n1_; (try clear hb); (try clear hkp); (try clear ho0)))
     go_ret
     exact ⟨_, by first | rfl | (simp [eN9, eS9] <;> rfl) | (simp [*, eN9, eS9] <;> rfl), by (with_reducible repeat (first | apply Kd.rA9 | apply Kd.rN9 | apply Kd.rD9)); exact HO124.out, by repeat (first | (with_reducible first | exact HB.out | apply bA9 | apply bN9 | apply bD9) | exact HB.out)⟩
end Go.Proofs.YthppjdmkinbccaaGreatDoor.Print

namespace Go.Proofs.YthppjdmkinbccaaGreatDoor.Print
open Go.RowKit Go.Proofs.YthppjdmkinbccaaGreatDoorW.PrintWords Go.Proofs.YthppjdmkinbccaaGreatDoorW.PrintLast Go.Proofs.YthppjdmkinbccaaGreatDoorW.PrintMore
attribute [local go_sem] max2_int min2_int max_two min_two max_three min_three max_four min_four   -- for this text's walks alone
set_option linter.unusedVariables false
set_option linter.unusedSimpArgs false
def r1Sm.l0 : Nat → Int → List Int → Option (List Int)
 | 0, _, _ => none
 | k + 1, x0, x3 => if x0 > 0 then (if x3.length < 17592186044416 then (r1Sm.l0 k (wrap64 (Int.tdiv x0 10000)) (x3 ++ [Int.tmod x0 10000])) else (none)) else (some x3)
def r1Sm.f (k : Nat) (a0 : Int) : Option (List Int) := r1Sm.l0 k a0 ([] : List Int)
set_option maxHeartbeats 8000000 in
set_option maxRecDepth 100000 in
theorem r1Sm.calls (k : Nat) (a0 : Int) (r : List Int) (w : World) (h : r1Sm.f k a0 = some r) :
  Calls Tryz.prog 55 #[.int .i64 a0] w fun e w' => ∃ v0_ : Value, e = .returned (v0_) ∧ Kd.R (Kd.int .i64) 3 w' w.heap.size (fun _ => True) v0_ r ∧ Below w.heap.size w w' := by
 have HB := Aside0.mk (Below.refl w.heap.size w)
 have H : (r1Sm.l0 k a0 ([] : List Int)) = some r := h
 clear h
 have H' := Aside0.mk H
 clear H
 go_enter Tryz.func55, Tryz.ntmps55
 go_wp2
 go_loopg [0, 3] k (fun kq v0 v3 w' => ∃ (x0_1 : Int) (x3_1 : List Int), v0 = .int .i64 x0_1 ∧ Aside0 (r1Sm.l0 kq x0_1 x3_1 = some r) ∧ Aside0 (kq ≤ k) ∧ Aside0 (Kd.R (Kd.int .i64) 3 w' w.heap.size (fun _ => True) v3 x3_1) ∧ Aside0 (Below w.heap.size w w'))
 case atStart => exact ⟨(a0), (([] : List Int)), (by first | rfl | (simp; done) | (simp [*]; done)), H', ⟨Nat.le_refl _⟩, ⟨by first | exact Kd.R_nil _ _ _ _ _ | exact Kd.N_nil _ _ _ _ _ | exact Kd.V_nil _ _ _ _ _ | exact Kd.Q_nil _ _ _ _ _ | exact Kd.S_nil _ _ _ _ _⟩, ⟨by repeat (first | (with_reducible first | exact HB.out | apply bA9 | apply bN9 | apply bD9) | exact HB.out)⟩⟩
 case round =>
  clear H'
  obtain ⟨x0_1, x3_1, rfl, HA, HK1, HO_3, HB⟩ := hrel
  cases gk with
  | zero => exact absurd HA.out (by simp [r1Sm.l0])
  | succ k1 =>
   have H := HA.out
   clear HA
   simp only [r1Sm.l0] at H
   by_cases c2 : x0_1 > 0
   ·rw [if_pos c2] at H
    have c2b0 : decide (0 < x0_1) = true := decide_eq_true c2
    clear c2
    by_cases c3 : x3_1.length < 17592186044416
    ·rw [if_pos c3] at H
     have LMc3 := Aside0.mk c3
     clear c3
     obtain ⟨y125, hy125⟩ : ∃ y_ : List Int, y_ = (x3_1 ++ [Int.tmod x0_1 10000]) := ⟨_, rfl⟩
     replace H : (r1Sm.l0 k1 (wrap64 (Int.tdiv x0_1 10000)) y125) = some r := by first | (rw [hy125]; with_reducible exact H) | (have H2_ := (Option.bind_some _ _).symm.trans H; rw [hy125]; with_reducible exact H2_) | (have H2_ := (Option.bind_some _ _).symm.trans H; with_reducible exact H2_) | with_reducible exact H | (rw [hy125]; exact H) | exact H
     have Ny125 := Aside0.mk hy125
     clear hy125
     have H' := Aside0.mk H
     clear H
     go_wp2_with (first | ((with_reducible refine gate_builtin (b := .append) (xs := #[.tmp 6, .tmp 9]) rfl ?_); at_builtin; refine Kd.R_append (Kd.int .i64) (w0 := w) w.heap.size rfl (.tmp 6) (.tmp 9) 28 3 (.int .i64 0) 8 rfl Tryz.underlying28 info3 rfl (by decide) (by omega) u3 x3_1 (Int.tmod x0_1 10000) [.int .i64 (Int.tmod x0_1 10000)] (fun _ => True) (fun _ => False) rfl rfl ?aP (fun _ hk => hk.elim) ?aF ?aO ?aB ?aS ?aL ?_; (case aP => exact rfl); (case aB => exact (by repeat (first | (with_reducible first | exact HB.out | apply bA9 | apply bN9 | apply bD9) | exact HB.out))); (case aF => exact (fun _ _ => trivial)); (case aO => exact (by (with_reducible repeat (first | apply Kd.rA9 | apply Kd.rN9 | apply Kd.rD9)); exact HO_3.out)); (case aS => exact (bZ9 (by repeat (first | (with_reducible first | exact HB.out | apply bA9 | apply bN9 | apply bD9) | exact HB.out)))); (case aL => have := LMc3.out; omega); intro v126 w4 ho hb hg hat; rw [← Ny125.out] at ho; have n0_ := Aside0.mk (hb); have n1_ := Aside0.mk (ho); clear HB; clear HO_3; have HB := n0_; have HO127 := n1_; clear n0_ n1_; clear ho hb hg hat))
     go_roundg k1
     case measure => have := HK1.out; omega
     case rel => exact ⟨(wrap64 (Int.tdiv x0_1 10000)), (y125), (by first | rfl | (simp; done) | (simp [*]; done)), H', ⟨by have := HK1.out; omega⟩, ⟨by (with_reducible repeat (first | apply Kd.rA9 | apply Kd.rN9 | apply Kd.rD9)); exact HO127.out⟩, ⟨by repeat (first | (with_reducible first | exact HB.out | apply bA9 | apply bN9 | apply bD9) | exact HB.out)⟩⟩
    ·rw [if_neg c3] at H
     exact absurd H (by simp)
   ·rw [if_neg c2] at H
    have c2b0 : decide (0 < x0_1) = false := decide_eq_false c2
    clear c2
    obtain rfl := Option.some.inj H
    go_wp2
    go_ret
    exact ⟨_, by first | rfl | (simp [eN9, eS9] <;> rfl) | (simp [*, eN9, eS9] <;> rfl), by (with_reducible repeat (first | apply Kd.rA9 | apply Kd.rN9 | apply Kd.rD9)); exact HO_3.out, by repeat (first | (with_reducible first | exact HB.out | apply bA9 | apply bN9 | apply bD9) | exact HB.out)⟩
def r1Of.l0 : Nat → List Int → List Int → Int → Option (List Int)
 | 0, _, _, _ => none
 | k + 1, x0, x3, x4 => if x4 ≥ 0 then ((r1Times.f k x3 65536).bind fun t128 => ((r1Times.f k t128 65536).bind fun t131 => (if 0 ≤ x4 then (if x4 < (x0.length : Int) then ((r1Sm.f k (wrap64 (rd x0 x4))).bind fun t135 => ((r1Add.f k t131 t135).bind fun t138 => (r1Of.l0 k x0 t138 (wrap64 (x4 - 1))))) else (none)) else (none)))) else (some x3)
def r1Of.f (k : Nat) (l0 : List Int) : Option (List Int) := r1Of.l0 k l0 ([] : List Int) (wrap64 ((l0.length : Int) - 1))
def r1Of.T5 : Bool × List (List Nat × List Nat) := (true, [([], []), ([0], [0]), ([1, 1], [1]), ([], []), ([], []), ([3, 4], [3, 4]), ([5], [5]), ([6], [6]), ([7, 2], [7]), ([2, 8, 8], [2, 8]), ([9, 9, 0, 1, 2, 3, 4, 5, 6, 7, 8, 9], [0, 9])])
def r1Of.B5 : List Nat := [0, 1, 3, 0, 0, 24, 56, 120, 255, 511, 1023]
theorem r1Of.tab5 : rtab .any (opsOf Tryz.f25 5) = r1Of.T5 := by kernel_rfl
theorem r1Of.bits5 : waitsOk r1Of.T5.2 r1Of.B5 = true := by kernel_rfl
set_option maxHeartbeats 8000000 in
set_option maxRecDepth 100000 in
theorem r1Of.calls (k : Nat) (A0 : Option Addr) (c0 : Nat) (l0 : List Int) (r : List Int) (w : World) (hr0 : Kd.C (Kd.int .u32) w A0 l0.length l0) (hc0 : l0.length ≤ c0) (h : r1Of.f k l0 = some r) :
  Calls Tryz.prog 25 #[.slice A0 l0.length c0] w fun e w' => ∃ v0_ : Value, e = .returned (v0_) ∧ Kd.R (Kd.int .i64) 3 w' w.heap.size (fun _ => True) v0_ r ∧ Below w.heap.size w w' := by
 have HR0 := Aside0.mk hr0
 have HC0 := Aside0.mk hc0
 clear hr0 hc0
 have HB := Aside0.mk (Below.refl w.heap.size w)
 have H : (r1Of.l0 k l0 ([] : List Int) (wrap64 ((l0.length : Int) - 1))) = some r := h
 clear h
 have H' := Aside0.mk H
 clear H
 go_enter Tryz.func25, Tryz.ntmps25
 go_wp2
 go_loopg [3, 4] k (fun kq v3 v4 w' => ∃ (x3_1 : List Int) (x4_1 : Int), v4 = .int .i64 x4_1 ∧ Aside0 (r1Of.l0 kq l0 x3_1 x4_1 = some r) ∧ Aside0 (kq ≤ k) ∧ Aside0 (Kd.R (Kd.int .i64) 3 w' w.heap.size (fun _ => True) v3 x3_1) ∧ Aside0 (Below w.heap.size w w'))
 case atStart => exact ⟨(([] : List Int)), (wrap64 ((l0.length : Int) - 1)), (by first | rfl | (simp; done) | (simp [*]; done)), H', ⟨Nat.le_refl _⟩, ⟨by first | exact Kd.R_nil _ _ _ _ _ | exact Kd.N_nil _ _ _ _ _ | exact Kd.V_nil _ _ _ _ _ | exact Kd.Q_nil _ _ _ _ _ | exact Kd.S_nil _ _ _ _ _⟩, ⟨by repeat (first | (with_reducible first | exact HB.out | apply bA9 | apply bN9 | apply bD9) | exact HB.out)⟩⟩
 case round =>
  clear H'
  obtain ⟨x3_1, x4_1, rfl, HA, HK1, HO_3, HB⟩ := hrel
  cases gk with
  | zero => exact absurd HA.out (by simp [r1Of.l0])
  | succ k1 =>
   have H := HA.out
   clear HA
   simp only [r1Of.l0] at H
   by_cases c2 : x4_1 ≥ 0
   ·rw [if_pos c2] at H
    have c2b0 : decide (0 ≤ x4_1) = true := decide_eq_true c2
    clear c2
    replace H := Option.bind_eq_some_iff.mp H
    obtain ⟨t128, A30, H⟩ := H
    (try dsimp only at H)
    have A3 := Aside0.mk A30
    clear A30
    replace H := Option.bind_eq_some_iff.mp H
    obtain ⟨t131, A40, H⟩ := H
    (try dsimp only at H)
    have A4 := Aside0.mk A40
    clear A40
    by_cases c5 : 0 ≤ x4_1
    ·rw [if_pos c5] at H
     have c5b0 : decide (0 ≤ x4_1) = true := decide_eq_true c5
     clear c5
     by_cases c6 : x4_1 < (l0.length : Int)
     ·rw [if_pos c6] at H
      have c6b0 : decide (x4_1 < (l0.length : Int)) = true := decide_eq_true c6
      clear c6
      replace H := Option.bind_eq_some_iff.mp H
      obtain ⟨t135, A70, H⟩ := H
      (try dsimp only at H)
      have A7 := Aside0.mk A70
      clear A70
      replace H := Option.bind_eq_some_iff.mp H
      obtain ⟨t138, A80, H⟩ := H
      (try dsimp only at H)
      have A8 := Aside0.mk A80
      clear A80
      have H' := Aside0.mk H
      clear H
      try go_wp2
      have n0_ := Aside0.mk (Kd.rD9 HO_3.out)
      have n1_ := Aside0.mk (bD9 HB.out)
      clear HO_3
      clear HB
      have HO_3 := n0_
      have HB := n1_
      clear n0_ n1_
      have p134 : 0 ≤ (x4_1 : Int) := of_decide_eq_true (by first | (with_reducible assumption) | assumption)
      have q134 : x4_1 < (l0.length : Int) := of_decide_eq_true (by first | (with_reducible assumption) | assumption)
      obtain ⟨ad134, e134, hx134_0⟩ := Kd.at_int HR0.out x4_1 p134 q134
      have hw134_0 := hx134_0
      cases e134
      replace hx134_0 := (HB.out.cell (World.block_lt_of_cell? w _ hx134_0)).trans hx134_0
      replace p134 := eq_true p134
      replace q134 := eq_true q134
      obtain ⟨Ao10, co10, eo10⟩ := Kd.rS9 HO_3.out
      (first | subst eo10 | (injection eo10 with f1_ f2_ f3_; have f4_ := f1_.symm; have f5_ := f3_.symm; clear f1_ f2_ f3_; subst f4_; subst f5_))
      refine start_ (n := 11) (S := fun w' => w'.cell? (ad134.add (x4_1).toNat) = some (.int .u32 (rd l0 x4_1))) (ds := []) #[false, false, false, false, false, false, false, false, false, false, false] (by kernel_rfl) rfl rfl (((HB.out.cell (World.block_lt_of_cell? w _ hw134_0)).trans hw134_0)) (fun hHeld => ?_); refine with_tabW r1Of.tab5 r1Of.bits5 (fun HT_ HW_ => ?_)
      generalize wr.drew = w9 at HO_3 HB hx134_0 hHeld ⊢
      refine pure_ (i := 0) (N := some 12) (v := ?_) (a' := ?_) #[true, false, false, false, false, false, false, false, false, false, false] rfl rfl (any_of HT_.out (by kernel_rfl)) (fun _ _ _ h => h) (Or.inl ⟨by rfl, ?_⟩) ?_ ?_
      rotate_left
      ·intro w'
       go_simp
       with_reducible rfl
      rotate_left
      ·simp only [Act.put, List.setIfInBounds_toArray, List.set_cons_zero, List.set_cons_succ, i64_w, i32_w]
       rfl
      refine pure_ (i := 3) (N := some 15) (v := ?_) (a' := ?_) #[true, false, false, true, false, false, false, false, false, false, false] rfl rfl (any_of HT_.out (by kernel_rfl)) (fun _ _ _ h => h) (Or.inl ⟨by rfl, ?_⟩) ?_ ?_
      rotate_left
      ·intro w'
       go_simp
       with_reducible rfl
      rotate_left
      ·simp only [Act.put, List.setIfInBounds_toArray, List.set_cons_zero, List.set_cons_succ, i64_w, i32_w]
       rfl
      refine pure_ (i := 4) (N := some 16) (v := ?_) (a' := ?_) #[true, false, false, true, true, false, false, false, false, false, false] rfl rfl (any_of HT_.out (by kernel_rfl)) (fun _ _ _ h => h) (Or.inl ⟨by rfl, ?_⟩) ?_ ?_
      rotate_left
      ·intro w'
       go_simp
       with_reducible rfl
      rotate_left
      ·simp only [Act.put, List.setIfInBounds_toArray, List.set_cons_zero, List.set_cons_succ, i64_w, i32_w]
       rfl
      refine pure_ (i := 5) (N := some 17) (v := ?_) (a' := ?_) #[true, false, false, true, true, true, false, false, false, false, false] rfl rfl (any_of HT_.out (by kernel_rfl)) (fun _ _ _ h => h) (Or.inl ⟨by rfl, ?_⟩) ?_ ?_
      rotate_left
      ·intro w'
       go_simp
       with_reducible rfl
      rotate_left
      ·simp only [Act.put, List.setIfInBounds_toArray, List.set_cons_zero, List.set_cons_succ, i64_w, i32_w]
       rfl
      refine take_ (i := 6) (N := some 18) (v := ?_) (a' := ?_) #[true, false, false, true, true, true, true, false, false, false, false] rfl rfl (take_ofW HT_.out HW_.out (by kernel_rfl)) (fun _ _ _ h => h) (Or.inl ⟨by rfl, ?_⟩) hHeld ?_ ?_
      rotate_left
      ·intro w' s0
       go_simp
       with_reducible rfl
      rotate_left
      ·simp only [Act.put, List.setIfInBounds_toArray, List.set_cons_zero, List.set_cons_succ, i64_w, i32_w]
       rfl
      refine pure_ (i := 7) (N := some 19) (v := ?_) (a' := ?_) #[true, false, false, true, true, true, true, true, false, false, false] rfl rfl (any_of HT_.out (by kernel_rfl)) (fun _ _ _ h => h) (Or.inl ⟨by rfl, ?_⟩) ?_ ?_
      rotate_left
      ·intro w'
       go_simp
       with_reducible rfl
      rotate_left
      ·simp only [Act.put, List.setIfInBounds_toArray, List.set_cons_zero, List.set_cons_succ, i64_w, i32_w]
       rfl
      refine one_ (i := 1) (N := some 13) #[true, true, false, true, true, true, true, true, false, false, false] rfl rfl (one_of HT_.out (by kernel_rfl)) (by decide) (fun K hK => ?_)
      refine goes_ Tryz.func54 (by kernel_rfl) rfl #[.slice Ao10 x3_1.length co10, .int .i64 65536] (by rfl) rfl rfl (by (try simp only [List.map_toArray, List.map_cons, List.map_nil]); first | done | rfl | (simp only [List.length_drop, List.length_take]; rfl)) ?_
      with_reducible refine (r1Times.calls k1 _ _ x3_1 65536 t128 _ ?side1 ?side2 A3.out).mono ?_
      (case side1 => repeat (first | exact (Kd.rR9 HO_3.out).2.2 | (with_reducible refine Kd.cA9 ?_ _) | (with_reducible refine Kd.cN9 ?_ _) | (with_reducible refine Kd.cD9 ?_)))
      (case side2 => exact (Kd.rR9 HO_3.out).2.1)
      rintro e w11 ⟨v129, rfl, ho0, hb⟩
      refine ⟨_, rfl, ?_⟩
      have n0_ := Aside0.mk (Kd.R_elder' (by (with_reducible repeat (first | apply Kd.rA9 | apply Kd.rN9 | apply Kd.rD9)); exact HO_3.out) (Kd.R_base ho0) hb)
      have n1_ := Aside0.mk (Kd.rL9 (Kd.R_new' ho0 (Kd.R_lt (by (with_reducible repeat (first | apply Kd.rA9 | apply Kd.rN9 | apply Kd.rD9)); exact HO_3.out))) (bZ9 (by repeat (first | (with_reducible first | exact HB.out | apply bA9 | apply bN9 | apply bD9) | exact HB.out))))
      have n2_ := Aside0.mk (bT9 (by repeat (first | (with_reducible first | exact HB.out | apply bA9 | apply bN9 | apply bD9) | exact HB.out)) hb)
      clear HO_3
      clear HB
      have HO_3 := n0_
      have HO130 := n1_
      have HB := n2_
      clear n0_ n1_ n2_
      (try clear hb)
      (try clear hb2)
      (try clear hk)
      (try clear hi)
      (try clear ho0)
      obtain ⟨Ao12, co12, eo12⟩ := Kd.rS9 HO130.out
      (first | subst eo12 | (injection eo12 with f1_ f2_ f3_; have f4_ := f1_.symm; have f5_ := f3_.symm; clear f1_ f2_ f3_; subst f4_; subst f5_))
      refine hK.out _ _ (((HB.out.cell (World.block_lt_of_cell? w _ hw134_0)).trans hw134_0)) (fun hHeld => ?_)
      clear hK K
      refine norm_ (a' := ?_) ?_ ?_
      rotate_left
      ·show Act.put _ (some 13) _ = _
       simp only [Act.put, List.setIfInBounds_toArray, List.set_cons_zero, List.set_cons_succ, i64_w, i32_w]
       rfl
      refine one_ (i := 2) (N := some 14) #[true, true, true, true, true, true, true, true, false, false, false] rfl rfl (one_of HT_.out (by kernel_rfl)) (by decide) (fun K hK => ?_)
      refine goes_ Tryz.func54 (by kernel_rfl) rfl #[.slice Ao12 t128.length co12, .int .i64 65536] (by rfl) rfl rfl (by (try simp only [List.map_toArray, List.map_cons, List.map_nil]); first | done | rfl | (simp only [List.length_drop, List.length_take]; rfl)) ?_
      with_reducible refine (r1Times.calls k1 _ _ t128 65536 t131 _ ?side1 ?side2 A4.out).mono ?_
      (case side1 => repeat (first | exact (Kd.rR9 HO130.out).2.2 | (with_reducible refine Kd.cA9 ?_ _) | (with_reducible refine Kd.cN9 ?_ _) | (with_reducible refine Kd.cD9 ?_)))
      (case side2 => exact (Kd.rR9 HO130.out).2.1)
      rintro e w13 ⟨v132, rfl, ho0, hb⟩
      refine ⟨_, rfl, ?_⟩
      have n0_ := Aside0.mk (Kd.R_elder' (by (with_reducible repeat (first | apply Kd.rA9 | apply Kd.rN9 | apply Kd.rD9)); exact HO_3.out) (Kd.R_base ho0) hb)
      have n1_ := Aside0.mk (Kd.R_elder' (by (with_reducible repeat (first | apply Kd.rA9 | apply Kd.rN9 | apply Kd.rD9)); exact HO130.out) (Kd.R_base ho0) hb)
      have n2_ := Aside0.mk (Kd.rL9 (Kd.R_new' (Kd.R_new' ho0 (Kd.R_lt (by (with_reducible repeat (first | apply Kd.rA9 | apply Kd.rN9 | apply Kd.rD9)); exact HO_3.out))) (Kd.R_lt (by (with_reducible repeat (first | apply Kd.rA9 | apply Kd.rN9 | apply Kd.rD9)); exact HO130.out))) (bZ9 (by repeat (first | (with_reducible first | exact HB.out | apply bA9 | apply bN9 | apply bD9) | exact HB.out))))
      have n3_ := Aside0.mk (bT9 (by repeat (first | (with_reducible first | exact HB.out | apply bA9 | apply bN9 | apply bD9) | exact HB.out)) hb)
      clear HO_3
      clear HO130
      clear HB
      have HO_3 := n0_
      have HO130 := n1_
      have HO133 := n2_
      have HB := n3_
      clear n0_ n1_ n2_ n3_
      (try clear hb)
      (try clear hb2)
      (try clear hk)
      (try clear hi)
      (try clear ho0)
      refine hK.out _ _ (((HB.out.cell (World.block_lt_of_cell? w _ hw134_0)).trans hw134_0)) (fun hHeld => ?_)
      clear hK K
      refine norm_ (a' := ?_) ?_ ?_
      rotate_left
      ·show Act.put _ (some 14) _ = _
       simp only [Act.put, List.setIfInBounds_toArray, List.set_cons_zero, List.set_cons_succ, i64_w, i32_w]
       rfl
      refine one_ (i := 8) (N := some 20) #[true, true, true, true, true, true, true, true, true, false, false] rfl rfl (one_of HT_.out (by kernel_rfl)) (by decide) (fun K hK => ?_)
      refine goes_ Tryz.func55 (by kernel_rfl) rfl #[.int .i64 (wrap64 (rd l0 x4_1))] (by rfl) rfl rfl (by (try simp only [List.map_toArray, List.map_cons, List.map_nil]); first | done | rfl | (simp only [List.length_drop, List.length_take]; rfl)) ?_
      with_reducible refine (r1Sm.calls k1 (wrap64 (rd l0 x4_1)) t135 _ A7.out).mono ?_
      rintro e w14 ⟨v136, rfl, ho0, hb⟩
      refine ⟨_, rfl, ?_⟩
      have n0_ := Aside0.mk (Kd.R_elder' (by (with_reducible repeat (first | apply Kd.rA9 | apply Kd.rN9 | apply Kd.rD9)); exact HO_3.out) (Kd.R_base ho0) hb)
      have n1_ := Aside0.mk (Kd.R_elder' (by (with_reducible repeat (first | apply Kd.rA9 | apply Kd.rN9 | apply Kd.rD9)); exact HO130.out) (Kd.R_base ho0) hb)
      have n2_ := Aside0.mk (Kd.R_elder' (by (with_reducible repeat (first | apply Kd.rA9 | apply Kd.rN9 | apply Kd.rD9)); exact HO133.out) (Kd.R_base ho0) hb)
      have n3_ := Aside0.mk (Kd.rL9 (Kd.R_new' (Kd.R_new' (Kd.R_new' ho0 (Kd.R_lt (by (with_reducible repeat (first | apply Kd.rA9 | apply Kd.rN9 | apply Kd.rD9)); exact HO_3.out))) (Kd.R_lt (by (with_reducible repeat (first | apply Kd.rA9 | apply Kd.rN9 | apply Kd.rD9)); exact HO130.out))) (Kd.R_lt (by (with_reducible repeat (first | apply Kd.rA9 | apply Kd.rN9 | apply Kd.rD9)); exact HO133.out))) (bZ9 (by repeat (first | (with_reducible first | exact HB.out | apply bA9 | apply bN9 | apply bD9) | exact HB.out))))
      have n4_ := Aside0.mk (bT9 (by repeat (first | (with_reducible first | exact HB.out | apply bA9 | apply bN9 | apply bD9) | exact HB.out)) hb)
      clear HO_3
      clear HO130
      clear HO133
      clear HB
      have HO_3 := n0_
      have HO130 := n1_
      have HO133 := n2_
      have HO137 := n3_
      have HB := n4_
      clear n0_ n1_ n2_ n3_ n4_
      (try clear hb)
      (try clear hb2)
      (try clear hk)
      (try clear hi)
      (try clear ho0)
      obtain ⟨Ao15, co15, eo15⟩ := Kd.rS9 HO133.out
      (first | subst eo15 | (injection eo15 with f1_ f2_ f3_; have f4_ := f1_.symm; have f5_ := f3_.symm; clear f1_ f2_ f3_; subst f4_; subst f5_))
      obtain ⟨Ao16, co16, eo16⟩ := Kd.rS9 HO137.out
      (first | subst eo16 | (injection eo16 with f1_ f2_ f3_; have f4_ := f1_.symm; have f5_ := f3_.symm; clear f1_ f2_ f3_; subst f4_; subst f5_))
      refine hK.out _ _ (((HB.out.cell (World.block_lt_of_cell? w _ hw134_0)).trans hw134_0)) (fun hHeld => ?_)
      clear hK K
      refine norm_ (a' := ?_) ?_ ?_
      rotate_left
      ·show Act.put _ (some 20) _ = _
       simp only [Act.put, List.setIfInBounds_toArray, List.set_cons_zero, List.set_cons_succ, i64_w, i32_w]
       rfl
      refine one_ (i := 9) (N := some 21) #[true, true, true, true, true, true, true, true, true, true, false] rfl rfl (one_of HT_.out (by kernel_rfl)) (by decide) (fun K hK => ?_)
      refine goes_ Tryz.func53 (by kernel_rfl) rfl #[.slice Ao15 t131.length co15, .slice Ao16 t135.length co16] (by rfl) rfl rfl (by (try simp only [List.map_toArray, List.map_cons, List.map_nil]); first | done | rfl | (simp only [List.length_drop, List.length_take]; rfl)) ?_
      with_reducible refine (r1Add.calls k1 _ _ t131 _ _ t135 t138 _ ?side1 ?side2 ?side3 ?side4 A8.out).mono ?_
      (case side1 => repeat (first | exact (Kd.rR9 HO133.out).2.2 | (with_reducible refine Kd.cA9 ?_ _) | (with_reducible refine Kd.cN9 ?_ _) | (with_reducible refine Kd.cD9 ?_)))
      (case side2 => exact (Kd.rR9 HO133.out).2.1)
      (case side3 => repeat (first | exact (Kd.rR9 HO137.out).2.2 | (with_reducible refine Kd.cA9 ?_ _) | (with_reducible refine Kd.cN9 ?_ _) | (with_reducible refine Kd.cD9 ?_)))
      (case side4 => exact (Kd.rR9 HO137.out).2.1)
      rintro e w17 ⟨v139, rfl, ho0, hb⟩
      refine ⟨_, rfl, ?_⟩
      have n0_ := Aside0.mk (Kd.R_elder' (by (with_reducible repeat (first | apply Kd.rA9 | apply Kd.rN9 | apply Kd.rD9)); exact HO_3.out) (Kd.R_base ho0) hb)
      have n1_ := Aside0.mk (Kd.R_elder' (by (with_reducible repeat (first | apply Kd.rA9 | apply Kd.rN9 | apply Kd.rD9)); exact HO130.out) (Kd.R_base ho0) hb)
      have n2_ := Aside0.mk (Kd.R_elder' (by (with_reducible repeat (first | apply Kd.rA9 | apply Kd.rN9 | apply Kd.rD9)); exact HO133.out) (Kd.R_base ho0) hb)
      have n3_ := Aside0.mk (Kd.R_elder' (by (with_reducible repeat (first | apply Kd.rA9 | apply Kd.rN9 | apply Kd.rD9)); exact HO137.out) (Kd.R_base ho0) hb)
      have n4_ := Aside0.mk (Kd.rL9 (Kd.R_new' (Kd.R_new' (Kd.R_new' (Kd.R_new' ho0 (Kd.R_lt (by (with_reducible repeat (first | apply Kd.rA9 | apply Kd.rN9 | apply Kd.rD9)); exact HO_3.out))) (Kd.R_lt (by (with_reducible repeat (first | apply Kd.rA9 | apply Kd.rN9 | apply Kd.rD9)); exact HO130.out))) (Kd.R_lt (by (with_reducible repeat (first | apply Kd.rA9 | apply Kd.rN9 | apply Kd.rD9)); exact HO133.out))) (Kd.R_lt (by (with_reducible repeat (first | apply Kd.rA9 | apply Kd.rN9 | apply Kd.rD9)); exact HO137.out))) (bZ9 (by repeat (first | (with_reducible first | exact HB.out | apply bA9 | apply bN9 | apply bD9) | exact HB.out))))
      have n5_ := Aside0.mk (bT9 (by repeat (first | (with_reducible first | exact HB.out | apply bA9 | apply bN9 | apply bD9) | exact HB.out)) hb)
      clear HO_3
      clear HO130
      clear HO133
      clear HO137
      clear HB
      have HO_3 := n0_
      have HO130 := n1_
      have HO133 := n2_
      have HO137 := n3_
      have HO140 := n4_
      have HB := n5_
      clear n0_ n1_ n2_ n3_ n4_ n5_
      (try clear hb)
      (try clear hb2)
      (try clear hk)
      (try clear hi)
      (try clear ho0)
      refine hK.out _ _ (((HB.out.cell (World.block_lt_of_cell? w _ hw134_0)).trans hw134_0)) (fun hHeld => ?_)
      clear hK K
      refine norm_ (a' := ?_) ?_ ?_
      rotate_left
      ·show Act.put _ (some 21) _ = _
       simp only [Act.put, List.setIfInBounds_toArray, List.set_cons_zero, List.set_cons_succ, i64_w, i32_w]
       rfl
      refine pure_ (i := 10) (N := some 3) (v := ?_) (a' := ?_) #[true, true, true, true, true, true, true, true, true, true, true] rfl rfl (any_of HT_.out (by kernel_rfl)) (fun _ _ _ h => h) (Or.inl ⟨by rfl, ?_⟩) ?_ ?_
      rotate_left
      ·intro w'
       go_simp
       with_reducible rfl
      rotate_left
      ·simp only [Act.put, List.setIfInBounds_toArray, List.set_cons_zero, List.set_cons_succ, i64_w, i32_w]
       rfl
      refine done_ (done_of HT_.out (by kernel_rfl)) ?_
      try go_wp2
      go_roundg k1
      case measure => have := HK1.out; omega
      case rel => exact ⟨(t138), (wrap64 (x4_1 - 1)), (by first | rfl | (simp; done) | (simp [*]; done)), H', ⟨by have := HK1.out; omega⟩, ⟨by (with_reducible repeat (first | apply Kd.rA9 | apply Kd.rN9 | apply Kd.rD9)); exact Kd.R_mono HO140.out (fun _ hk => trivial)⟩, ⟨by repeat (first | (with_reducible first | exact HB.out | apply bA9 | apply bN9 | apply bD9) | exact HB.out)⟩⟩
     ·rw [if_neg c6] at H
      exact absurd H (by simp)
    ·rw [if_neg c5] at H
     exact absurd H (by simp)
   ·rw [if_neg c2] at H
    have c2b0 : decide (0 ≤ x4_1) = false := decide_eq_false c2
    clear c2
    obtain rfl := Option.some.inj H
    go_wp2
    go_ret
    exact ⟨_, by first | rfl | (simp [eN9, eS9] <;> rfl) | (simp [*, eN9, eS9] <;> rfl), by (with_reducible repeat (first | apply Kd.rA9 | apply Kd.rN9 | apply Kd.rD9)); exact HO_3.out, by repeat (first | (with_reducible first | exact HB.out | apply bA9 | apply bN9 | apply bD9) | exact HB.out)⟩
end Go.Proofs.YthppjdmkinbccaaGreatDoor.Print

namespace Go.Proofs.YthppjdmkinbccaaGreatDoor.Print
open Go.RowKit Go.Proofs.YthppjdmkinbccaaGreatDoorW.PrintWords Go.Proofs.YthppjdmkinbccaaGreatDoorW.PrintLast Go.Proofs.YthppjdmkinbccaaGreatDoorW.PrintMore
attribute [local go_sem] max2_int min2_int max_two min_two max_three min_three max_four min_four   -- for this text's walks alone
set_option linter.unusedVariables false
set_option linter.unusedSimpArgs false
def r1Cmp.l0 : Nat → List Int → List Int → Int → Option (Int)
 | 0, _, _, _ => none
 | k + 1, x0, x1, x5 => if x5 ≥ 0 then (if 0 ≤ x5 then (if x5 < (x0.length : Int) then (if x5 < (x1.length : Int) then (if (rd x0 x5) < (rd x1 x5) then (some (-1)) else (if (rd x0 x5) > (rd x1 x5) then (some 1) else (r1Cmp.l0 k x0 x1 (wrap64 (x5 - 1))))) else (none)) else (none)) else (none)) else (some 0)
def r1Cmp.f (k : Nat) (l0 : List Int) (l1 : List Int) : Option (Int) := if (l0.length : Int) = (l1.length : Int) then (r1Cmp.l0 k l0 l1 (wrap64 ((l0.length : Int) - 1))) else (if (l0.length : Int) < (l1.length : Int) then (some (-1)) else (some 1))
set_option maxHeartbeats 8000000 in
set_option maxRecDepth 100000 in
theorem r1Cmp.calls (k : Nat) (A0 : Option Addr) (c0 : Nat) (l0 : List Int) (A1 : Option Addr) (c1 : Nat) (l1 : List Int) (r : Int) (w : World) (hr0 : Kd.C (Kd.int .i64) w A0 l0.length l0) (hc0 : l0.length ≤ c0) (hr1 : Kd.C (Kd.int .i64) w A1 l1.length l1) (hc1 : l1.length ≤ c1) (h : r1Cmp.f k l0 l1 = some r) :
  Calls Tryz.prog 27 #[.slice A0 l0.length c0, .slice A1 l1.length c1] w fun e w' => e = .returned (.int .i64 r) ∧ Drawn0 w w' := by
 have HR0 := Aside0.mk hr0
 have HC0 := Aside0.mk hc0
 clear hr0 hc0
 have HR1 := Aside0.mk hr1
 have HC1 := Aside0.mk hc1
 clear hr1 hc1
 have H : (if (l0.length : Int) = (l1.length : Int) then (r1Cmp.l0 k l0 l1 (wrap64 ((l0.length : Int) - 1))) else (if (l0.length : Int) < (l1.length : Int) then (some (-1)) else (some 1))) = some r := h
 clear h
 by_cases c3 : (l0.length : Int) = (l1.length : Int)
 ·rw [if_pos c3] at H
  have c3b0 : ((l0.length : Int) == (l1.length : Int)) = true := beq_iff_eq.mpr c3
  have c3b1 : ((l0.length : Int) != (l1.length : Int)) = false := bne_eq_false_iff_eq.mpr c3
  have c3b2 : (l0.length == l1.length) = true := by first | simpa using c3 | (simp at c3 ⊢; omega)
  clear c3
  have H' := Aside0.mk H
  clear H
  go_enter Tryz.func27, Tryz.ntmps27
  go_wp2
  repeat (go_quiet (fail); try go_wp2)
  go_loopg [5] k (fun kq v5 w' => ∃ (x5_1 : Int), v5 = .int .i64 x5_1 ∧ Aside0 (r1Cmp.l0 kq l0 l1 x5_1 = some r) ∧ Aside0 (kq ≤ k) ∧ Drawn0 w w')
  case atStart => exact ⟨(wrap64 ((l0.length : Int) - 1)), (by first | rfl | (simp; done) | (simp [*]; done)), H', ⟨Nat.le_refl _⟩, by repeat (first | exact Drawn0.refl _ | apply Drawn0.step)⟩
  case round =>
   clear H'
   try clear c1
   try clear c2
   try clear p2
   try clear c3
   try clear c3b0
   try clear c3b1
   try clear c3b2
   obtain ⟨x5_1, rfl, HA, HK1, ⟨m1, rfl⟩⟩ := hrel
   cases gk with
   | zero => exact absurd HA.out (by simp [r1Cmp.l0])
   | succ k1 =>
    have H := HA.out
    clear HA
    simp only [r1Cmp.l0] at H
    by_cases c4 : x5_1 ≥ 0
    ·rw [if_pos c4] at H
     have c4b0 : decide (0 ≤ x5_1) = true := decide_eq_true c4
     clear c4
     by_cases c5 : 0 ≤ x5_1
     ·rw [if_pos c5] at H
      have c5b0 : decide (0 ≤ x5_1) = true := decide_eq_true c5
      clear c5
      by_cases c6 : x5_1 < (l0.length : Int)
      ·rw [if_pos c6] at H
       have c6b0 : decide (x5_1 < (l0.length : Int)) = true := decide_eq_true c6
       clear c6
       by_cases c7 : x5_1 < (l1.length : Int)
       ·rw [if_pos c7] at H
        have c7b0 : decide (x5_1 < (l1.length : Int)) = true := decide_eq_true c7
        clear c7
        by_cases c8 : (rd l0 x5_1) < (rd l1 x5_1)
        ·rw [if_pos c8] at H
         have c8b0 : decide ((rd l0 x5_1) < (rd l1 x5_1)) = true := decide_eq_true c8
         clear c8
         obtain rfl := Option.some.inj H
         have p141 : 0 ≤ (x5_1 : Int) := of_decide_eq_true (by first | (with_reducible assumption) | assumption)
         have q141 : x5_1 < (l0.length : Int) := of_decide_eq_true (by first | (with_reducible assumption) | assumption)
         obtain ⟨ad141, e141, hx141_0⟩ := Kd.at_int HR0.out x5_1 p141 q141
         cases e141
         replace p141 := eq_true p141
         replace q141 := eq_true q141
         have p142 : 0 ≤ (x5_1 : Int) := of_decide_eq_true (by first | (with_reducible assumption) | assumption)
         have q142 : x5_1 < (l1.length : Int) := of_decide_eq_true (by first | (with_reducible assumption) | assumption)
         obtain ⟨ad142, e142, hx142_0⟩ := Kd.at_int HR1.out x5_1 p142 q142
         cases e142
         replace p142 := eq_true p142
         replace q142 := eq_true q142
         go_wp2
         repeat (go_quiet (fail); try go_wp2)
         go_ret
         exact ⟨by first | rfl | (simp; done) | (simp [*]; done), by repeat (first | exact Drawn0.refl _ | apply Drawn0.step)⟩
        ·rw [if_neg c8] at H
         have c8b0 : decide ((rd l0 x5_1) < (rd l1 x5_1)) = false := decide_eq_false c8
         clear c8
         by_cases c9 : (rd l0 x5_1) > (rd l1 x5_1)
         ·rw [if_pos c9] at H
          have c9b0 : decide ((rd l1 x5_1) < (rd l0 x5_1)) = true := decide_eq_true c9
          clear c9
          obtain rfl := Option.some.inj H
          have p141 : 0 ≤ (x5_1 : Int) := of_decide_eq_true (by first | (with_reducible assumption) | assumption)
          have q141 : x5_1 < (l0.length : Int) := of_decide_eq_true (by first | (with_reducible assumption) | assumption)
          obtain ⟨ad141, e141, hx141_0⟩ := Kd.at_int HR0.out x5_1 p141 q141
          cases e141
          replace p141 := eq_true p141
          replace q141 := eq_true q141
          have p142 : 0 ≤ (x5_1 : Int) := of_decide_eq_true (by first | (with_reducible assumption) | assumption)
          have q142 : x5_1 < (l1.length : Int) := of_decide_eq_true (by first | (with_reducible assumption) | assumption)
          obtain ⟨ad142, e142, hx142_0⟩ := Kd.at_int HR1.out x5_1 p142 q142
          cases e142
          replace p142 := eq_true p142
          replace q142 := eq_true q142
          have p143 : 0 ≤ (x5_1 : Int) := of_decide_eq_true (by first | (with_reducible assumption) | assumption)
          have q143 : x5_1 < (l0.length : Int) := of_decide_eq_true (by first | (with_reducible assumption) | assumption)
          obtain ⟨ad143, e143, hx143_0⟩ := Kd.at_int HR0.out x5_1 p143 q143
          obtain rfl : ad141 = ad143 := (by injection e143)
          replace p143 := eq_true p143
          replace q143 := eq_true q143
          have p144 : 0 ≤ (x5_1 : Int) := of_decide_eq_true (by first | (with_reducible assumption) | assumption)
          have q144 : x5_1 < (l1.length : Int) := of_decide_eq_true (by first | (with_reducible assumption) | assumption)
          obtain ⟨ad144, e144, hx144_0⟩ := Kd.at_int HR1.out x5_1 p144 q144
          obtain rfl : ad142 = ad144 := (by injection e144)
          replace p144 := eq_true p144
          replace q144 := eq_true q144
          go_wp2
          repeat (go_quiet (fail); try go_wp2)
          go_ret
          exact ⟨by first | rfl | (simp; done) | (simp [*]; done), by repeat (first | exact Drawn0.refl _ | apply Drawn0.step)⟩
         ·rw [if_neg c9] at H
          have c9b0 : decide ((rd l1 x5_1) < (rd l0 x5_1)) = false := decide_eq_false c9
          clear c9
          have H' := Aside0.mk H
          clear H
          have p141 : 0 ≤ (x5_1 : Int) := of_decide_eq_true (by first | (with_reducible assumption) | assumption)
          have q141 : x5_1 < (l0.length : Int) := of_decide_eq_true (by first | (with_reducible assumption) | assumption)
          obtain ⟨ad141, e141, hx141_0⟩ := Kd.at_int HR0.out x5_1 p141 q141
          cases e141
          replace p141 := eq_true p141
          replace q141 := eq_true q141
          have p142 : 0 ≤ (x5_1 : Int) := of_decide_eq_true (by first | (with_reducible assumption) | assumption)
          have q142 : x5_1 < (l1.length : Int) := of_decide_eq_true (by first | (with_reducible assumption) | assumption)
          obtain ⟨ad142, e142, hx142_0⟩ := Kd.at_int HR1.out x5_1 p142 q142
          cases e142
          replace p142 := eq_true p142
          replace q142 := eq_true q142
          have p143 : 0 ≤ (x5_1 : Int) := of_decide_eq_true (by first | (with_reducible assumption) | assumption)
          have q143 : x5_1 < (l0.length : Int) := of_decide_eq_true (by first | (with_reducible assumption) | assumption)
          obtain ⟨ad143, e143, hx143_0⟩ := Kd.at_int HR0.out x5_1 p143 q143
          obtain rfl : ad141 = ad143 := (by injection e143)
          replace p143 := eq_true p143
          replace q143 := eq_true q143
          have p144 : 0 ≤ (x5_1 : Int) := of_decide_eq_true (by first | (with_reducible assumption) | assumption)
          have q144 : x5_1 < (l1.length : Int) := of_decide_eq_true (by first | (with_reducible assumption) | assumption)
          obtain ⟨ad144, e144, hx144_0⟩ := Kd.at_int HR1.out x5_1 p144 q144
          obtain rfl : ad142 = ad144 := (by injection e144)
          replace p144 := eq_true p144
          replace q144 := eq_true q144
          go_wp2
          repeat (go_quiet (fail); try go_wp2)
          go_roundg k1
          case measure => have := HK1.out; omega
          case rel => exact ⟨(wrap64 (x5_1 - 1)), (by first | rfl | (simp; done) | (simp [*]; done)), H', ⟨by have := HK1.out; omega⟩, by repeat (first | exact Drawn0.refl _ | apply Drawn0.step)⟩
       ·rw [if_neg c7] at H
        exact absurd H (by simp)
      ·rw [if_neg c6] at H
       exact absurd H (by simp)
     ·rw [if_neg c5] at H
      exact absurd H (by simp)
    ·rw [if_neg c4] at H
     have c4b0 : decide (0 ≤ x5_1) = false := decide_eq_false c4
     clear c4
     obtain rfl := Option.some.inj H
     go_wp2
     repeat (go_quiet (fail); try go_wp2)
     go_ret
     exact ⟨by first | rfl | (simp; done) | (simp [*]; done), by repeat (first | exact Drawn0.refl _ | apply Drawn0.step)⟩
 ·rw [if_neg c3] at H
  have c3b0 : ((l0.length : Int) == (l1.length : Int)) = false := beq_eq_false_iff_ne.mpr c3
  have c3b1 : ((l0.length : Int) != (l1.length : Int)) = true := bne_iff_ne.mpr c3
  have c3b2 : (l0.length == l1.length) = false := by first | simpa using c3 | (simp at c3 ⊢; omega)
  by_cases c10 : (l0.length : Int) < (l1.length : Int)
  ·rw [if_pos c10] at H
   have c10b0 : decide ((l0.length : Int) < (l1.length : Int)) = true := decide_eq_true c10
   have c10b1 : decide (l0.length < l1.length) = true := decide_eq_true (Int.ofNat_lt.mp c10)
   clear c10
   obtain rfl := Option.some.inj H
   go_enter Tryz.func27, Tryz.ntmps27
   go_wp2
   repeat (go_quiet (fail); try go_wp2)
   go_ret
   exact ⟨by first | rfl | (simp; done) | (simp [*]; done), by repeat (first | exact Drawn0.refl _ | apply Drawn0.step)⟩
  ·rw [if_neg c10] at H
   have c10b0 : decide ((l0.length : Int) < (l1.length : Int)) = false := decide_eq_false c10
   have c10b1 : decide (l0.length < l1.length) = false := decide_eq_false (fun h => c10 (Int.ofNat_lt.mpr h))
   clear c10
   obtain rfl := Option.some.inj H
   go_enter Tryz.func27, Tryz.ntmps27
   go_wp2
   repeat (go_quiet (fail); try go_wp2)
   go_ret
   exact ⟨by first | rfl | (simp; done) | (simp [*]; done), by repeat (first | exact Drawn0.refl _ | apply Drawn0.step)⟩
def r1S.l0 : Nat → List Int → Int → List Int → Int → Int → Option (List Int × Int)
 | 0, _, _, _, _, _ => none
 | k + 1, x0, x1, x6, x7, x8 => if x8 ≥ 0 then (if 0 ≤ x8 then (if x8 < (x0.length : Int) then (if x1 = 0 then (none) else (if x8 < (x6.length : Int) then (r1S.l0 k x0 x1 (x6.set (x8 : Int).toNat (wrap64 (Int.tdiv (wrap64 ((wrap64 (x7 * 10000)) + (rd x0 x8))) x1))) (Int.tmod (wrap64 ((wrap64 (x7 * 10000)) + (rd x0 x8))) x1) (wrap64 (x8 - 1))) else (none))) else (none)) else (none)) else ((r1t.f k x6).bind fun t156 => (some (t156, x7)))
def r1S.f (k : Nat) (l0 : List Int) (a1 : Int) : Option (List Int × Int) := if 0 ≤ (l0.length : Int) then (if ((l0.length : Int) : Int).toNat ≤ 35184372088832 then (r1S.l0 k l0 a1 (List.replicate ((l0.length : Int) : Int).toNat 0) 0 (wrap64 ((l0.length : Int) - 1))) else (none)) else (none)
def r1B.l0 : Nat → List Int → Int → Option (Int)
 | 0, _, _ => none
 | k + 1, x0, x3 => if (x0.length : Int) > 0 then ((r1S.f k x0 2).bind fun bt159 => (r1B.l0 k bt159.1 (wrap64 (x3 + 1)))) else (some x3)
def r1B.f (k : Nat) (l0 : List Int) : Option (Int) := r1B.l0 k l0 0
end Go.Proofs.YthppjdmkinbccaaGreatDoor.Print

namespace Go.Proofs.YthppjdmkinbccaaGreatDoor.Print
open Go.RowKit Go.Proofs.YthppjdmkinbccaaGreatDoorW.PrintWords Go.Proofs.YthppjdmkinbccaaGreatDoorW.PrintLast Go.Proofs.YthppjdmkinbccaaGreatDoorW.PrintMore
attribute [local go_sem] max2_int min2_int max_two min_two max_three min_three max_four min_four   -- for this text's walks alone
set_option linter.unusedVariables false
set_option linter.unusedSimpArgs false
def nat_top.l0 : Nat → List Int → Int → Option (Int)
 | 0, _, _ => none
 | k + 1, x0, x3 => if x3 > 0 then (if 0 ≤ (wrap64 (x3 - 1)) then (if (wrap64 (x3 - 1)) < (x0.length : Int) then (if (rd x0 (wrap64 (x3 - 1))) = 0 then (nat_top.l0 k x0 (wrap64 (x3 - 1))) else (some x3)) else (none)) else (none)) else (some x3)
def nat_top.f (k : Nat) (l0 : List Int) : Option (Int) := nat_top.l0 k l0 (l0.length : Int)
set_option maxHeartbeats 8000000 in
set_option maxRecDepth 100000 in
theorem nat_top.calls (k : Nat) (A0 : Option Addr) (c0 : Nat) (l0 : List Int) (r : Int) (w : World) (hr0 : Kd.C (Kd.int .u32) w A0 l0.length l0) (hc0 : l0.length ≤ c0) (h : nat_top.f k l0 = some r) :
  Calls Tryz.prog 74 #[.slice A0 l0.length c0] w fun e w' => e = .returned (.int .i64 r) ∧ Drawn0 w w' := by
 have HR0 := Aside0.mk hr0
 have HC0 := Aside0.mk hc0
 clear hr0 hc0
 have H : (nat_top.l0 k l0 (l0.length : Int)) = some r := h
 clear h
 have H' := Aside0.mk H
 clear H
 go_enter Tryz.func74, Tryz.ntmps74
 go_wp2
 go_loopg [3] k (fun kq v3 w' => ∃ (x3_1 : Int), v3 = .int .i64 x3_1 ∧ Aside0 (nat_top.l0 kq l0 x3_1 = some r) ∧ Aside0 (kq ≤ k) ∧ Drawn0 w w')
 case atStart => exact ⟨((l0.length : Int)), (by first | rfl | (simp; done) | (simp [*]; done)), H', ⟨Nat.le_refl _⟩, by repeat (first | exact Drawn0.refl _ | apply Drawn0.step)⟩
 case round =>
  clear H'
  obtain ⟨x3_1, rfl, HA, HK1, ⟨m1, rfl⟩⟩ := hrel
  cases gk with
  | zero => exact absurd HA.out (by simp [nat_top.l0])
  | succ k1 =>
   have H := HA.out
   clear HA
   simp only [nat_top.l0] at H
   by_cases c2 : x3_1 > 0
   ·rw [if_pos c2] at H
    have c2b0 : decide (0 < x3_1) = true := decide_eq_true c2
    clear c2
    obtain ⟨ji3, hji3⟩ : ∃ j_ : Int, (wrap64 (x3_1 - 1)) = j_ := ⟨_, rfl⟩
    replace H : (if 0 ≤ (ji3) then (if (ji3) < (l0.length : Int) then (if (rd l0 (ji3)) = 0 then (nat_top.l0 k1 l0 ji3) else (some x3_1)) else (none)) else (none)) = some r := by first | (rw [hji3] at H; exact H) | (simp only [hji3] at H ⊢; exact H)
    have hji3w : (IntKind.i64.wrap (x3_1 - 1)) = ji3 := (i64_w _).trans hji3
    by_cases c4 : 0 ≤ (ji3)
    ·rw [if_pos c4] at H
     have c4b0 : decide (0 ≤ (ji3)) = true := decide_eq_true c4
     clear c4
     by_cases c5 : (ji3) < (l0.length : Int)
     ·rw [if_pos c5] at H
      have c5b0 : decide ((ji3) < (l0.length : Int)) = true := decide_eq_true c5
      clear c5
      by_cases c6 : (rd l0 (ji3)) = 0
      ·rw [if_pos c6] at H
       have c6b0 : ((rd l0 (ji3)) == 0) = true := beq_iff_eq.mpr c6
       have c6b1 : ((rd l0 (ji3)) != 0) = false := bne_eq_false_iff_eq.mpr c6
       clear c6
       have H' := Aside0.mk H
       clear H
       have p297 : 0 ≤ ((ji3) : Int) := of_decide_eq_true (by first | (with_reducible assumption) | assumption)
       have q297 : (ji3) < (l0.length : Int) := of_decide_eq_true (by first | (with_reducible assumption) | assumption)
       obtain ⟨ad297, e297, hx297_0⟩ := Kd.at_int HR0.out (ji3) p297 q297
       cases e297
       replace p297 := eq_true p297
       replace q297 := eq_true q297
       go_wp2
       go_roundg k1
       case measure => have := HK1.out; omega
       case rel => exact ⟨(ji3), (by first | rfl | (simp; done) | (simp only [← hji3] <;> (first | rfl | simp)) | (simp [*]; done)), H', ⟨by have := HK1.out; omega⟩, by repeat (first | exact Drawn0.refl _ | apply Drawn0.step)⟩
      ·rw [if_neg c6] at H
       have c6b0 : ((rd l0 (ji3)) == 0) = false := beq_eq_false_iff_ne.mpr c6
       have c6b1 : ((rd l0 (ji3)) != 0) = true := bne_iff_ne.mpr c6
       obtain rfl := Option.some.inj H
       have p297 : 0 ≤ ((ji3) : Int) := of_decide_eq_true (by first | (with_reducible assumption) | assumption)
       have q297 : (ji3) < (l0.length : Int) := of_decide_eq_true (by first | (with_reducible assumption) | assumption)
       obtain ⟨ad297, e297, hx297_0⟩ := Kd.at_int HR0.out (ji3) p297 q297
       cases e297
       replace p297 := eq_true p297
       replace q297 := eq_true q297
       go_wp2
       go_ret
       exact ⟨by first | rfl | (simp; done) | (simp only [← hji3] <;> (first | rfl | simp)) | (simp [*]; done), by repeat (first | exact Drawn0.refl _ | apply Drawn0.step)⟩
     ·rw [if_neg c5] at H
      exact absurd H (by simp)
    ·rw [if_neg c4] at H
     exact absurd H (by simp)
   ·rw [if_neg c2] at H
    have c2b0 : decide (0 < x3_1) = false := decide_eq_false c2
    clear c2
    obtain rfl := Option.some.inj H
    go_wp2
    go_ret
    exact ⟨by first | rfl | (simp; done) | (simp [*]; done), by repeat (first | exact Drawn0.refl _ | apply Drawn0.step)⟩
def nat_limb.f (l0 : List Int) (a1 : Int) : Option (Int) := if a1 < 0 then (some 0) else (if a1 ≥ (l0.length : Int) then (some 0) else (if 0 ≤ a1 then (if a1 < (l0.length : Int) then (some (IntKind.u64.wrap (rd l0 a1))) else (none)) else (none)))
set_option maxHeartbeats 8000000 in
set_option maxRecDepth 100000 in
theorem nat_limb.calls (A0 : Option Addr) (c0 : Nat) (l0 : List Int) (a1 : Int) (r : Int) (w : World) (hr0 : Kd.C (Kd.int .u32) w A0 l0.length l0) (hc0 : l0.length ≤ c0) (h : nat_limb.f l0 a1 = some r) :
  Calls Tryz.prog 57 #[.slice A0 l0.length c0, .int .i64 a1] w fun e w' => e = .returned (.int .u64 r) ∧ Drawn0 w w' := by
 have HR0 := Aside0.mk hr0
 have HC0 := Aside0.mk hc0
 clear hr0 hc0
 have H : (if a1 < 0 then (some 0) else (if a1 ≥ (l0.length : Int) then (some 0) else (if 0 ≤ a1 then (if a1 < (l0.length : Int) then (some (IntKind.u64.wrap (rd l0 a1))) else (none)) else (none)))) = some r := h
 clear h
 by_cases c3 : a1 < 0
 ·rw [if_pos c3] at H
  have c3b0 : decide (a1 < 0) = true := decide_eq_true c3
  clear c3
  obtain rfl := Option.some.inj H
  go_enter Tryz.func57, Tryz.ntmps57
  go_wp2
  go_ret
  exact ⟨by first | rfl | (simp; done) | (simp [*]; done), by repeat (first | exact Drawn0.refl _ | apply Drawn0.step)⟩
 ·rw [if_neg c3] at H
  have c3b0 : decide (a1 < 0) = false := decide_eq_false c3
  clear c3
  by_cases c4 : a1 ≥ (l0.length : Int)
  ·rw [if_pos c4] at H
   have c4b0 : decide ((l0.length : Int) ≤ a1) = true := decide_eq_true c4
   clear c4
   obtain rfl := Option.some.inj H
   go_enter Tryz.func57, Tryz.ntmps57
   go_wp2
   go_ret
   exact ⟨by first | rfl | (simp; done) | (simp [*]; done), by repeat (first | exact Drawn0.refl _ | apply Drawn0.step)⟩
  ·rw [if_neg c4] at H
   have c4b0 : decide ((l0.length : Int) ≤ a1) = false := decide_eq_false c4
   clear c4
   by_cases c5 : 0 ≤ a1
   ·rw [if_pos c5] at H
    have c5b0 : decide (0 ≤ a1) = true := decide_eq_true c5
    clear c5
    by_cases c6 : a1 < (l0.length : Int)
    ·rw [if_pos c6] at H
     have c6b0 : decide (a1 < (l0.length : Int)) = true := decide_eq_true c6
     clear c6
     obtain rfl := Option.some.inj H
     have p298 : 0 ≤ (a1 : Int) := of_decide_eq_true (by first | (with_reducible assumption) | assumption)
     have q298 : a1 < (l0.length : Int) := of_decide_eq_true (by first | (with_reducible assumption) | assumption)
     obtain ⟨ad298, e298, hx298_0⟩ := Kd.at_int HR0.out a1 p298 q298
     cases e298
     replace p298 := eq_true p298
     replace q298 := eq_true q298
     go_enter Tryz.func57, Tryz.ntmps57
     go_wp2
     go_ret
     exact ⟨by first | rfl | (simp; done) | (simp [*]; done), by repeat (first | exact Drawn0.refl _ | apply Drawn0.step)⟩
    ·rw [if_neg c6] at H
     exact absurd H (by simp)
   ·rw [if_neg c5] at H
    exact absurd H (by simp)
end Go.Proofs.YthppjdmkinbccaaGreatDoor.Print

namespace Go.Proofs.YthppjdmkinbccaaGreatDoor.Base
open Go.Lib
set_option linter.unusedVariables false
def valB (B : Nat) : List Int → Nat
  | [] => 0
  | d :: r => d.toNat + B * valB B r
theorem valB_nil (B : Nat) : valB B [] = 0 := rfl
theorem valB_cons (B : Nat) (d : Int) (r : List Int) : valB B (d :: r) = d.toNat + B * valB B r := rfl
def DigB (B : Nat) (l : List Int) : Prop := ∀ d ∈ l, 0 ≤ d ∧ d < (B : Int)
structure GoodB (B : Nat) (l : List Int) : Prop where
  dig : DigB B l
  can : l.getLast? ≠ some 0
theorem DigB.nil (B : Nat) : DigB B [] := fun d h => by cases h
theorem DigB.cons {B : Nat} {d : Int} {r : List Int} (h0 : 0 ≤ d) (h1 : d < (B : Int)) (h : DigB B r) : DigB B (d :: r) := fun x hx => by
  rcases List.mem_cons.1 hx with rfl | hx
  · exact ⟨h0, h1⟩
  · exact h x hx
theorem DigB.tail {B : Nat} {d : Int} {r : List Int} (h : DigB B (d :: r)) : DigB B r := fun x hx => h x (List.mem_cons_of_mem _ hx)
theorem DigB.append {B : Nat} {a b : List Int} (h : DigB B a) (k : DigB B b) : DigB B (a ++ b) := fun x hx => (List.mem_append.1 hx).elim (h x) (k x)
theorem valB_append (B : Nat) : ∀ a b : List Int, valB B (a ++ b) = valB B a + B ^ a.length * valB B b
  | [], b => by simp [valB]
  | d :: r, b => by
    rw [List.cons_append, valB_cons, valB_cons, valB_append B r b, List.length_cons, Nat.pow_succ, Nat.mul_add, Nat.mul_comm (B ^ r.length) B, Nat.mul_assoc]
    omega
theorem valB_lt (B : Nat) : ∀ l : List Int, DigB B l → valB B l < B ^ l.length
  | [], h => by simp [valB]
  | d :: r, h => by
    have ih := valB_lt B r h.tail
    have hd := h d (by simp)
    rw [valB_cons, List.length_cons, Nat.pow_succ, Nat.mul_comm (B ^ r.length) B]
    have h2 : B * (valB B r + 1) ≤ B * B ^ r.length := Nat.mul_le_mul_left B ih
    rw [Nat.mul_add] at h2
    omega
theorem GoodB.nil (B : Nat) : GoodB B [] := ⟨DigB.nil B, by simp⟩
theorem GoodB.tail {B : Nat} {d : Int} {r : List Int} (h : GoodB B (d :: r)) : GoodB B r := by
  refine ⟨h.dig.tail, fun c => h.can ?_⟩
  cases r with
  | nil => cases c
  | cons e s => rw [List.getLast?_cons_cons]; exact c
theorem GoodB.zero {B : Nat} : ∀ {l : List Int}, GoodB B l → valB B l = 0 → l = []
  | [], _, _ => rfl
  | d :: r, h, hv => by
    have hd := h.dig d (by simp)
    rw [valB_cons] at hv
    have h0 : d = 0 := by omega
    have hB : 0 < B := by omega
    have hr : valB B r = 0 := by
      have : B * valB B r = 0 := by omega
      rcases Nat.mul_eq_zero.1 this with h | h
      · omega
      · exact h
    have := h.tail.zero hr
    subst this
    exact absurd (by rw [h0]; rfl) h.can
theorem GoodB.inj {B : Nat} : ∀ {l m : List Int}, GoodB B l → GoodB B m → valB B l = valB B m → l = m
  | [], m, _, hm, e => (hm.zero e.symm).symm
  | d :: r, [], hl, _, e => hl.zero e
  | d :: r, x :: s, hl, hm, e => by
    have hd := hl.dig d (by simp)
    have hx := hm.dig x (by simp)
    rw [valB_cons, valB_cons] at e
    have hB : 0 < B := by omega
    have e1 : d.toNat = x.toNat := by
      have h1 := congrArg (· % B) e
      simp only [Nat.add_mul_mod_self_left] at h1
      rwa [Nat.mod_eq_of_lt (by omega), Nat.mod_eq_of_lt (by omega)] at h1
    have e2 : valB B r = valB B s := Nat.eq_of_mul_eq_mul_left hB (by omega)
    rw [show d = x by omega, hl.tail.inj hm.tail e2]
def trimL : List Int → List Int
  | [] => []
  | d :: r => if trimL r = [] then (if d = 0 then [] else [d]) else d :: trimL r
theorem trimL_cons (d : Int) (r : List Int) : trimL (d :: r) = if trimL r = [] then (if d = 0 then [] else [d]) else d :: trimL r := rfl
theorem trimL_val (B : Nat) : ∀ l : List Int, valB B (trimL l) = valB B l
  | [] => rfl
  | d :: r => by
    have ih := trimL_val B r
    rw [trimL_cons]
    split
    · rename_i h
      rw [h, valB_nil] at ih
      split
      · rename_i h0; rw [valB_cons, ← ih, h0]; rfl
      · rw [valB_cons, valB_cons, ← ih, valB_nil]
    · rw [valB_cons, valB_cons, ih]
theorem trimL_dig {B : Nat} : ∀ {l : List Int}, DigB B l → DigB B (trimL l)
  | [], h => h
  | d :: r, h => by
    have ih := trimL_dig h.tail
    have hd := h d (by simp)
    rw [trimL_cons]
    split
    · split
      · exact DigB.nil B
      · exact DigB.cons hd.1 hd.2 (DigB.nil B)
    · exact DigB.cons hd.1 hd.2 ih
theorem trimL_can : ∀ l : List Int, (trimL l).getLast? ≠ some 0
  | [] => by simp [trimL]
  | d :: r => by
    have ih := trimL_can r
    rw [trimL_cons]
    split
    · split
      · simp
      · rename_i h; simpa using h
    · rename_i h
      cases hr : trimL r with
      | nil => exact absurd hr h
      | cons e s => rw [List.getLast?_cons_cons, ← hr]; exact ih
theorem trimL_good {B : Nat} {l : List Int} (h : DigB B l) : GoodB B (trimL l) := ⟨trimL_dig h, trimL_can l⟩
theorem trimL_take : ∀ l : List Int, trimL l = l.take (trimL l).length
  | [] => rfl
  | d :: r => by
    have ih := trimL_take r
    rw [trimL_cons]
    split
    · split <;> simp
    · rw [List.length_cons, List.take_succ_cons, ← ih]
theorem trimL_of_good {l : List Int} (h : l.getLast? ≠ some 0) : trimL l = l := by
  induction l with
  | nil => rfl
  | cons d r ih =>
    rw [trimL_cons]
    cases r with
    | nil =>
      have : d ≠ 0 := fun e => h (by rw [e]; rfl)
      simp [trimL, this]
    | cons e s =>
      have := ih (by rw [List.getLast?_cons_cons] at h; exact h)
      rw [this]; simp
theorem trimL_snoc_zero (l : List Int) : trimL (l ++ [0]) = trimL l := by
  induction l with
  | nil => rfl
  | cons d r ih => rw [List.cons_append, trimL_cons, trimL_cons, ih]
theorem trimL_snoc (l : List Int) (d : Int) (h : d ≠ 0) : trimL (l ++ [d]) = l ++ [d] := trimL_of_good (by simpa using h)
def digF (B : Nat) : Nat → Nat → List Int
  | 0, _ => []
  | f + 1, v => if v = 0 then [] else ((v % B : Nat) : Int) :: digF B f (v / B)
def digB (B v : Nat) : List Int := digF B (v.log2 + 1) v
theorem digF_val (B : Nat) (hB : 2 ≤ B) : ∀ f v, v < 2 ^ f → valB B (digF B f v) = v ∧ GoodB B (digF B f v)
  | 0, v, h => by
    obtain rfl : v = 0 := by simpa using h
    exact ⟨rfl, GoodB.nil B⟩
  | f + 1, v, h => by
    unfold digF
    by_cases h0 : v = 0
    · rw [if_pos h0, h0]; exact ⟨rfl, GoodB.nil B⟩
    · rw [if_neg h0]
      have hd : v / B < 2 ^ f := by
        refine Nat.div_lt_of_lt_mul (Nat.lt_of_lt_of_le h ?_)
        rw [Nat.pow_succ, Nat.mul_comm]
        exact Nat.mul_le_mul_right _ hB
      obtain ⟨ih1, ih2⟩ := digF_val B hB f (v / B) hd
      have hm : v % B < B := Nat.mod_lt _ (by omega)
      refine ⟨?_, DigB.cons (by omega) (by omega) ih2.dig, fun c => ?_⟩
      · rw [valB_cons, ih1, Int.toNat_natCast]; exact Nat.mod_add_div v B
      · cases hr : digF B f (v / B) with
        | nil =>
          rw [hr] at c ih1
          have h1 : ((v % B : Nat) : Int) = 0 := by simpa using c
          rw [valB_nil] at ih1
          have := Nat.mod_add_div v B
          rw [← ih1] at this
          omega
        | cons e s =>
          rw [hr, List.getLast?_cons_cons, ← hr] at c
          exact ih2.can c
theorem digB_val (B : Nat) (hB : 2 ≤ B) (v : Nat) : valB B (digB B v) = v := (digF_val B hB _ v Nat.lt_log2_self).1
theorem digB_good (B : Nat) (hB : 2 ≤ B) (v : Nat) : GoodB B (digB B v) := (digF_val B hB _ v Nat.lt_log2_self).2
theorem GoodB.eq {B : Nat} (hB : 2 ≤ B) {l : List Int} (h : GoodB B l) : l = digB B (valB B l) := h.inj (digB_good B hB _) (digB_val B hB _).symm
theorem trimL_eq {B : Nat} (hB : 2 ≤ B) {l : List Int} (h : DigB B l) : trimL l = digB B (valB B l) := by
  have := (trimL_good h).eq hB
  rw [trimL_val] at this; exact this
theorem GoodB.len_lt {B : Nat} {l : List Int} (h : GoodB B l) (hl : l ≠ []) : B ^ (l.length - 1) ≤ valB B l := by
  have e : l = l.dropLast ++ [l.getLast hl] := (List.dropLast_concat_getLast hl).symm
  have hg : l.getLast hl ≠ 0 := fun c => h.can (by rw [List.getLast?_eq_some_getLast hl, c])
  have hd := h.dig _ (List.getLast_mem hl)
  have hv : valB B l = valB B l.dropLast + B ^ l.dropLast.length * (l.getLast hl).toNat := by
    conv => lhs; rw [e]
    rw [valB_append, valB_cons, valB_nil, Nat.mul_zero, Nat.add_zero]
  rw [hv, List.length_dropLast]
  have : B ^ (l.length - 1) * 1 ≤ B ^ (l.length - 1) * (l.getLast hl).toNat := Nat.mul_le_mul_left _ (by omega)
  omega
def padD : Nat → Nat → List UInt8
  | 0, _ => []
  | k + 1, r => padD k (r / 10) ++ [UInt8.ofNat (48 + r % 10)]
theorem dec_small {u : Nat} (h : u < 10) : decDigits u = [UInt8.ofNat (48 + u)] := by rw [decDigits, dif_pos h]
theorem dec_big {u : Nat} (h : ¬ u < 10) : decDigits u = decDigits (u / 10) ++ [UInt8.ofNat (48 + u % 10)] := by rw [decDigits, dif_neg h]
theorem dec_ne (u : Nat) : decDigits u ≠ [] := by
  by_cases h : u < 10
  · rw [dec_small h]; simp
  · rw [dec_big h]; simp
theorem dec_grow (q d : Nat) (hq : 0 < q) (hd : d < 10) : decDigits (10 * q + d) = decDigits q ++ [UInt8.ofNat (48 + d)] := by
  rw [dec_big (by omega), show (10 * q + d) / 10 = q by omega, show (10 * q + d) % 10 = d by omega]
theorem dec_pad : ∀ (k q r : Nat), 0 < q → r < 10 ^ k → decDigits (q * 10 ^ k + r) = decDigits q ++ padD k r
  | 0, q, r, hq, hr => by
    obtain rfl : r = 0 := by simpa using hr
    simp [padD]
  | k + 1, q, r, hq, hr => by
    have hp : 10 ^ (k + 1) = 10 ^ k * 10 := Nat.pow_succ 10 k
    have h1 : r / 10 < 10 ^ k := Nat.div_lt_of_lt_mul (by rw [hp] at hr; omega)
    have ih := dec_pad k q (r / 10) hq h1
    have e : q * 10 ^ (k + 1) + r = 10 * (q * 10 ^ k + r / 10) + r % 10 := by
      rw [hp, ← Nat.mul_assoc]; omega
    have hpos : 0 < q * 10 ^ k := Nat.mul_pos hq (Nat.pow_pos (by decide))
    rw [e, dec_grow _ _ (by omega) (Nat.mod_lt _ (by decide)), ih, show padD (k + 1) r = padD k (r / 10) ++ [UInt8.ofNat (48 + r % 10)] from rfl, List.append_assoc]
theorem padD_zero : ∀ k, padD k 0 = List.replicate k 48
  | 0 => rfl
  | k + 1 => by
    unfold padD
    rw [show 0 / 10 = 0 from rfl, padD_zero k, List.replicate_succ']; rfl
theorem padD_dec : ∀ (k p : Nat), p < 10 ^ (k + 1) → (decDigits p).length ≤ k + 1 ∧ padD (k + 1) p = List.replicate (k + 1 - (decDigits p).length) 48 ++ decDigits p
  | 0, p, h => by
    have h10 : p < 10 := by simpa using h
    rw [dec_small h10]
    refine ⟨by simp, ?_⟩
    unfold padD padD
    simp [Nat.mod_eq_of_lt h10]
  | k + 1, p, h => by
    by_cases h10 : p < 10
    · rw [dec_small h10]
      refine ⟨by simp, ?_⟩
      unfold padD
      rw [Nat.div_eq_of_lt h10, padD_zero, Nat.mod_eq_of_lt h10]; rfl
    · have hp : 10 ^ (k + 1 + 1) = 10 ^ (k + 1) * 10 := Nat.pow_succ 10 (k + 1)
      have h1 : p / 10 < 10 ^ (k + 1) := Nat.div_lt_of_lt_mul (by rw [hp] at h; omega)
      obtain ⟨ih1, ih2⟩ := padD_dec k (p / 10) h1
      rw [dec_big h10]
      refine ⟨by simp; omega, ?_⟩
      conv => lhs; unfold padD
      rw [ih2, List.length_append, List.length_singleton, List.append_assoc, show k + 1 + 1 - ((decDigits (p / 10)).length + 1) = k + 1 - (decDigits (p / 10)).length by omega]
def numD (l : List UInt8) : Nat := l.foldl (fun a c => 10 * a + (c.toNat - 48)) 0
theorem numD_snoc (l : List UInt8) (c : UInt8) : numD (l ++ [c]) = 10 * numD l + (c.toNat - 48) := by simp [numD]
def DigL (l : List UInt8) : Prop := ∀ c ∈ l, 48 ≤ c.toNat ∧ c.toNat ≤ 57
theorem ofNat_digit (d : Nat) (h : d < 10) : (UInt8.ofNat (48 + d)).toNat = 48 + d := by
  rw [UInt8.toNat_ofNat']; omega
theorem dec_num_all (u : Nat) : numD (decDigits u) = u ∧ DigL (decDigits u) ∧ (1 ≤ u → (decDigits u).head? ≠ some 48) := by
  induction u using Nat.strongRecOn with
  | ind u ih =>
    by_cases h : u < 10
    · rw [dec_small h]
      have e := ofNat_digit u h
      refine ⟨by show 10 * 0 + _ = _; rw [e]; omega, fun c hc => by rw [List.mem_singleton.1 hc, e]; omega, fun h1 c => ?_⟩
      have := congrArg UInt8.toNat (Option.some.inj c)
      rw [e] at this
      have h48 : (48 : UInt8).toNat = 48 := rfl
      omega
    · obtain ⟨i1, i2, i3⟩ := ih (u / 10) (by omega)
      have hm : u % 10 < 10 := Nat.mod_lt _ (by decide)
      have e := ofNat_digit (u % 10) hm
      rw [dec_big h]
      refine ⟨by rw [numD_snoc, i1, e]; omega, fun c hc => ?_, fun h1 => ?_⟩
      · rcases List.mem_append.1 hc with x | x
        · exact i2 c x
        · rw [List.mem_singleton.1 x, e]; omega
      · have hne := dec_ne (u / 10)
        cases hd : decDigits (u / 10) with
        | nil => exact absurd hd hne
        | cons a b =>
          have := i3 (by omega)
          rw [hd] at this
          simpa using this
theorem num_dec (u : Nat) : numD (decDigits u) = u := (dec_num_all u).1
theorem dec_dig (u : Nat) : DigL (decDigits u) := (dec_num_all u).2.1
theorem dec_inj {u v : Nat} (h : decDigits u = decDigits v) : u = v := by rw [← num_dec u, h, num_dec]
def NatL (l : List UInt8) : Prop := l ≠ [] ∧ DigL l ∧ (l.head? = some 48 → l.length = 1)
end Go.Proofs.YthppjdmkinbccaaGreatDoor.Base

namespace Go.Proofs.YthppjdmkinbccaaGreatDoor.Base
set_option linter.unusedVariables false
def sumB (B : Nat) (f : Nat → Nat) : Nat → Nat
  | 0 => 0
  | n + 1 => sumB B f n + B ^ n * f n
theorem sumB_congr {B : Nat} {f g : Nat → Nat} : ∀ {n : Nat}, (∀ i, i < n → f i = g i) → sumB B f n = sumB B g n
  | 0, _ => rfl
  | n + 1, h => by rw [sumB, sumB, sumB_congr (n := n) (fun i hi => h i (by omega)), h n (by omega)]
theorem sumB_add {B : Nat} {f g : Nat → Nat} : ∀ n, sumB B (fun i => f i + g i) n = sumB B f n + sumB B g n
  | 0 => rfl
  | n + 1 => by rw [sumB, sumB, sumB, sumB_add n, Nat.mul_add]; omega
theorem sumB_zero {B : Nat} {f : Nat → Nat} : ∀ {n : Nat}, (∀ i, i < n → f i = 0) → sumB B f n = 0
  | 0, _ => rfl
  | n + 1, h => by rw [sumB, sumB_zero (n := n) (fun i hi => h i (by omega)), h n (by omega)]; simp
theorem sumB_succ' {B : Nat} {f : Nat → Nat} : ∀ n, sumB B f (n + 1) = f 0 + B * sumB B (fun i => f (i + 1)) n
  | 0 => by simp [sumB]
  | n + 1 => by
    rw [sumB, sumB_succ' n, sumB, Nat.mul_add, Nat.pow_succ, Nat.mul_comm (B ^ n) B, Nat.mul_assoc]; omega
def limbN (l : List Int) (i : Nat) : Nat := (l.getD i 0).toNat
theorem limbN_nil (i : Nat) : limbN [] i = 0 := by simp [limbN]
theorem limbN_zero (d : Int) (r : List Int) : limbN (d :: r) 0 = d.toNat := rfl
theorem limbN_succ (d : Int) (r : List Int) (i : Nat) : limbN (d :: r) (i + 1) = limbN r i := by simp [limbN]
theorem limbN_out {l : List Int} {i : Nat} (h : l.length ≤ i) : limbN l i = 0 := by simp [limbN, List.getElem?_eq_none h]
theorem limbN_lt {B : Nat} {l : List Int} (hB : 0 < B) (h : DigB B l) (i : Nat) : limbN l i < B := by
  unfold limbN
  rcases Nat.lt_or_ge i l.length with c | c
  · have := h l[i] (List.getElem_mem c)
    simp [List.getElem?_eq_getElem c]; omega
  · simp [List.getElem?_eq_none c]; exact hB
theorem sumB_limb {B : Nat} : ∀ (l : List Int) (n : Nat), l.length ≤ n → sumB B (limbN l) n = valB B l
  | [], n, _ => by rw [valB_nil]; exact sumB_zero (fun i _ => limbN_nil i)
  | d :: r, 0, h => by simp at h
  | d :: r, n + 1, h => by
    rw [sumB_succ', valB_cons, limbN_zero, show (fun i => limbN (d :: r) (i + 1)) = limbN r from funext (limbN_succ d r), sumB_limb r n (by simpa using h)]
theorem sumB_lt {B : Nat} {f : Nat → Nat} (hB : 0 < B) (h : ∀ i, f i < B) : ∀ n, sumB B f n < B ^ n
  | 0 => by simp [sumB]
  | n + 1 => by
    have h1 := sumB_lt hB h n
    have h2 : B ^ n * (f n + 1) ≤ B ^ n * B := Nat.mul_le_mul_left _ (h n)
    rw [sumB, Nat.pow_succ]
    rw [Nat.mul_add, Nat.mul_one] at h2
    omega
theorem sum_lt {B : Nat} {f g : Nat → Nat} (hB : 0 < B) (hf : ∀ i, f i < B) : ∀ n x, x < n → (∀ i, x < i → i < n → f i = g i) → f x < g x → sumB B f n < sumB B g n
  | 0, x, hx, _, _ => by omega
  | n + 1, x, hx, he, hl => by
    rw [sumB, sumB]
    by_cases e : x = n
    · subst e
      have h1 := sumB_lt hB hf x
      have h2 : B ^ x * (f x + 1) ≤ B ^ x * g x := Nat.mul_le_mul_left _ hl
      rw [Nat.mul_add, Nat.mul_one] at h2
      omega
    · have ih := sum_lt hB hf n x (by omega) (fun i h1 h2 => he i h1 (by omega)) hl
      rw [he n (by omega) (by omega)]
      omega
def cmpN (x y : Nat) : Int := if x < y then -1 else if y < x then 1 else 0
def putB (B : Nat) (f : Nat → Nat) : Nat → List Int × Nat
  | 0 => ([], 0)
  | n + 1 => ((putB B f n).1 ++ [(((f n + (putB B f n).2) % B : Nat) : Int)], (f n + (putB B f n).2) / B)
theorem putB_len {B : Nat} {f : Nat → Nat} : ∀ n, (putB B f n).1.length = n
  | 0 => rfl
  | n + 1 => by rw [putB, List.length_append, putB_len n]; rfl
theorem putB_spec {B : Nat} (hB : 0 < B) {f : Nat → Nat} : ∀ n, valB B (putB B f n).1 + B ^ n * (putB B f n).2 = sumB B f n ∧ DigB B (putB B f n).1
  | 0 => by simp [putB, valB, sumB]; exact DigB.nil B
  | n + 1 => by
    obtain ⟨h1, h2⟩ := putB_spec hB (f := f) n
    have hm := Nat.mod_add_div (f n + (putB B f n).2) B
    have hl := Nat.mod_lt (f n + (putB B f n).2) hB
    rw [putB, sumB, ← h1]
    generalize hx : f n + (putB B f n).2 = x at hm hl ⊢
    refine ⟨?_, h2.append (DigB.cons (by omega) (by omega) (DigB.nil B))⟩
    rw [valB_append, putB_len, valB_cons, valB_nil, Nat.mul_zero, Nat.add_zero, Int.toNat_natCast, Nat.pow_succ, Nat.mul_assoc]
    dsimp only
    have : B ^ n * (x % B) + B ^ n * (B * (x / B)) = B ^ n * f n + B ^ n * (putB B f n).2 := by rw [← Nat.mul_add, hm, ← hx, Nat.mul_add]
    omega
theorem putB_carry {B : Nat} (hB : 0 < B) {f : Nat → Nat} {K : Nat} (hK : ∀ i, f i ≤ K * (B - 1)) : ∀ n, (putB B f n).2 ≤ K
  | 0 => Nat.zero_le _
  | n + 1 => by
    have h1 := putB_carry hB hK n
    have h2 := hK n
    rw [putB]
    show (f n + (putB B f n).2) / B ≤ K
    have : f n + (putB B f n).2 ≤ K * B := by
      have : K * B = K * (B - 1) + K := by
        rw [Nat.mul_sub, Nat.mul_one]
        have : K * 1 ≤ K * B := Nat.mul_le_mul_left _ hB
        omega
      omega
    exact Nat.div_le_of_le_mul (by rw [Nat.mul_comm B K]; exact this)
theorem gathered {B : Nat} (hB : 2 ≤ B) {f : Nat → Nat} {n : Nat} {t : List Int} (ht : DigB B t) (hv : valB B t = (putB B f n).2) :
    trimL ((putB B f n).1 ++ t) = digB B (sumB B f n) := by
  obtain ⟨h1, h2⟩ := putB_spec (show 0 < B by omega) (f := f) n
  rw [trimL_eq hB (h2.append ht), valB_append, putB_len, hv, h1]
def rowC (B : Nat) (a : List Int) (m up : Nat) : Nat → Nat
  | 0 => 0
  | i + 1 => if i < up then rowC B a m up i else (limbN a (i - up) * m + rowC B a m up i) / B
def rowF (B : Nat) (a : List Int) (m up i : Nat) : Nat := if i < up then 0 else (limbN a (i - up) * m + rowC B a m up i) % B
theorem rowC_lt {B : Nat} (hB : 0 < B) {a : List Int} (ha : DigB B a) {m : Nat} (hm : m < B) (up : Nat) : ∀ i, rowC B a m up i < B
  | 0 => hB
  | i + 1 => by
    have h := rowC_lt hB ha hm up i
    unfold rowC
    split
    · exact h
    · have hl := limbN_lt hB ha (i - up)
      refine Nat.div_lt_of_lt_mul ?_
      have : limbN a (i - up) * m ≤ (B - 1) * (B - 1) := Nat.mul_le_mul (by omega) (by omega)
      have e : (B - 1) * (B - 1) + (B - 1) < B * B := by
        obtain ⟨k, rfl⟩ : ∃ k, B = k + 1 := ⟨B - 1, by omega⟩
        simp only [Nat.add_sub_cancel, Nat.mul_add, Nat.add_mul, Nat.mul_one, Nat.one_mul]; omega
      omega
theorem rowC_low {B : Nat} (a : List Int) (m up : Nat) : ∀ i, i ≤ up → rowC B a m up i = 0
  | 0, _ => rfl
  | i + 1, h => by unfold rowC; rw [if_pos (by omega)]; exact rowC_low a m up i (by omega)
theorem rowF_sum {B : Nat} (a : List Int) (m up : Nat) : ∀ n, up ≤ n → sumB B (rowF B a m up) n + B ^ n * rowC B a m up n = B ^ up * (m * sumB B (limbN a) (n - up))
  | 0, h => by
    obtain rfl : up = 0 := by omega
    simp [sumB, rowC]
  | n + 1, h => by
    rcases Nat.lt_or_ge n up with c | c
    · obtain rfl : up = n + 1 := by omega
      rw [rowC_low a m (n + 1) (n + 1) (Nat.le_refl _), Nat.sub_self, sumB_zero (fun i hi => by unfold rowF; rw [if_pos (by omega)])]
      simp [sumB]
    · have ih := rowF_sum (B := B) a m up n c
      rw [sumB, show n + 1 - up = (n - up) + 1 by omega, sumB, Nat.mul_add, Nat.mul_add, ← ih]
      have e1 : rowF B a m up n = (limbN a (n - up) * m + rowC B a m up n) % B := by unfold rowF; rw [if_neg (by omega)]
      have e2 : rowC B a m up (n + 1) = (limbN a (n - up) * m + rowC B a m up n) / B := by
        show (if n < up then rowC B a m up n else (limbN a (n - up) * m + rowC B a m up n) / B) = _
        rw [if_neg (by omega)]
      rw [e1, e2]
      have e3 := Nat.mod_add_div (limbN a (n - up) * m + rowC B a m up n) B
      have e4 : B ^ up * (m * (B ^ (n - up) * limbN a (n - up))) = B ^ n * (limbN a (n - up) * m) := by
        rw [show B ^ n = B ^ up * B ^ (n - up) by rw [← Nat.pow_add]; congr 1; omega, Nat.mul_assoc, Nat.mul_left_comm m, Nat.mul_comm m]
      rw [e4, Nat.pow_succ, Nat.mul_assoc]
      generalize limbN a (n - up) * m = x at e3 ⊢
      generalize (x + rowC B a m up n) % B = y at e3 ⊢
      generalize (x + rowC B a m up n) / B = z at e3 ⊢
      have : B ^ n * y + B ^ n * (B * z) = B ^ n * x + B ^ n * rowC B a m up n := by rw [← Nat.mul_add, e3, Nat.mul_add]
      omega
theorem row_val {B : Nat} (hB : 2 ≤ B) {a : List Int} (ha : DigB B a) {m : Nat} (hm : m < B) (up : Nat) : sumB B (rowF B a m up) (a.length + up + 1) = B ^ up * (m * valB B a) := by
  have h := rowF_sum (B := B) a m up (a.length + up + 1) (by omega)
  rw [show a.length + up + 1 - up = a.length + 1 by omega, sumB_limb a (a.length + 1) (by omega)] at h
  have hz : rowC B a m up (a.length + up + 1) = 0 := by
    unfold rowC
    rw [if_neg (by omega), limbN_out (by omega), Nat.zero_mul, Nat.zero_add]
    exact Nat.div_eq_of_lt (rowC_lt (by omega) ha hm up _)
  rw [hz, Nat.mul_zero, Nat.add_zero] at h
  exact h
def shlF (B S T : Nat) (a : List Int) (i : Nat) : Nat := limbN a i * S % B + (if i = 0 then 0 else limbN a (i - 1) / T)
theorem shl_sum {B S T : Nat} (hST : B = S * T) (hS : 0 < S) (hT : 0 < T) (a : List Int) : ∀ n, sumB B (shlF B S T a) n + B ^ n * (if n = 0 then 0 else limbN a (n - 1) / T) = S * sumB B (limbN a) n
  | 0 => by simp [sumB]
  | n + 1 => by
    have ih := shl_sum hST hS hT a n
    rw [sumB, sumB, Nat.mul_add, ← ih, if_neg (by omega), Nat.add_sub_cancel, shlF, Nat.mul_add]
    have e : limbN a n * S % B + B * (limbN a n / T) = S * limbN a n := by
      have h1 : limbN a n * S / B = limbN a n / T := by rw [hST, Nat.mul_comm (limbN a n) S, Nat.mul_div_mul_left _ _ hS]
      rw [← h1, Nat.mod_add_div, Nat.mul_comm]
    have e2 : B ^ n * (limbN a n * S % B) + B ^ n * (B * (limbN a n / T)) = S * (B ^ n * limbN a n) := by rw [← Nat.mul_add, e, Nat.mul_left_comm]
    rw [Nat.pow_succ, Nat.mul_assoc]
    omega
theorem shl_val {B S T : Nat} (hST : B = S * T) (hS : 0 < S) (hT : 0 < T) (a : List Int) : sumB B (shlF B S T a) (a.length + 1) = S * valB B a := by
  have h := shl_sum hST hS hT a (a.length + 1)
  rw [sumB_limb a _ (by omega)] at h
  have hn := shl_sum hST hS hT a a.length
  rw [if_neg (by omega), Nat.add_sub_cancel] at h
  rw [limbN_out (Nat.le_refl _), Nat.zero_div, Nat.mul_zero, Nat.add_zero] at h
  exact h
def shrF (S T : Nat) (a : List Int) (i : Nat) : Nat := limbN a i / S + limbN a (i + 1) % S * T
theorem shr_val {B S T : Nat} (hST : B = S * T) (hS : 0 < S) : ∀ (a : List Int), sumB B (shrF S T a) a.length = valB B a / S
  | [] => by simp [sumB, valB]
  | d :: r => by
    rw [List.length_cons, sumB_succ', show (fun i => shrF S T (d :: r) (i + 1)) = shrF S T r from funext fun i => by simp [shrF, limbN_succ], shr_val hST hS r, valB_cons]
    have e1 : shrF S T (d :: r) 0 = d.toNat / S + limbN r 0 % S * T := by simp [shrF, limbN_succ, limbN_zero]
    have e2 : limbN r 0 % S = valB B r % S := by
      cases r with
      | nil => rfl
      | cons e s => rw [limbN_zero, valB_cons, hST, Nat.mul_assoc, Nat.add_mul_mod_self_left]
    rw [e1, e2]
    generalize valB B r = v
    have h1 := Nat.mod_add_div v S
    have h2 : B * v = S * (T * v) := by rw [hST, Nat.mul_assoc]
    rw [h2, Nat.add_mul_div_left _ _ hS]
    have h3 : v % S * T + B * (v / S) = T * v := by
      rw [hST]
      calc v % S * T + S * T * (v / S) = (v % S + S * (v / S)) * T := by rw [Nat.add_mul, Nat.mul_assoc, Nat.mul_assoc, Nat.mul_comm T]
        _ = T * v := by rw [h1, Nat.mul_comm]
    omega
end Go.Proofs.YthppjdmkinbccaaGreatDoor.Base

namespace Go.Proofs.YthppjdmkinbccaaGreatDoor.Print
open Go.RowKit Go.Proofs.YthppjdmkinbccaaGreatDoorW.PrintWords Go.Proofs.YthppjdmkinbccaaGreatDoorW.PrintLast Go.Proofs.YthppjdmkinbccaaGreatDoorW.PrintMore Go.Proofs.YthppjdmkinbccaaGreatDoor.Base
set_option linter.unusedVariables false
set_option linter.unusedSimpArgs false
theorem top_law (l : List Int) (hl : l.length ≤ 4611686018427387904) : ∀ (x k : Nat), x ≤ l.length → x < k → nat_top.l0 k l (x : Int) = some ((trimL (l.take x)).length : Int)
  | 0, k, _, hk => by
    obtain ⟨k, rfl⟩ : ∃ m, k = m + 1 := ⟨k - 1, by omega⟩
    simp only [nat_top.l0]
    rw [if_neg (by omega)]
    simp [trimL]
  | x + 1, k, hx, hk => by
    obtain ⟨k, rfl⟩ : ∃ m, k = m + 1 := ⟨k - 1, by omega⟩
    have e : wrap64 (((x + 1 : Nat) : Int) - 1) = (x : Int) := by unfold wrap64; omega
    have hd : l.take (x + 1) = l.take x ++ [rd l (x : Int)] := by
      rw [List.take_succ_eq_append_getElem (by omega)]
      congr 2
      simp [rd, show x < l.length by omega]
    simp only [nat_top.l0]
    rw [e, if_pos (by omega), if_pos (by omega), if_pos (by omega), hd]
    by_cases h0 : rd l (x : Int) = 0
    · rw [if_pos h0, h0, trimL_snoc_zero]
      exact top_law l hl x k (by omega) (by omega)
    · rw [if_neg h0, trimL_snoc _ _ h0, List.length_append, List.length_take, Nat.min_eq_left (by omega)]
      rfl
theorem top_f (l : List Int) (hl : l.length ≤ 4611686018427387904) : nat_top.f (l.length + 1) l = some ((trimL l).length : Int) := by
  unfold nat_top.f
  rw [top_law l hl l.length (l.length + 1) (Nat.le_refl _) (Nat.lt_succ_self _), List.take_length]
theorem top_calls (A0 : Option Addr) (c0 : Nat) (l0 : List Int) (w : World) (hr0 : Kd.C (Kd.int .u32) w A0 l0.length l0) (hc0 : l0.length ≤ c0) (hl : l0.length ≤ 4611686018427387904) :
    Calls Tryz.prog 74 #[.slice A0 l0.length c0] w fun e w' => e = .returned (.int .i64 ((trimL l0).length : Int)) ∧ Drawn0 w w' :=
  nat_top.calls (l0.length + 1) A0 c0 l0 _ w hr0 hc0 (top_f l0 hl)
def okN (l : List Int) : Bool := decide (l.length ≤ 1048576) && l.all (fun d => decide (0 ≤ d) && decide (d < 4294967296))
theorem okN_iff {l : List Int} : okN l = true ↔ l.length ≤ 1048576 ∧ DigB 4294967296 l := by
  unfold okN DigB
  simp
theorem limb_f (l : List Int) (i : Int) (h : DigB 4294967296 l) : nat_limb.f l i = some (if i < 0 then 0 else (limbN l i.toNat : Int)) := by
  unfold nat_limb.f
  by_cases h1 : i < 0
  · rw [if_pos h1, if_pos h1]
  · rw [if_neg h1, if_neg h1]
    by_cases h2 : i ≥ (l.length : Int)
    · rw [if_pos h2, limbN_out (by omega)]; rfl
    · rw [if_neg h2, if_pos (by omega), if_pos (by omega)]
      obtain ⟨j, rfl⟩ : ∃ j : Nat, i = j := ⟨i.toNat, by omega⟩
      have hj : j < l.length := by omega
      have hm := h l[j] (List.getElem_mem hj)
      simp only [limbN, rd, hj, Int.toNat_natCast, List.getD_eq_getElem?_getD, List.getElem?_eq_getElem, Option.getD_some]
      rw [IntKind.wrap_u64]
      congr 1
      omega
theorem limb_calls (A0 : Option Addr) (c0 : Nat) (l0 : List Int) (i : Int) (w : World) (hr0 : Kd.C (Kd.int .u32) w A0 l0.length l0) (hc0 : l0.length ≤ c0) (hd : DigB 4294967296 l0) :
    Calls Tryz.prog 57 #[.slice A0 l0.length c0, .int .i64 i] w fun e w' => e = .returned (.int .u64 (if i < 0 then 0 else (limbN l0 i.toNat : Int))) ∧ Drawn0 w w' :=
  nat_limb.calls A0 c0 l0 i _ w hr0 hc0 (limb_f l0 i hd)
end Go.Proofs.YthppjdmkinbccaaGreatDoor.Print

namespace Go.Proofs.YthppjdmkinbccaaGreatDoor.Print
open Go.RowKit Go.Shelf Go.Proofs.YthppjdmkinbccaaGreatDoorW.PrintWords Go.Proofs.YthppjdmkinbccaaGreatDoorW.PrintLast Go.Proofs.YthppjdmkinbccaaGreatDoorW.PrintMore Go.Proofs.YthppjdmkinbccaaGreatDoor.Base
attribute [local go_sem] max2_int min2_int max_two min_two   -- for this text's walks alone
set_option linter.unusedVariables false
set_option linter.unusedSimpArgs false
set_option maxRecDepth 100000 in
set_option maxHeartbeats 2000000 in
theorem clone_calls (A : Option Addr) (c : Nat) (l : List Int) (w : World) (hC : Kd.C (Kd.int .u32) w A l.length l) (h8 : l.length * 4 ≤ 140737488355328) :
    Calls Tryz.prog 73 #[.slice A l.length c] w fun e w' => ∃ v, e = .returned v ∧ Kd.R (Kd.int .u32) 56 w' w.heap.size (fun _ => True) v l ∧ Below w.heap.size w w' := by
  cases A with
  | none =>
    have hl : l = [] := by
      cases l with
      | nil => rfl
      | cons x r => obtain ⟨_, e, _⟩ := hC.2.2 (by simp); cases e
    subst hl
    show Calls _ _ #[.slice none 0 c] w _
    have hq := fun w => Lib.run_eql_slice_nil (P := Tryz.prog) w 23 56 none 0 c 0 0 Tryz.underlying23
    simp only [Option.isNone_none] at hq
    go_enter Tryz.func73, Tryz.ntmps73
    go_wp2
    go_ret
    exact ⟨_, rfl, Kd.R_nil _ _ _ _ _, Below.refl _ _⟩
  | some ad =>
    have hq := fun w => Lib.run_eql_slice_nil (P := Tryz.prog) w 23 56 (some ad) l.length c 0 0 Tryz.underlying23
    simp only [Option.isNone_some] at hq
    have HC := Aside0.mk hC
    have H8 := Aside0.mk h8
    clear hC h8
    go_enter Tryz.func73, Tryz.ntmps73
    go_wp2_with ((with_reducible refine gate_builtin (b := .append) (xs := #[.tmp 5, .tmp 6]) rfl ?_); at_builtin; refine Kd.R_append_rows (Kd.int .u32) (w0 := w) w.heap.size rfl (.tmp 5) (.tmp 6) 23 56 (.int .u32 0) 4 rfl Tryz.underlying23 info56 rfl (by decide) (by omega) (.slice (some ⟨w.heap.size, 0, none⟩) 0 0) [] l (some ad) l.length c (fun _ => True) (fun _ => False) rfl rfl ?aO (Kd.cB9 HC.out (bA9 (Below.refl _ _) _)) (fun _ _ h => h) (fun _ hk => hk.elim) (fun _ _ => trivial) ?aB ?aS ?aL ?_; (case aO => exact Kd.R_of_own (World.ownsRow_made w #[] 0 (Nat.le_refl _) (Nat.zero_le _) rfl) (fun _ _ => trivial)); (case aB => exact bA9 (Below.refl _ _) _); (case aS => simp); (case aL => have := H8.out; simp; omega); intro v' w9 ho hb hg hat; rw [List.nil_append] at ho; have HO := Aside0.mk ho; have HB := Aside0.mk hb; clear ho hb hg hat)
    go_ret
    exact ⟨_, rfl, HO.out, HB.out⟩
theorem trimL_len_le (l : List Int) : (trimL l).length ≤ l.length := by
  have h := congrArg List.length (trimL_take l)
  rw [List.length_take] at h
  omega
def nat_Trim.f (l0 : List Int) : Option (List Int) := if okN l0 = true then some (trimL l0) else none
set_option maxRecDepth 100000 in
set_option maxHeartbeats 4000000 in
theorem nat_Trim.calls (A0 : Option Addr) (c0 : Nat) (l0 : List Int) (r : List Int) (w : World) (hr0 : Kd.C (Kd.int .u32) w A0 l0.length l0) (hc0 : l0.length ≤ c0) (h : nat_Trim.f l0 = some r) :
    Calls Tryz.prog 45 #[.slice A0 l0.length c0] w fun e w' => ∃ v0_ : Value, e = .returned (v0_) ∧ Kd.R (Kd.int .u32) 56 w' w.heap.size (fun _ => True) v0_ r ∧ Below w.heap.size w w' := by
  unfold nat_Trim.f at h
  by_cases hg : okN l0 = true
  · rw [if_pos hg] at h
    obtain rfl := Option.some.inj h
    obtain ⟨n0, d0⟩ := okN_iff.1 hg
    have hm := trimL_len_le l0
    have TOP := fun W h => top_calls A0 c0 l0 W h hc0 (by omega)
    have CLO := fun W h => clone_calls A0 c0 (trimL l0) W h (by omega)
    have hCt := Kd.C_take hr0 hm
    rw [← trimL_take] at hCt
    obtain ⟨m, hmm⟩ : ∃ m, (trimL l0).length = m := ⟨_, rfl⟩
    obtain ⟨n, hnn⟩ : ∃ n, l0.length = n := ⟨_, rfl⟩
    rw [hmm] at TOP CLO hm hCt
    rw [hnn] at TOP hm hc0 n0 hr0 ⊢
    have p1 : (0 : Int) ≤ (m : Int) := by omega
    have p2 : (m : Int) ≤ (c0 : Int) := by omega
    have CC := Aside0.mk hr0
    have CT := Aside0.mk hCt
    clear hr0 hCt hg h d0 hmm hnn
    go_enter Tryz.func45, Tryz.ntmps45
    go_wp2_with (first | (go_at_call 74; refine (TOP _ CC.out).mono ?_; rintro e w1 ⟨rfl, ⟨q, rfl⟩⟩) | (go_at_call 73; refine (CLO _ (by (repeat (first | (with_reducible exact CT.out) | (with_reducible refine Kd.cN9 ?_ _) | (with_reducible refine Kd.cD9 ?_))))).mono ?_; rintro e w2 ⟨v, rfl, hR, hB⟩))
    all_goals
      go_ret
      exact ⟨_, rfl, hR, (bN9 (Below.refl _ _) _).trans hB⟩
  · rw [if_neg hg] at h; cases h
theorem boxed_to {W : World} {B : Nat} {t : TypeId} {v v' : Value} (h : Boxed W B t v) (e : v = v') : Boxed W B t v' := e ▸ h
def backs (n : Nat) : List (Fin n) := (List.finRange n).reverse
theorem backs_length (n : Nat) : (backs n).length = n := by simp [backs]
theorem backs_take (n j : Nat) (h : j < n) : (backs n).take (n - j) = (backs n).take (n - 1 - j) ++ [⟨j, h⟩] := by
  rw [show n - j = n - 1 - j + 1 by omega, List.take_succ_eq_append_getElem (by rw [backs_length]; omega)]
  congr 2
  apply Fin.ext
  simp [backs]
  omega
def BackKeeps (n₀ Bs : Nat) (W W' : World) : Prop := Below n₀ W W' ∧ ∀ t v, Boxed W Bs t v → Boxed W' Bs t v
theorem BackKeeps.refl (n₀ Bs : Nat) (W : World) : BackKeeps n₀ Bs W W := ⟨Below.refl _ _, fun _ _ h => h⟩
theorem BackKeeps.trans {n₀ Bs : Nat} {A B C : World} (h : BackKeeps n₀ Bs A B) (k : BackKeeps n₀ Bs B C) : BackKeeps n₀ Bs A C := ⟨h.1.trans k.1, fun t v hv => k.2 t v (h.2 t v hv)⟩
theorem backKeeps_b {n₀ Bs : Nat} {w : World} (hn : n₀ ≤ w.heap.size) (W : World) (l : Nat) (o o' : Obj) (hl : w.heap.size ≤ l) (h : W.heap[l]? = some o) (hc : o.isCells = false) (hk : o.isWalk = false) : BackKeeps n₀ Bs W (W.putObj l o') :=
  ⟨belowK_b hn W l o o' hl h hc hk, fun t v hv => hv.kept (grownBy_putObj' W l o') (fun e => by
    obtain rfl : Bs = l := by simpa using e
    rw [show W.heap[Bs]? = _ from hv] at h; cases h; cases hc)⟩
set_option maxRecDepth 100000 in
set_option maxHeartbeats 2000000 in
theorem down1_in (F : Fence) (n : Nat) (h7 : F.fn 84) (hro : F.round = none) (hn : 1 ≤ n) (l Bs N n0 : Nat) (hN : N ≤ 4611686018427387904) (J Jx : List (Fin N) → World → Prop)
    (hY : ∀ (pre : List (Fin N)) (x : Fin N) (W : World), J pre W → pre.length < N → YieldAt F (n - 1) Tryz.prog l #[.int .i64 (x.1 : Int)] W fun e W' =>
      (e = .returned (.bool true) ∧ J (pre ++ [x]) W' ∧ BackKeeps n0 Bs W W') ∨ (e = .returned (.bool false) ∧ Jx (pre ++ [x]) W'))
    (W : World) (hBs : Boxed W Bs 3 (.int .i64 (N : Int))) (h0 : J [] W) :
    CallsIn F n Tryz.prog 84 #[.func (.yield l) #[] #[], .pointer (some ⟨Bs, 0, none⟩)] W fun e W' => (∃ v, e = .returned v) ∧
      ((∃ ys, ys = backs N ∧ J ys W') ∨ (∃ pre, pre <+: backs N ∧ Jx pre W')) := by
  refine callsIn_of_wp Tryz.func84 rfl h7 ?_ hro
  simp only [Tryz.ntmps84, List.size_toArray, List.length_cons, List.length_nil, Nat.reduceAdd, Nat.reduceSub, Array.replicate_succ, Array.replicate_zero, List.push_toArray, List.append_toArray, List.nil_append, List.cons_append]
  have hc0 := hBs.cell
  gi_wp2
  gi_loopw [3] (fun v wr => ∃ i : Int, -1 ≤ i ∧ i < N ∧ v = .int .i64 i ∧ J ((backs N).take (((N : Int) - 1 - i).toNat)) wr ∧ BackKeeps n0 Bs W wr)
    (fun v _ => ((intOf v) + 1).toNat)
  case atStart => exact ⟨(N : Int) - 1, by omega, by omega, rfl, by rw [show ((N : Int) - 1 - ((N : Int) - 1)).toNat = 0 by omega]; exact h0, BackKeeps.refl _ _ _⟩
  case round =>
    obtain ⟨i, hi0, hi1, rfl, hJs, hkp⟩ := hrel
    by_cases hlt : 0 ≤ i
    · have hbx := (hkp.2 _ _ hBs).cell
      obtain ⟨j, rfl⟩ : ∃ j : Nat, i = j := ⟨i.toNat, by omega⟩
      have hj : j < N := by omega
      obtain ⟨fn, tmps, assign, body, hy, hR⟩ := hY _ (⟨j, hj⟩ : Fin N) wr hJs (by rw [List.length_take, backs_length]; omega)
      dsimp only at hy
      gi_wp2
      refine hR.mono ?_
      rintro e W3 (⟨rfl, hJ3, hk3⟩ | ⟨rfl, hJx3⟩)
      · gi_wp2
        go_roundw
        case rel => exact ⟨(j : Int) - 1, by omega, by omega, rfl, by rw [show ((N : Int) - 1 - ((j : Int) - 1)).toNat = N - j by omega, backs_take _ _ hj]; rw [show ((N : Int) - 1 - (j : Int)).toNat = N - 1 - j by omega] at hJ3; exact hJ3, hkp.trans hk3⟩
        case measure => simp [intOf]
      · gi_wp2
        refine bodyPost_ret (results_none rfl _ _ _) rfl ?_
        rw [show ((N : Int) - 1 - (j : Int)).toNat = N - 1 - j by omega, ← backs_take _ _ hj] at hJx3
        exact ⟨⟨_, rfl⟩, .inr ⟨_, List.take_prefix _ _, hJx3⟩⟩
    · obtain rfl : i = -1 := by omega
      have hd : decide ((0 : Int) ≤ -1) = false := by decide
      gi_wp2
      go_end0
      rw [show ((N : Int) - 1 - (-1)).toNat = N by omega, List.take_of_length_le (by rw [backs_length]; omega)] at hJs
      exact ⟨⟨_, rfl⟩, .inl hJs⟩
theorem down_stops (F : Fence) (n : Nat) (h7 : F.fn 84) (hro : F.round = none) (hn : 1 ≤ n) (Bs N n0 : Nat) (hN : N ≤ 4611686018427387904) (w : World) (hBs : Boxed w Bs 3 (.int .i64 (N : Int))) :
    SeqStopsK F n Tryz.prog 84 #[.pointer (some ⟨Bs, 0, none⟩)] (fun x : Fin N => #[Value.int .i64 (x.1 : Int)]) (BackKeeps n0 Bs) (fun ys => ys = backs N) (fun pre => pre <+: backs N) N w := fun l J Jx W hW _ _ hY hj => by
  have hb : Boxed W Bs 3 (.int .i64 (N : Int)) := (hW.block Bs hBs.lt).trans hBs
  exact down1_in F n h7 hro hn l Bs N n0 hN J Jx hY W hb hj
set_option maxRecDepth 100000 in
set_option maxHeartbeats 8000000 in
theorem down_calls (A : Option Addr) (la ca : Nat) (B : Option Addr) (lb cb b : Nat) (w : World) (h0 : w.cell? ⟨b, 0, none⟩ = some (.slice A la ca)) (h1 : w.cell? ⟨b, 1, none⟩ = some (.slice B lb cb)) (hb : b < w.heap.size) (hla : la ≤ 4611686018427387904) (hlb : lb ≤ 4611686018427387904) :
    Calls Tryz.prog 56 #[.slice (some ⟨b, 0, none⟩) 2 2] w fun e w' => e = .returned (.func (.func 84) #[] #[.pointer (some ⟨w.heap.size, 0, none⟩)]) ∧ Boxed w' w.heap.size 3 (.int .i64 ((max la lb : Nat) : Int)) ∧ Below w.heap.size w w' := by
  have H0 := Aside0.mk h0
  have H1 := Aside0.mk h1
  clear h0 h1
  go_enter Tryz.func56, Tryz.ntmps56
  go_wp2
  go_loopg [8] 3 (fun kq v8 w' => ∃ (i c : Nat), v8 = .int .i64 (i : Int) ∧ Aside0 (i + kq = 3 ∧ i ≤ 2 ∧ (i = 0 → c = 0) ∧ (i = 1 → c = la) ∧ (i = 2 → c = max la lb)) ∧ Aside0 (Boxed w' w.heap.size 3 (.int .i64 (c : Int))) ∧ Aside0 (Below w.heap.size w w'))
  case atStart => exact ⟨0, 0, rfl, ⟨by omega, by omega, fun _ => rfl, by omega, by omega⟩, ⟨Boxed.new w 3 (.int .i64 0)⟩, ⟨bA9 (Below.refl _ _) _⟩⟩
  case round =>
    obtain ⟨i, c, rfl, HI, HB, HL⟩ := hrel
    have h0 := (HL.out.cell (p := ⟨b, 0, none⟩) hb).trans H0.out
    have h1 := (HL.out.cell (p := ⟨b, 1, none⟩) hb).trans H1.out
    have hc := HB.out.cell
    have hf := HB.out.frozen
    obtain ⟨i1, i2, i3, i4, i5⟩ := HI.out
    cases gk with
    | zero => omega
    | succ k1 =>
      clear HI
      rcases (by omega : i = 0 ∨ i = 1 ∨ i = 2) with rfl | rfl | rfl
      · obtain rfl := i3 rfl
        clear i3 i4 i5 h1
        go_wp2
        all_goals
          go_roundg k1
          case measure => omega
          case rel => exact ⟨1, la, rfl, ⟨by omega, by omega, by omega, fun _ => rfl, by omega⟩, ⟨boxed_to (HB.out.set _) (by first | rfl | (congr 1; omega))⟩, ⟨HL.out.setCell (p := ⟨w.heap.size, 0, none⟩) (Nat.le_refl _) _⟩⟩
      · obtain rfl := i4 rfl
        clear i3 i4 i5 h0
        go_wp2
        all_goals
          go_roundg k1
          case measure => omega
          case rel => exact ⟨2, max c lb, rfl, ⟨by omega, by omega, by omega, by omega, fun _ => rfl⟩, ⟨boxed_to (HB.out.set _) (by first | rfl | (congr 1; omega))⟩, ⟨HL.out.setCell (p := ⟨w.heap.size, 0, none⟩) (Nat.le_refl _) _⟩⟩
      · obtain rfl := i5 rfl
        clear i3 i4 i5 h0 h1
        go_wp2
        go_ret
        exact ⟨rfl, HB.out, HL.out⟩
end Go.Proofs.YthppjdmkinbccaaGreatDoor.Print

namespace Go.Proofs.YthppjdmkinbccaaGreatDoor.Print
open Go.RowKit Go.Proofs.YthppjdmkinbccaaGreatDoorW.PrintWords Go.Proofs.YthppjdmkinbccaaGreatDoorW.PrintLast Go.Proofs.YthppjdmkinbccaaGreatDoorW.PrintMore
attribute [local go_sem] max2_int min2_int max_two min_two max_three min_three max_four min_four   -- for this text's walks alone
set_option linter.unusedVariables false
set_option linter.unusedSimpArgs false
def quo_Short.l0 : Nat → List Int → Int → List Int → Int → Int → Option (List Int × Int × Int)
 | 0, _, _, _, _, _ => none
 | k + 1, x0, x1, x7, x8, x9 => if x9 ≥ 0 then (if 0 ≤ x9 then (if x9 < (x0.length : Int) then (if (IntKind.u64.wrap (x1)) = 0 then (none) else (if x9 < (x7.length : Int) then (quo_Short.l0 k x0 x1 (x7.set (x9 : Int).toNat ((IntKind.u64.wrap (Int.tdiv (Go.bits .or .u64 (IntKind.u64.wrap (x8 * 4294967296)) (IntKind.u64.wrap (rd x0 x9))) (IntKind.u64.wrap (x1)))) % 4294967296)) (Int.tmod (Go.bits .or .u64 (IntKind.u64.wrap (x8 * 4294967296)) (IntKind.u64.wrap (rd x0 x9))) (IntKind.u64.wrap (x1))) (wrap64 (x9 - 1))) else (none))) else (none)) else (none)) else ((nat_Trim.f x7).bind fun t106 => (some (t106, (x8) % 4294967296, 0)))
def quo_Short.f (k : Nat) (l0 : List Int) (a1 : Int) : Option (List Int × Int × Int) := if a1 = 0 then (some (([] : List Int), 0, 17)) else (if 0 ≤ (l0.length : Int) then (if ((l0.length : Int) : Int).toNat ≤ 70368744177664 then (quo_Short.l0 k l0 a1 (List.replicate ((l0.length : Int) : Int).toNat 0) 0 (wrap64 ((l0.length : Int) - 1))) else (none)) else (none))
set_option maxHeartbeats 8000000 in
set_option maxRecDepth 100000 in
theorem quo_Short.calls (k : Nat) (A0 : Option Addr) (c0 : Nat) (l0 : List Int) (a1 : Int) (r1 : List Int) (r2 : Int) (r3 : Int) (w : World) (hr0 : Kd.C (Kd.int .u32) w A0 l0.length l0) (hc0 : l0.length ≤ c0) (h : quo_Short.f k l0 a1 = some (r1, r2, r3)) :
  Calls Tryz.prog 46 #[.slice A0 l0.length c0, .int .u32 a1] w fun e w' => ∃ v0_ : Value, e = .returned (.tuple #[v0_, .int .u32 r2, .int .i64 r3]) ∧ Kd.R (Kd.int .u32) 56 w' w.heap.size (fun _ => True) v0_ r1 ∧ Below w.heap.size w w' := by
 have HR0 := Aside0.mk hr0
 have HC0 := Aside0.mk hc0
 clear hr0 hc0
 have HB := Aside0.mk (Below.refl w.heap.size w)
 have H : (if a1 = 0 then (some (([] : List Int), 0, 17)) else (if 0 ≤ (l0.length : Int) then (if ((l0.length : Int) : Int).toNat ≤ 70368744177664 then (quo_Short.l0 k l0 a1 (List.replicate ((l0.length : Int) : Int).toNat 0) 0 (wrap64 ((l0.length : Int) - 1))) else (none)) else (none))) = some (r1, r2, r3) := h
 clear h
 by_cases c3 : a1 = 0
 ·rw [if_pos c3] at H
  have c3b0 : (a1 == 0) = true := beq_iff_eq.mpr c3
  have c3b1 : (a1 != 0) = false := bne_eq_false_iff_eq.mpr c3
  clear c3
  simp only [Option.some.injEq, Prod.mk.injEq] at H
  obtain ⟨rfl, rfl, rfl⟩ := H
  go_enter Tryz.func46, Tryz.ntmps46
  go_wp2
  go_ret3
  exact ⟨_, by first | rfl | (simp [eN9, eS9] <;> rfl) | (simp [*, eN9, eS9] <;> rfl), by first | exact Kd.R_nil _ _ _ _ _ | exact Kd.N_nil _ _ _ _ _ | exact Kd.V_nil _ _ _ _ _ | exact Kd.Q_nil _ _ _ _ _ | exact Kd.S_nil _ _ _ _ _, by repeat (first | (with_reducible first | exact HB.out | apply bA9 | apply bN9 | apply bD9) | exact HB.out)⟩
 ·rw [if_neg c3] at H
  have c3b0 : (a1 == 0) = false := beq_eq_false_iff_ne.mpr c3
  have c3b1 : (a1 != 0) = true := bne_iff_ne.mpr c3
  by_cases c4 : 0 ≤ (l0.length : Int)
  ·rw [if_pos c4] at H
   have c4b0 := eq_true c4
   try (have h_c4 := c4; rw [ByteArray.size_append] at h_c4; have c4b3 := eq_true h_c4; have c4b4 := eq_false (Nat.not_lt.2 h_c4); clear h_c4)
   have c4b1 : decide (0 ≤ (l0.length : Int)) = true := decide_eq_true c4
   clear c4
   by_cases c5 : ((l0.length : Int) : Int).toNat ≤ 70368744177664
   ·rw [if_pos c5] at H
    have c5b0 := eq_true c5
    try (have h_c5 := c5; rw [ByteArray.size_append] at h_c5; have c5b3 := eq_true h_c5; have c5b4 := eq_false (Nat.not_lt.2 h_c5); clear h_c5)
    have c5b1 : decide (((l0.length : Int) : Int).toNat ≤ 70368744177664) = true := decide_eq_true c5
    clear c5
    obtain ⟨y101, hy101⟩ : ∃ y_ : List Int, y_ = (List.replicate ((l0.length : Int) : Int).toNat 0) := ⟨_, rfl⟩
    replace H : (quo_Short.l0 k l0 a1 y101 0 (wrap64 ((l0.length : Int) - 1))) = some (r1, r2, r3) := by first | (rw [hy101]; with_reducible exact H) | (have H2_ := (Option.bind_some _ _).symm.trans H; rw [hy101]; with_reducible exact H2_) | (have H2_ := (Option.bind_some _ _).symm.trans H; with_reducible exact H2_) | with_reducible exact H | (rw [hy101]; exact H) | exact H
    have Ny101 := Aside0.mk hy101
    clear hy101
    have H' := Aside0.mk H
    clear H
    go_enter Tryz.func46, Tryz.ntmps46
    go_wp2_with (first | ((with_reducible refine gD9 (N := 14) rfl ?_); refine Kd.R_make (Kd.int .u32) _ 56 rfl (N := 14) rfl 23 _ _ rfl (l0.length : Int) rfl rfl Tryz.underlying23 (.int .u32 0) 4 info56 rfl (by decide) (by omega) 0 (ok := fun _ => True) (okp := fun _ => True) rfl (fun _ hk => hk) trivial (of_decide_eq_true (by first | (with_reducible assumption) | assumption)) (Nat.le_trans (Nat.mul_le_mul_right _ (of_decide_eq_true (by first | (with_reducible assumption) | assumption) : (l0.length : Int).toNat ≤ 70368744177664)) (by omega)) (Below.refl _ _) (Nat.le_refl _) ?_; intro v102 w6 ho7 hb hg_ hnew_; clear hg_ hnew_; (first | rw [← Ny101.out] at ho7 | (simp only [Int.reduceToNat] at ho7; rw [← Ny101.out] at ho7)); have n0_ := Aside0.mk (Kd.rL9 ho7 (bZ9 (by repeat (first | (with_reducible first | exact HB.out | apply bA9 | apply bN9 | apply bD9) | exact HB.out)))); have n1_ := Aside0.mk (bT9 (by repeat (first | (with_reducible first | exact HB.out | apply bA9 | apply bN9 | apply bD9) | exact HB.out)) hb); clear HB; have HO103 := n0_; have HB := n1_; clear n0_ n1_; clear hb ho7))
    go_loopg [8, 9] k (fun kq v8 v9 w' => ∃ (x7_1 : List Int) (x8_1 : Int) (x9_1 : Int), v8 = .int .u64 x8_1 ∧ v9 = .int .i64 x9_1 ∧ Aside0 (quo_Short.l0 kq l0 a1 x7_1 x8_1 x9_1 = some (r1, r2, r3)) ∧ Aside0 (kq ≤ k) ∧ Aside0 (Kd.R (Kd.int .u32) 56 w' w.heap.size (fun _ => True) v102 x7_1) ∧ Aside0 (Below w.heap.size w w'))
    case atStart => exact ⟨(y101), (0), (wrap64 ((l0.length : Int) - 1)), (by first | rfl | (simp; done) | (simp [*]; done)), (by first | rfl | (simp; done) | (simp [*]; done)), H', ⟨Nat.le_refl _⟩, ⟨by (with_reducible repeat (first | apply Kd.rA9 | apply Kd.rN9 | apply Kd.rD9)); exact HO103.out⟩, ⟨by repeat (first | (with_reducible first | exact HB.out | apply bA9 | apply bN9 | apply bD9) | exact HB.out)⟩⟩
    case round =>
     clear H'
     try clear p2
     try clear c3
     try clear c3b0
     try clear c3b1
     try clear c4
     try clear c4b0
     try clear c4b1
     try clear c5
     try clear c5b0
     try clear c5b1
     try clear p6
     obtain ⟨x7_1, x8_1, x9_1, rfl, rfl, HA, HK1, HO_7, HB⟩ := hrel
     cases gk with
     | zero => exact absurd HA.out (by simp [quo_Short.l0])
     | succ k1 =>
      have H := HA.out
      clear HA
      simp only [quo_Short.l0] at H
      by_cases c8 : x9_1 ≥ 0
      ·rw [if_pos c8] at H
       have c8b0 : decide (0 ≤ x9_1) = true := decide_eq_true c8
       clear c8
       by_cases c9 : 0 ≤ x9_1
       ·rw [if_pos c9] at H
        have c9b0 : decide (0 ≤ x9_1) = true := decide_eq_true c9
        clear c9
        by_cases c10 : x9_1 < (l0.length : Int)
        ·rw [if_pos c10] at H
         have c10b0 : decide (x9_1 < (l0.length : Int)) = true := decide_eq_true c10
         clear c10
         by_cases c11 : (IntKind.u64.wrap (a1)) = 0
         ·rw [if_pos c11] at H
          exact absurd H (by simp)
         ·rw [if_neg c11] at H
          have c11b0 : ((IntKind.u64.wrap (a1)) == 0) = false := beq_eq_false_iff_ne.mpr c11
          have c11b1 : ((IntKind.u64.wrap (a1)) != 0) = true := bne_iff_ne.mpr c11
          by_cases c12 : x9_1 < (x7_1.length : Int)
          ·rw [if_pos c12] at H
           have c12b0 : decide (x9_1 < (x7_1.length : Int)) = true := decide_eq_true c12
           clear c12
           obtain ⟨y105, hy105⟩ : ∃ y_ : List Int, y_ = (x7_1.set (x9_1 : Int).toNat ((IntKind.u64.wrap (Int.tdiv (Go.bits .or .u64 (IntKind.u64.wrap (x8_1 * 4294967296)) (IntKind.u64.wrap (rd l0 x9_1))) (IntKind.u64.wrap (a1)))) % 4294967296)) := ⟨_, rfl⟩
           replace H : (quo_Short.l0 k1 l0 a1 y105 (Int.tmod (Go.bits .or .u64 (IntKind.u64.wrap (x8_1 * 4294967296)) (IntKind.u64.wrap (rd l0 x9_1))) (IntKind.u64.wrap (a1))) (wrap64 (x9_1 - 1))) = some (r1, r2, r3) := by first | (rw [hy105]; with_reducible exact H) | (have H2_ := (Option.bind_some _ _).symm.trans H; rw [hy105]; with_reducible exact H2_) | (have H2_ := (Option.bind_some _ _).symm.trans H; with_reducible exact H2_) | with_reducible exact H | (rw [hy105]; exact H) | exact H
           have Ny105 := Aside0.mk hy105
           clear hy105
           have H' := Aside0.mk H
           clear H
           have p104 : 0 ≤ (x9_1 : Int) := of_decide_eq_true (by first | (with_reducible assumption) | assumption)
           have q104 : x9_1 < (l0.length : Int) := of_decide_eq_true (by first | (with_reducible assumption) | assumption)
           obtain ⟨ad104, e104, hx104_0⟩ := Kd.at_int HR0.out x9_1 p104 q104
           cases e104
           replace hx104_0 := (HB.out.cell (World.block_lt_of_cell? w _ hx104_0)).trans hx104_0
           replace p104 := eq_true p104
           replace q104 := eq_true q104
           have p13 : 0 ≤ (x9_1 : Int) := of_decide_eq_true (by first | (with_reducible assumption) | assumption)
           have q13 : (x9_1 : Int) < ((x7_1.length : Int) : Int) := of_decide_eq_true (by first | (with_reducible assumption) | assumption)
           obtain ⟨go13, co13, eo13, gb13, gl13, cl13, HG13⟩ := Kd.R_form HO_7.out (by omega)
           (first | cases eo13 | (injection eo13 with ea_ en_ ec_; (first | subst ea_ | (injection ea_ with ea_; subst ea_)); subst ec_; clear en_))
           have GB13 := Aside0.mk gb13
           have GG13 := Aside0.mk HG13
           clear gb13 gl13 HG13
           obtain ⟨hx13_0, hf13_0⟩ := Kd.R_celln 0 HO_7.out (x9_1 : Int) p13 q13
           replace p13 := eq_true p13
           replace q13 := eq_true q13
           have HP14 := Kd.R_putg HO_7.out (x9_1 : Int) ((IntKind.u64.wrap (Int.tdiv (Go.bits .or .u64 (IntKind.u64.wrap (x8_1 * 4294967296)) (IntKind.u64.wrap (rd l0 x9_1))) (IntKind.u64.wrap (a1)))) % 4294967296)
           go_wp2_with (first | ((with_reducible refine gate_store (t := 56) (p := 37) rfl ?_); refine store_event (t := 56) (p := 37) (v := ?vo_w15) (w1 := (wr.setCell ⟨go13, (x9_1 : Int).toNat, none⟩ (.int .u32 ((IntKind.u64.wrap (Int.tdiv (Go.bits .or .u64 (IntKind.u64.wrap (x8_1 * 4294967296)) (IntKind.u64.wrap (rd l0 x9_1))) (IntKind.u64.wrap (a1)))) % 4294967296)))) ?hg ?ho ?hn ?hr ?_; (case ho => rfl); (case hg => rfl); (case hn => rfl); (case hr => first | (go_simp; done) | (go_simp; rfl)); intro w15 hw; have hg : wr.grownBy w15 (some go13) := (by rw [hw]; exact HP14.2); have hp_ : Kd.R (Kd.int .u32) 56 w15 w.heap.size (fun _ => True) (.slice (some ⟨go13, 0, none⟩) x7_1.length co13) y105 := (by rw [hw, Ny105.out]; exact HP14.1); clear HP14; have n0_ := Aside0.mk (hp_); have n1_ := Aside0.mk ((by rw [hw]; exact bS9 (HB.out) GB13.out : Below w.heap.size w w15)); clear HO_7; clear HB; have HO_7 := n0_; have HB := n1_; clear n0_ n1_; clear hg hw hp_))
           go_roundg k1
           case measure => have := HK1.out; omega
           case rel => exact ⟨(y105), (Int.tmod (Go.bits .or .u64 (IntKind.u64.wrap (x8_1 * 4294967296)) (IntKind.u64.wrap (rd l0 x9_1))) (IntKind.u64.wrap (a1))), (wrap64 (x9_1 - 1)), (by first | rfl | (simp; done) | (simp [*]; done)), (by first | rfl | (simp; done) | (simp [*]; done)), H', ⟨by have := HK1.out; omega⟩, ⟨by (with_reducible repeat (first | apply Kd.rA9 | apply Kd.rN9 | apply Kd.rD9)); exact HO_7.out⟩, ⟨by repeat (first | (with_reducible first | exact HB.out | apply bA9 | apply bN9 | apply bD9) | exact HB.out)⟩⟩
          ·rw [if_neg c12] at H
           exact absurd H (by simp)
        ·rw [if_neg c10] at H
         exact absurd H (by simp)
       ·rw [if_neg c9] at H
        exact absurd H (by simp)
      ·rw [if_neg c8] at H
       have c8b0 : decide (0 ≤ x9_1) = false := decide_eq_false c8
       clear c8
       replace H := Option.bind_eq_some_iff.mp H
       obtain ⟨t106, A160, H⟩ := H
       replace H : (some (t106, (x8_1) % 4294967296, 0)) = some (r1, r2, r3) := H
       have A16 := Aside0.mk A160
       clear A160
       simp only [Option.some.injEq, Prod.mk.injEq] at H
       obtain ⟨rfl, rfl, rfl⟩ := H
       obtain ⟨Ao17, co17, eo17⟩ := Kd.rS9 HO_7.out
       subst eo17
       go_wp2_with (first | ((with_reducible refine gC9 (f := 45) rfl ?_); refine goesL_ (some 43) rfl rfl Tryz.func45 (by kernel_rfl) rfl #[.slice Ao17 x7_1.length co17] rfl (by (try simp only [List.map_toArray, List.map_cons, List.map_nil]); first | done | rfl | (simp only [List.length_drop, List.length_take]; rfl)) ?_; (with_reducible refine (nat_Trim.calls _ _ x7_1 t106 _ ?side1 ?side2 A16.out).mono ?_); (case side1 => repeat (first | exact (Kd.rR9 HO_7.out).2.2 | (with_reducible refine Kd.cA9 ?_ _) | (with_reducible refine Kd.cN9 ?_ _) | (with_reducible refine Kd.cD9 ?_))); (case side2 => exact (Kd.rR9 HO_7.out).2.1); rintro e w18 ⟨v107, rfl, ho0, hb⟩; refine ⟨_, rfl, ?_⟩; have n0_ := Aside0.mk (Kd.R_elder' (by (with_reducible repeat (first | apply Kd.rA9 | apply Kd.rN9 | apply Kd.rD9)); exact HO_7.out) (Kd.R_base ho0) hb); have n1_ := Aside0.mk (Kd.rL9 (Kd.R_new' ho0 (Kd.R_lt (by (with_reducible repeat (first | apply Kd.rA9 | apply Kd.rN9 | apply Kd.rD9)); exact HO_7.out))) (bZ9 (by repeat (first | (with_reducible first | exact HB.out | apply bA9 | apply bN9 | apply bD9) | exact HB.out)))); have n2_ := Aside0.mk (bT9 (by repeat (first | (with_reducible first | exact HB.out | apply bA9 | apply bN9 | apply bD9) | exact HB.out)) hb); clear HO_7; clear HB; have HO_7 := n0_; have HO108 := n1_; have HB := n2_; clear n0_ n1_ n2_; (try clear hb); (try clear hb2); (try clear hk); (try clear hi); (try clear ho0)))
       go_ret3
       exact ⟨_, by first | rfl | (simp [eN9, eS9] <;> rfl) | (simp [*, eN9, eS9] <;> rfl), by (with_reducible repeat (first | apply Kd.rA9 | apply Kd.rN9 | apply Kd.rD9)); exact Kd.R_mono HO108.out (fun _ hk => trivial), by repeat (first | (with_reducible first | exact HB.out | apply bA9 | apply bN9 | apply bD9) | exact HB.out)⟩
   ·rw [if_neg c5] at H
    exact absurd H (by simp)
  ·rw [if_neg c4] at H
   exact absurd H (by simp)
mutual
def quo_guess.l0 : Nat → List Int → List Int → Int → Int → Int → Option (Int)
 | 0, _, _, _, _, _ => none
 | k + 1, x0, x1, x5, x7, x8 => if (x7 / 4294967296) > 0 then (quo_guess.j1 k x0 x1 x5 x7 x8 true) else (if 0 ≤ (wrap64 (x5 - 2)) then (if (wrap64 (x5 - 2)) < (x1.length : Int) then (if (wrap64 (x5 - 2)) < (x0.length : Int) then (quo_guess.j1 k x0 x1 x5 x7 x8 (decide ((IntKind.u64.wrap (x7 * (IntKind.u64.wrap (rd x1 (wrap64 (x5 - 2)))))) > (Go.bits .or .u64 (IntKind.u64.wrap (x8 * 4294967296)) (IntKind.u64.wrap (rd x0 (wrap64 (x5 - 2)))))))) else (none)) else (none)) else (none))
def quo_guess.j1 : Nat → List Int → List Int → Int → Int → Int → Bool → Option (Int)
 | 0, _, _, _, _, _, _ => none
 | k + 1, x0, x1, x5, x7, x8, x62 => if x62 = true then (if 0 ≤ (wrap64 (x5 - 1)) then (if (wrap64 (x5 - 1)) < (x1.length : Int) then (if ((IntKind.u64.wrap (x8 + (IntKind.u64.wrap (rd x1 (wrap64 (x5 - 1)))))) / 4294967296) > 0 then (some (IntKind.u64.wrap (x7 - 1))) else (quo_guess.l0 k x0 x1 x5 (IntKind.u64.wrap (x7 - 1)) (IntKind.u64.wrap (x8 + (IntKind.u64.wrap (rd x1 (wrap64 (x5 - 1)))))))) else (none)) else (none)) else (some x7)
end
def quo_guess.f (k : Nat) (l0 : List Int) (l1 : List Int) : Option (Int) := if 0 ≤ (l1.length : Int) then (if (l1.length : Int) < (l0.length : Int) then (if 0 ≤ (wrap64 ((l1.length : Int) - 1)) then (if (wrap64 ((l1.length : Int) - 1)) < (l0.length : Int) then (if (wrap64 ((l1.length : Int) - 1)) < (l1.length : Int) then (if (IntKind.u64.wrap (rd l1 (wrap64 ((l1.length : Int) - 1)))) = 0 then (none) else (quo_guess.l0 k l0 l1 (l1.length : Int) (IntKind.u64.wrap (Int.tdiv (Go.bits .or .u64 (IntKind.u64.wrap ((IntKind.u64.wrap (rd l0 (l1.length : Int))) * 4294967296)) (IntKind.u64.wrap (rd l0 (wrap64 ((l1.length : Int) - 1))))) (IntKind.u64.wrap (rd l1 (wrap64 ((l1.length : Int) - 1)))))) (Int.tmod (Go.bits .or .u64 (IntKind.u64.wrap ((IntKind.u64.wrap (rd l0 (l1.length : Int))) * 4294967296)) (IntKind.u64.wrap (rd l0 (wrap64 ((l1.length : Int) - 1))))) (IntKind.u64.wrap (rd l1 (wrap64 ((l1.length : Int) - 1))))))) else (none)) else (none)) else (none)) else (none)) else (none)
set_option maxHeartbeats 8000000 in
set_option maxRecDepth 100000 in
theorem quo_guess.calls (k : Nat) (A0 : Option Addr) (c0 : Nat) (l0 : List Int) (A1 : Option Addr) (c1 : Nat) (l1 : List Int) (r : Int) (w : World) (hr0 : Kd.C (Kd.int .u32) w A0 l0.length l0) (hc0 : l0.length ≤ c0) (hr1 : Kd.C (Kd.int .u32) w A1 l1.length l1) (hc1 : l1.length ≤ c1) (h : quo_guess.f k l0 l1 = some r) :
  Calls Tryz.prog 131 #[.slice A0 l0.length c0, .slice A1 l1.length c1] w fun e w' => e = .returned (.int .u64 r) ∧ Drawn0 w w' := by
 have HR0 := Aside0.mk hr0
 have HC0 := Aside0.mk hc0
 clear hr0 hc0
 have HR1 := Aside0.mk hr1
 have HC1 := Aside0.mk hc1
 clear hr1 hc1
 have H : (if 0 ≤ (l1.length : Int) then (if (l1.length : Int) < (l0.length : Int) then (if 0 ≤ (wrap64 ((l1.length : Int) - 1)) then (if (wrap64 ((l1.length : Int) - 1)) < (l0.length : Int) then (if (wrap64 ((l1.length : Int) - 1)) < (l1.length : Int) then (if (IntKind.u64.wrap (rd l1 (wrap64 ((l1.length : Int) - 1)))) = 0 then (none) else (quo_guess.l0 k l0 l1 (l1.length : Int) (IntKind.u64.wrap (Int.tdiv (Go.bits .or .u64 (IntKind.u64.wrap ((IntKind.u64.wrap (rd l0 (l1.length : Int))) * 4294967296)) (IntKind.u64.wrap (rd l0 (wrap64 ((l1.length : Int) - 1))))) (IntKind.u64.wrap (rd l1 (wrap64 ((l1.length : Int) - 1)))))) (Int.tmod (Go.bits .or .u64 (IntKind.u64.wrap ((IntKind.u64.wrap (rd l0 (l1.length : Int))) * 4294967296)) (IntKind.u64.wrap (rd l0 (wrap64 ((l1.length : Int) - 1))))) (IntKind.u64.wrap (rd l1 (wrap64 ((l1.length : Int) - 1))))))) else (none)) else (none)) else (none)) else (none)) else (none)) = some r := h
 clear h
 by_cases c3 : 0 ≤ (l1.length : Int)
 ·rw [if_pos c3] at H
  have c3b0 : decide (0 ≤ (l1.length : Int)) = true := decide_eq_true c3
  have c3b1 : decide (0 ≤ l1.length) = true := decide_eq_true (by omega)
  clear c3
  by_cases c4 : (l1.length : Int) < (l0.length : Int)
  ·rw [if_pos c4] at H
   have c4b0 : decide ((l1.length : Int) < (l0.length : Int)) = true := decide_eq_true c4
   have c4b1 : decide (l1.length < l0.length) = true := decide_eq_true (Int.ofNat_lt.mp c4)
   clear c4
   obtain ⟨ji5, hji5⟩ : ∃ j_ : Int, (wrap64 ((l1.length : Int) - 1)) = j_ := ⟨_, rfl⟩
   replace H : (if 0 ≤ (ji5) then (if (ji5) < (l0.length : Int) then (if (ji5) < (l1.length : Int) then (if (IntKind.u64.wrap (rd l1 (ji5))) = 0 then (none) else (quo_guess.l0 k l0 l1 (l1.length : Int) (IntKind.u64.wrap (Int.tdiv (Go.bits .or .u64 (IntKind.u64.wrap ((IntKind.u64.wrap (rd l0 (l1.length : Int))) * 4294967296)) (IntKind.u64.wrap (rd l0 (ji5)))) (IntKind.u64.wrap (rd l1 (ji5))))) (Int.tmod (Go.bits .or .u64 (IntKind.u64.wrap ((IntKind.u64.wrap (rd l0 (l1.length : Int))) * 4294967296)) (IntKind.u64.wrap (rd l0 (ji5)))) (IntKind.u64.wrap (rd l1 (ji5)))))) else (none)) else (none)) else (none)) = some r := by first | (rw [hji5] at H; exact H) | (simp only [hji5] at H ⊢; exact H)
   have hji5w : (IntKind.i64.wrap ((l1.length : Int) - 1)) = ji5 := (i64_w _).trans hji5
   by_cases c6 : 0 ≤ (ji5)
   ·rw [if_pos c6] at H
    have c6b0 : decide (0 ≤ (ji5)) = true := decide_eq_true c6
    clear c6
    by_cases c7 : (ji5) < (l0.length : Int)
    ·rw [if_pos c7] at H
     have c7b0 : decide ((ji5) < (l0.length : Int)) = true := decide_eq_true c7
     clear c7
     by_cases c8 : (ji5) < (l1.length : Int)
     ·rw [if_pos c8] at H
      have c8b0 : decide ((ji5) < (l1.length : Int)) = true := decide_eq_true c8
      clear c8
      by_cases c9 : (IntKind.u64.wrap (rd l1 (ji5))) = 0
      ·rw [if_pos c9] at H
       exact absurd H (by simp)
      ·rw [if_neg c9] at H
       have c9b0 : ((IntKind.u64.wrap (rd l1 (ji5))) == 0) = false := beq_eq_false_iff_ne.mpr c9
       have c9b1 : ((IntKind.u64.wrap (rd l1 (ji5))) != 0) = true := bne_iff_ne.mpr c9
       have H' := Aside0.mk H
       clear H
       have p109 : 0 ≤ ((l1.length : Int) : Int) := of_decide_eq_true (by first | (with_reducible assumption) | assumption)
       have q109 : (l1.length : Int) < (l0.length : Int) := of_decide_eq_true (by first | (with_reducible assumption) | assumption)
       obtain ⟨ad109, e109, hx109_0⟩ := Kd.at_int HR0.out (l1.length : Int) p109 q109
       cases e109
       (try simp only [Go.IntWalk.toNatUp] at hx109_0)
       replace p109 := eq_true p109
       replace q109 := eq_true q109
       have p110 : 0 ≤ ((ji5) : Int) := of_decide_eq_true (by first | (with_reducible assumption) | assumption)
       have q110 : (ji5) < (l0.length : Int) := of_decide_eq_true (by first | (with_reducible assumption) | assumption)
       obtain ⟨ad110, e110, hx110_0⟩ := Kd.at_int HR0.out (ji5) p110 q110
       obtain rfl : ad109 = ad110 := (by injection e110)
       replace p110 := eq_true p110
       replace q110 := eq_true q110
       have p111 : 0 ≤ ((ji5) : Int) := of_decide_eq_true (by first | (with_reducible assumption) | assumption)
       have q111 : (ji5) < (l1.length : Int) := of_decide_eq_true (by first | (with_reducible assumption) | assumption)
       obtain ⟨ad111, e111, hx111_0⟩ := Kd.at_int HR1.out (ji5) p111 q111
       cases e111
       replace p111 := eq_true p111
       replace q111 := eq_true q111
       have p112 : 0 ≤ ((ji5) : Int) := of_decide_eq_true (by first | (with_reducible assumption) | assumption)
       have q112 : (ji5) < (l1.length : Int) := of_decide_eq_true (by first | (with_reducible assumption) | assumption)
       obtain ⟨ad112, e112, hx112_0⟩ := Kd.at_int HR1.out (ji5) p112 q112
       obtain rfl : ad111 = ad112 := (by injection e112)
       replace p112 := eq_true p112
       replace q112 := eq_true q112
       go_enter Tryz.func131, Tryz.ntmps131
       go_wp2_with fail
       try go_step3
       go_wp2
       try (go_step3; go_wp2)
       try (go_step3; go_wp2)
       repeat (go_quiet (fail); try go_wp2)
       try (go_step3; go_wp2)
       try (go_step3; go_wp2)
       go_loopg [7, 8] k (fun kq v7 v8 w' => ∃ (x7_1 : Int) (x8_1 : Int), v7 = .int .u64 x7_1 ∧ v8 = .int .u64 x8_1 ∧ Aside0 (quo_guess.l0 kq l0 l1 (l1.length : Int) x7_1 x8_1 = some r) ∧ Aside0 (kq ≤ k) ∧ Drawn0 w w')
       case atStart => exact ⟨(IntKind.u64.wrap (Int.tdiv (Go.bits .or .u64 (IntKind.u64.wrap ((IntKind.u64.wrap (rd l0 (l1.length : Int))) * 4294967296)) (IntKind.u64.wrap (rd l0 (ji5)))) (IntKind.u64.wrap (rd l1 (ji5))))), (Int.tmod (Go.bits .or .u64 (IntKind.u64.wrap ((IntKind.u64.wrap (rd l0 (l1.length : Int))) * 4294967296)) (IntKind.u64.wrap (rd l0 (ji5)))) (IntKind.u64.wrap (rd l1 (ji5)))), (by first | rfl | (simp; done) | (simp only [← hji5] <;> (first | rfl | simp)) | (simp [*]; done)), (by first | rfl | (simp; done) | (simp only [← hji5] <;> (first | rfl | simp)) | (simp [*]; done)), H', ⟨Nat.le_refl _⟩, by repeat (first | exact Drawn0.refl _ | apply Drawn0.step)⟩
       case round =>
        clear H'
        try clear c1
        try clear p1
        try clear q1
        try clear hx1
        try clear p2
        try clear c3
        try clear c3b0
        try clear c3b1
        try clear c4
        try clear c4b0
        try clear c4b1
        try clear c6
        try clear c6b0
        try clear p6
        try clear c7
        try clear c7b0
        try clear c8
        try clear c8b0
        try clear c9
        try clear c9b0
        try clear c9b1
        try clear hx109_0
        try clear hx110_0
        try clear hx111_0
        try clear hx112_0
        try clear p109
        try clear p110
        try clear p111
        try clear p112
        try clear q109
        try clear q110
        try clear q111
        try clear q112
        obtain ⟨x7_1, x8_1, rfl, rfl, HA, HK1, ⟨m1, rfl⟩⟩ := hrel
        cases gk with
        | zero => exact absurd HA.out (by simp [quo_guess.l0])
        | succ k1 =>
         have H := HA.out
         clear HA
         simp only [quo_guess.l0] at H
         have HC10 := Aside0.mk H
         clear H
         go_upto_region 4 with (fail)
         repeat (go_quiet (fail); go_upto_region 4 with (fail))
         go_cut [62] (fun v62 wc => ∃ (kq : Nat) (x62_9 : Bool), v62 = .bool x62_9 ∧ Aside0 (quo_guess.j1 kq l0 l1 (l1.length : Int) x7_1 x8_1 x62_9 = some r) ∧ Aside0 (kq ≤ k1) ∧ Drawn0 w wc)
         case first =>
          have H := HC10.out
          clear HC10
          by_cases c11 : (x7_1 / 4294967296) > 0
          ·rw [if_pos c11] at H
           have c11b0 : decide (0 < (x7_1 / 4294967296)) = true := decide_eq_true c11
           clear c11
           (first | rw [c11b0] | (simp only [i64_w, i32_w]; rw [c11b0]) | skip)
           have H' := Aside0.mk H
           clear H
           go_wp2
           try (go_step3; go_wp2)
           try (go_step3; go_wp2)
           repeat (go_quiet (fail); try go_wp2)
           try (go_step3; go_wp2)
           try (go_step3; go_wp2)
           go_meet
           case rel => exact ⟨_, (true), (by first | rfl | (simp; done) | (simp [*]; done)), H', ⟨by have := HK1.out; first | omega | exact Nat.le_refl _⟩, by repeat (first | exact Drawn0.refl _ | apply Drawn0.step)⟩
          ·rw [if_neg c11] at H
           have c11b0 : decide (0 < (x7_1 / 4294967296)) = false := decide_eq_false c11
           clear c11
           (first | rw [c11b0] | (simp only [i64_w, i32_w]; rw [c11b0]) | skip)
           obtain ⟨ji12, hji12⟩ : ∃ j_ : Int, (wrap64 ((l1.length : Int) - 2)) = j_ := ⟨_, rfl⟩
           replace H : (if 0 ≤ (ji12) then (if (ji12) < (l1.length : Int) then (if (ji12) < (l0.length : Int) then (quo_guess.j1 k1 l0 l1 (l1.length : Int) x7_1 x8_1 (decide ((IntKind.u64.wrap (x7_1 * (IntKind.u64.wrap (rd l1 (ji12))))) > (Go.bits .or .u64 (IntKind.u64.wrap (x8_1 * 4294967296)) (IntKind.u64.wrap (rd l0 (ji12))))))) else (none)) else (none)) else (none)) = some r := by first | (rw [hji12] at H; exact H) | (simp only [hji12] at H ⊢; exact H)
           have hji12w : (IntKind.i64.wrap ((l1.length : Int) - 2)) = ji12 := (i64_w _).trans hji12
           by_cases c13 : 0 ≤ (ji12)
           ·rw [if_pos c13] at H
            have c13b0 : decide (0 ≤ (ji12)) = true := decide_eq_true c13
            clear c13
            by_cases c14 : (ji12) < (l1.length : Int)
            ·rw [if_pos c14] at H
             have c14b0 : decide ((ji12) < (l1.length : Int)) = true := decide_eq_true c14
             clear c14
             by_cases c15 : (ji12) < (l0.length : Int)
             ·rw [if_pos c15] at H
              have c15b0 : decide ((ji12) < (l0.length : Int)) = true := decide_eq_true c15
              clear c15
              have H' := Aside0.mk H
              clear H
              have p113 : 0 ≤ ((ji12) : Int) := of_decide_eq_true (by first | (with_reducible assumption) | assumption)
              have q113 : (ji12) < (l1.length : Int) := of_decide_eq_true (by first | (with_reducible assumption) | assumption)
              obtain ⟨ad113, e113, hx113_0⟩ := Kd.at_int HR1.out (ji12) p113 q113
              obtain rfl : ad111 = ad113 := (by injection e113)
              replace p113 := eq_true p113
              replace q113 := eq_true q113
              have p114 : 0 ≤ ((ji12) : Int) := of_decide_eq_true (by first | (with_reducible assumption) | assumption)
              have q114 : (ji12) < (l0.length : Int) := of_decide_eq_true (by first | (with_reducible assumption) | assumption)
              obtain ⟨ad114, e114, hx114_0⟩ := Kd.at_int HR0.out (ji12) p114 q114
              obtain rfl : ad109 = ad114 := (by injection e114)
              replace p114 := eq_true p114
              replace q114 := eq_true q114
              go_wp2
              try (go_step3; go_wp2)
              try (go_step3; go_wp2)
              repeat (go_quiet (fail); try go_wp2)
              try (go_step3; go_wp2)
              try (go_step3; go_wp2)
              go_meet
              case rel => exact ⟨_, (decide ((IntKind.u64.wrap (x7_1 * (IntKind.u64.wrap (rd l1 (ji12))))) > (Go.bits .or .u64 (IntKind.u64.wrap (x8_1 * 4294967296)) (IntKind.u64.wrap (rd l0 (ji12)))))), (by first | rfl | (simp; done) | (simp only [← hji12] <;> (first | rfl | simp)) | (simp [*]; done)), H', ⟨by have := HK1.out; first | omega | exact Nat.le_refl _⟩, by repeat (first | exact Drawn0.refl _ | apply Drawn0.step)⟩
             ·rw [if_neg c15] at H
              exact absurd H (by simp)
            ·rw [if_neg c14] at H
             exact absurd H (by simp)
           ·rw [if_neg c13] at H
            exact absurd H (by simp)
         case rest =>
          clear HC10
          try clear c1
          try clear p1
          try clear q1
          try clear hx1
          try clear p2
          try clear c3
          try clear c3b0
          try clear c3b1
          try clear c4
          try clear c4b0
          try clear c4b1
          try clear c6
          try clear c6b0
          try clear p6
          try clear c7
          try clear c7b0
          try clear c8
          try clear c8b0
          try clear c9
          try clear c9b0
          try clear c9b1
          try clear p10
          try clear q10
          try clear hx10
          try clear c11
          try clear c11b0
          try clear p11
          try clear q11
          try clear hx11
          try clear c13
          try clear c13b0
          try clear c14
          try clear c14b0
          try clear c15
          try clear c15b0
          try clear hx109_0
          try clear hx110_0
          try clear hx111_0
          try clear hx112_0
          try clear hx113_0
          try clear hx114_0
          try clear p1
          try clear p109
          try clear p110
          try clear p111
          try clear p112
          try clear p113
          try clear p114
          try clear p2
          try clear p6
          try clear q1
          try clear q109
          try clear q110
          try clear q111
          try clear q112
          try clear q113
          try clear q114
          obtain ⟨kq, x62_9, rfl, HA, HJ9, ⟨mc9, rfl⟩⟩ := hcut
          cases kq with
          | zero => exact absurd HA.out (by simp [quo_guess.j1])
          | succ kj9 =>
           have H := HA.out
           clear HA
           simp only [quo_guess.j1] at H
           by_cases c16 : x62_9 = true
           ·subst c16
            have H1 : (if 0 ≤ (wrap64 ((l1.length : Int) - 1)) then (if (wrap64 ((l1.length : Int) - 1)) < (l1.length : Int) then (if ((IntKind.u64.wrap (x8_1 + (IntKind.u64.wrap (rd l1 (wrap64 ((l1.length : Int) - 1)))))) / 4294967296) > 0 then (some (IntKind.u64.wrap (x7_1 - 1))) else (quo_guess.l0 kj9 l0 l1 (l1.length : Int) (IntKind.u64.wrap (x7_1 - 1)) (IntKind.u64.wrap (x8_1 + (IntKind.u64.wrap (rd l1 (wrap64 ((l1.length : Int) - 1)))))))) else (none)) else (none)) = some r := by rw [if_pos rfl] at H; exact H
            clear H
            have H := H1
            clear H1
            obtain ⟨ji17, hji17⟩ : ∃ j_ : Int, (wrap64 ((l1.length : Int) - 1)) = j_ := ⟨_, rfl⟩
            replace H : (if 0 ≤ (ji17) then (if (ji17) < (l1.length : Int) then (if ((IntKind.u64.wrap (x8_1 + (IntKind.u64.wrap (rd l1 (ji17))))) / 4294967296) > 0 then (some (IntKind.u64.wrap (x7_1 - 1))) else (quo_guess.l0 kj9 l0 l1 (l1.length : Int) (IntKind.u64.wrap (x7_1 - 1)) (IntKind.u64.wrap (x8_1 + (IntKind.u64.wrap (rd l1 (ji17))))))) else (none)) else (none)) = some r := by first | (rw [hji17] at H; exact H) | (simp only [hji17] at H ⊢; exact H)
            have hji17w : (IntKind.i64.wrap ((l1.length : Int) - 1)) = ji17 := (i64_w _).trans hji17
            try clear hji5w
            by_cases c18 : 0 ≤ (ji17)
            ·rw [if_pos c18] at H
             have c18b0 : decide (0 ≤ (ji17)) = true := decide_eq_true c18
             clear c18
             by_cases c19 : (ji17) < (l1.length : Int)
             ·rw [if_pos c19] at H
              have c19b0 : decide ((ji17) < (l1.length : Int)) = true := decide_eq_true c19
              clear c19
              by_cases c20 : ((IntKind.u64.wrap (x8_1 + (IntKind.u64.wrap (rd l1 (ji17))))) / 4294967296) > 0
              ·rw [if_pos c20] at H
               have c20b0 : decide (0 < ((IntKind.u64.wrap (x8_1 + (IntKind.u64.wrap (rd l1 (ji17))))) / 4294967296)) = true := decide_eq_true c20
               clear c20
               obtain rfl := Option.some.inj H
               have p115 : 0 ≤ ((ji17) : Int) := of_decide_eq_true (by first | (with_reducible assumption) | assumption)
               have q115 : (ji17) < (l1.length : Int) := of_decide_eq_true (by first | (with_reducible assumption) | assumption)
               obtain ⟨ad115, e115, hx115_0⟩ := Kd.at_int HR1.out (ji17) p115 q115
               obtain rfl : ad111 = ad115 := (by injection e115)
               replace p115 := eq_true p115
               replace q115 := eq_true q115
               go_wp2
               try (go_step3; go_wp2)
               try (go_step3; go_wp2)
               repeat (go_quiet (fail); try go_wp2)
               try (go_step3; go_wp2)
               try (go_step3; go_wp2)
               try rw [Exit.noGoto_ret]
               go_ret
               exact ⟨by first | rfl | (simp; done) | (simp only [← hji5, ← hji17] <;> (first | rfl | simp)) | (simp [*]; done), by repeat (first | exact Drawn0.refl _ | apply Drawn0.step)⟩
              ·rw [if_neg c20] at H
               have c20b0 : decide (0 < ((IntKind.u64.wrap (x8_1 + (IntKind.u64.wrap (rd l1 (ji17))))) / 4294967296)) = false := decide_eq_false c20
               clear c20
               have H' := Aside0.mk H
               clear H
               have p115 : 0 ≤ ((ji17) : Int) := of_decide_eq_true (by first | (with_reducible assumption) | assumption)
               have q115 : (ji17) < (l1.length : Int) := of_decide_eq_true (by first | (with_reducible assumption) | assumption)
               obtain ⟨ad115, e115, hx115_0⟩ := Kd.at_int HR1.out (ji17) p115 q115
               obtain rfl : ad111 = ad115 := (by injection e115)
               replace p115 := eq_true p115
               replace q115 := eq_true q115
               go_wp2
               try (go_step3; go_wp2)
               try (go_step3; go_wp2)
               repeat (go_quiet (fail); try go_wp2)
               try (go_step3; go_wp2)
               try (go_step3; go_wp2)
               go_roundg kj9
               case measure => have := HK1.out; have := HJ9.out; omega
               case rel => exact ⟨(IntKind.u64.wrap (x7_1 - 1)), (IntKind.u64.wrap (x8_1 + (IntKind.u64.wrap (rd l1 (ji17))))), (by first | rfl | (simp; done) | (simp [*]; done)), (by first | rfl | (simp; done) | (simp only [← hji17] <;> (first | rfl | simp)) | (simp [*]; done)), H', ⟨by have := HK1.out; have := HJ9.out; omega⟩, by repeat (first | exact Drawn0.refl _ | apply Drawn0.step)⟩
             ·rw [if_neg c19] at H
              exact absurd H (by simp)
            ·rw [if_neg c18] at H
             exact absurd H (by simp)
           ·replace c16 := Bool.eq_false_iff.mpr c16
            subst c16
            have H1 : (some x7_1) = some r := by rw [if_neg (show ¬ (false = true) by decide)] at H; exact H
            clear H
            have H := H1
            clear H1
            obtain rfl := Option.some.inj H
            go_wp2
            try (go_step3; go_wp2)
            try (go_step3; go_wp2)
            repeat (go_quiet (fail); try go_wp2)
            try (go_step3; go_wp2)
            try (go_step3; go_wp2)
            try rw [Exit.noGoto_ret]
            go_ret
            exact ⟨by first | rfl | (simp; done) | (simp only [← hji5] <;> (first | rfl | simp)) | (simp [*]; done), by repeat (first | exact Drawn0.refl _ | apply Drawn0.step)⟩
     ·rw [if_neg c8] at H
      exact absurd H (by simp)
    ·rw [if_neg c7] at H
     exact absurd H (by simp)
   ·rw [if_neg c6] at H
    exact absurd H (by simp)
  ·rw [if_neg c4] at H
   exact absurd H (by simp)
 ·rw [if_neg c3] at H
  exact absurd H (by simp)
end Go.Proofs.YthppjdmkinbccaaGreatDoor.Print

namespace Go.Proofs.YthppjdmkinbccaaGreatDoor.Print
open Go.RowKit Go.Proofs.YthppjdmkinbccaaGreatDoorW.PrintWords Go.Proofs.YthppjdmkinbccaaGreatDoorW.PrintLast Go.Proofs.YthppjdmkinbccaaGreatDoorW.PrintMore Go.Proofs.YthppjdmkinbccaaGreatDoor.Base
set_option linter.unusedVariables false
set_option linter.unusedSimpArgs false
theorem boxed_far {W : World} {B : Nat} {t : TypeId} {v : Value} (h : Boxed W B t v) {p : Addr} (hp : B ≠ p.block) (u : Value) : Boxed (W.setCell p u) B t v := blk_far h hp u
theorem infoU32 : (Tryz.prog.info? 56).map (fun i => (i.zero, i.size, i.bytes)) = some (some (.int .u32 0), 1, 4) := by kernel_rfl
set_option maxRecDepth 100000 in
set_option maxHeartbeats 4000000 in
theorem put_calls (n0 Bo Bc : Nat) (x c : Nat) (hx : x < 18446744073709551616) (v : Value) (xs : List Int) (W : World) (hv : Boxed W Bo 23 v) (hrow : W.ownsRow n0 56 1 v xs.length (xs.map (Value.int .u32)))
    (hc : Boxed W Bc 59 (.int .u64 (c : Int))) (hBo : n0 ≤ Bo) (hBc : n0 ≤ Bc) (hn0 : n0 ≤ W.heap.size) (hne : Bo ≠ Bc) (hl : xs.length ≤ 1073741824) :
    Calls Tryz.prog 85 #[.int .u64 (x : Int), .pointer (some ⟨Bo, 0, none⟩), .pointer (some ⟨Bc, 0, none⟩)] W fun e W' => e = .returned (.tuple #[]) ∧ ∃ v', Boxed W' Bo 23 v' ∧
      W'.ownsRow n0 56 1 v' (xs ++ [((x % 4294967296 : Nat) : Int)]).length ((xs ++ [((x % 4294967296 : Nat) : Int)]).map (Value.int .u32)) ∧ Boxed W' Bc 59 (.int .u64 ((x / 4294967296 : Nat) : Int)) ∧ Below n0 W W' := by
  obtain ⟨i0, hi, hz0, hz1, hz2⟩ := info_parts infoU32
  have h1 := hv.cell
  have h2 := hv.frozen
  have h3 := hc.cell
  have h4 := hc.frozen
  go_enter Tryz.func85, Tryz.ntmps85
  have ex : IntKind.u32.wrap (x : Int) = ((x % 4294967296 : Nat) : Int) := by rw [IntKind.wrap_u32']; omega
  have hw : (Lit.int .u32 ((x % 4294967296 : Nat) : Int)).wf = true := by
    have := Nat.mod_lt x (show 0 < 4294967296 by decide)
    exact WalkArith.wf_u32 ⟨by omega, by omega⟩
  generalize hy : ((x % 4294967296 : Nat) : Int) = y at ex hw ⊢
  go_wp2_with (at_builtin; refine wpList_append_own _ rfl _ _ 23 rfl n0 56 i0 (.int .u32 0) 1 4 Tryz.underlying23 hi hz0 hz1 hz2 rfl (by decide) _ _ _ rfl (hrow.alloc _) ⟨W.heap.size, 0, none⟩ 1 1 [.int .u32 y] rfl rfl (cell_one_new _ _ _) (by simp [Value.oneCell']) (by unfold maxLen; omega) (by omega) (by simp; omega) ?_; intro v' w1 hown' hgrow _; obtain ⟨g', cap', rfl⟩ := ownsRow_succ hown'; obtain ⟨hv1, hv2, hr2, hk2, hb2⟩ := hv.appended (by decide) hrow hn0 hBo hown' hgrow; have hc1 := hv1.cell; have hf1 := hv1.frozen; have hcb := boxed_far (p := ⟨Bo, 0, none⟩) ((hc.alloc _).kept hgrow (hc.not_row (by decide) hrow)) (show Bc ≠ Bo from hne.symm) (.slice (some ⟨g', 0, none⟩) (xs.length + 1) cap'); have hc2 := hcb.cell; have hf2 := hcb.frozen)
  go_end0
  refine ⟨rfl, _, boxed_far hv2 hne _, ?_, ?_, hb2.setCell (p := ⟨Bc, 0, none⟩) hBc _⟩
  · have h := hr2.kept (grownBy_setCell' _ Bc (.int .u64 ((x / 4294967296 : Nat) : Int))) (.inr (hcb.not_row (by decide) hr2).symm)
    simpa using h
  · exact hcb.set _
def KeptFrom (base : Nat) (W W' : World) : Prop := W.heap.size ≤ W'.heap.size ∧ ∀ k, base ≤ k → k < W.heap.size → W'.heap[k]? = W.heap[k]?
theorem KeptFrom.boxed {base : Nat} {W W' : World} (h : KeptFrom base W W') {B : Nat} {t : TypeId} {v : Value} (hb : base ≤ B) (hB : Boxed W B t v) : Boxed W' B t v := (h.2 B hb hB.lt).trans hB
theorem KeptFrom.own {base : Nat} {W W' : World} (h : KeptFrom base W W') {n0 n size : Nat} {e : TypeId} {v : Value} {xs : List Value} (hb : base ≤ n0) (hr : W.ownsRow n0 e size v n xs) : W'.ownsRow n0 e size v n xs :=
  own_move hr fun k hk => h.2 k (Nat.le_trans hb (own_base hr k hk)) (own_lt hr k hk)
structure AtOk (g : Nat) (lb : Array Value) (n base : Nat) (f : Nat → Nat) (J : Nat → World → Prop) : Prop where
  eg : ∀ args w, (callFunc g args).run Tryz.prog w = .ok (.enter g args) w
  call : ∀ i W, i < n → J i W → base ≤ W.heap.size → Calls Tryz.prog g (#[.int .i64 (i : Int)] ++ lb) W fun e W' => e = .returned (.int .u64 ((f i : Nat) : Int)) ∧ J (i + 1) W' ∧ KeptFrom base W W'
  keep : ∀ i W W', J i W → Below base W W' → J i W'
  small : ∀ i, f i ≤ 4 * (4294967296 - 1)
theorem putB_step (f : Nat → Nat) (i : Nat) : (putB 4294967296 f (i + 1)).1 = (putB 4294967296 f i).1 ++ [(((f i + (putB 4294967296 f i).2) % 4294967296 : Nat) : Int)] ∧ (putB 4294967296 f (i + 1)).2 = (f i + (putB 4294967296 f i).2) / 4294967296 := ⟨rfl, rfl⟩
set_option maxRecDepth 100000 in
set_option maxHeartbeats 16000000 in
theorem gather_calls (g : Nat) (lb : Array Value) (n : Nat) (f : Nat → Nat) (J : Nat → World → Prop) (w : World) (hat : AtOk g lb n w.heap.size f J) (hJ : J 0 w) (hn : n ≤ 4194304) :
    Calls Tryz.prog 58 #[.int .i64 (n : Int), .func (.func g) #[] lb] w fun e W' => ∃ v, e = .returned v ∧ Kd.R (Kd.int .u32) 56 W' w.heap.size (fun _ => True) v (digB 4294967296 (sumB 4294967296 f n)) ∧ J n W' := by
  have eg := hat.eg
  have HAT := Aside0.mk hat
  have HJ := Aside0.mk hJ
  have HN := Aside0.mk hn
  clear hat hJ hn
  go_enter Tryz.func58, Tryz.ntmps58
  go_wp2
  go_loopw [11] (fun v11 wr => ∃ i : Nat, i ≤ n ∧ v11 = .int .i64 (i : Int) ∧ Aside0 (J i wr) ∧ Aside0 (w.heap.size + 1 < wr.heap.size) ∧ Aside0 (∃ v, Boxed wr w.heap.size 23 v ∧ wr.ownsRow w.heap.size 56 1 v (putB 4294967296 f i).1.length ((putB 4294967296 f i).1.map (Value.int .u32))) ∧ Aside0 (Boxed wr (w.heap.size + 1) 59 (.int .u64 ((putB 4294967296 f i).2 : Int)))) (fun v11 _ => n - (intOf v11).toNat)
  case atStart =>
    have bO := Boxed.new w 23 (.slice none 0 0)
    have bC := Boxed.new (w.alloc (.cells #[.slice none 0 0] 23)) 59 (.int .u64 0)
    rw [World.size_alloc] at bC
    refine ⟨0, Nat.zero_le _, rfl, ⟨?_⟩, ⟨?_⟩, ⟨_, ?_, World.ownsRow_nil _ _ _ _⟩, ⟨?_⟩⟩
    · exact HAT.out.keep _ _ _ HJ.out (by repeat (first | exact Below.refl _ _ | apply bA9))
    · simp
    · exact bO.alloc _
    · exact bC
  case round =>
    obtain ⟨i, hi, rfl, HJi, HS, HV, HC⟩ := hrel
    by_cases hlt : i < n
    · have hd : decide ((i : Int) < (n : Int)) = true := decide_eq_true (by omega)
      have hcc := HC.out.cell
      obtain ⟨v, hv, hrow⟩ := HV.out
      have hcall := fun W hJ hs => HAT.out.call i W hlt hJ hs
      obtain ⟨c, hc⟩ : ∃ c, (putB 4294967296 f i).2 = c := ⟨_, rfl⟩
      obtain ⟨xs, hxs⟩ : ∃ xs, (putB 4294967296 f i).1 = xs := ⟨_, rfl⟩
      obtain ⟨x, hx⟩ : ∃ x, f i + c = x := ⟨_, rfl⟩
      have hc4 : c ≤ 4 := by rw [← hc]; exact putB_carry (by decide) HAT.out.small i
      have hfi := HAT.out.small i
      have hw : IntKind.u64.wrap ((f i : Int) + (c : Int)) = (x : Int) := by rw [IntKind.wrap_u64]; omega
      have hxl : xs.length ≤ 1073741824 := by rw [← hxs, putB_len]; have := HN.out; omega
      have hBC := HC.out
      rw [hc] at hBC hcc
      rw [hxs] at hrow
      have BV := Aside0.mk hv
      have BC := Aside0.mk hBC
      have ROW := Aside0.mk hrow
      have PUT := Aside0.mk (put_calls w.heap.size w.heap.size (w.heap.size + 1) x c (by omega) v xs)
      clear hv hBC hrow hfi
      go_wp2_with fail
      go_region_with (first | (go_at_fn g; refine (hcall _ ?_ ?_).mono ?_; (exact HAT.out.keep _ _ _ HJi.out (by repeat (first | exact Below.refl _ _ | apply bD9 | apply bN9))); (have := HS.out; simp; omega); rintro e W1 ⟨rfl, hJ1, hk1⟩; have hcW := (hk1.boxed (Nat.le_succ _) BC.out).cell) | (go_at_call 85; refine (PUT.out _ (hk1.boxed (Nat.le_refl _) BV.out) (hk1.own (Nat.le_refl _) ROW.out) (hk1.boxed (Nat.le_succ _) BC.out) (Nat.le_refl _) (Nat.le_succ _) ?_ (by omega) hxl).mono ?_; (have := HS.out; have := hk1.1; simp at *; omega); rintro e W2 ⟨rfl, v2, hv2, hr2, hc2, hb2⟩))
      all_goals
        go_wp2
        go_roundw
        case rel => exact ⟨i + 1, by omega, by (have := HN.out; rw [show wrap64 ((i : Int) + 1) = (i : Int) + 1 from (by unfold wrap64; omega)]; rfl), ⟨HAT.out.keep _ _ _ hJ1 hb2⟩, ⟨by have := HS.out; have := hk1.1; have := hb2.size; simp at *; omega⟩, ⟨v2, hv2, by rw [(putB_step f i).1, hc, hx, hxs]; exact hr2⟩, ⟨by rw [(putB_step f i).2, hc, hx]; exact hc2⟩⟩
        case measure => have := HN.out; rw [show wrap64 ((i : Int) + 1) = (i : Int) + 1 from (by unfold wrap64; omega)]; simp [intOf]; omega
    · obtain rfl : i = n := by omega
      have hd : decide ((i : Int) < (i : Int)) = false := decide_eq_false (by omega)
      obtain ⟨c, hc⟩ : ∃ c, (putB 4294967296 f i).2 = c := ⟨_, rfl⟩
      obtain ⟨xs, hxs⟩ : ∃ xs, (putB 4294967296 f i).1 = xs := ⟨_, rfl⟩
      have hc4 : c ≤ 4 := by rw [← hc]; exact putB_carry (by decide) HAT.out.small i
      have HX := Aside0.mk (show xs.length ≤ 4194304 by rw [← hxs, putB_len]; exact HN.out)
      rw [hxs] at HV
      rw [hc] at HC
      go_wp2
      go_loopg [] 2 (fun kq w' => ∃ (t : List Int) (c2 : Nat), Aside0 (DigB 4294967296 t ∧ valB 4294967296 t + 4294967296 ^ t.length * c2 = c ∧ t.length ≤ 1 ∧ c2 ≤ 4 ∧ kq ≠ 0 ∧ (kq ≤ 1 → c2 = 0) ∧ (2 ≤ kq → t = []) ∧ kq ≤ 2) ∧ Aside0 (J i w') ∧ Aside0 (w.heap.size + 1 < w'.heap.size) ∧ Aside0 (∃ v, Boxed w' w.heap.size 23 v ∧ w'.ownsRow w.heap.size 56 1 v (xs ++ t).length ((xs ++ t).map (Value.int .u32))) ∧ Aside0 (Boxed w' (w.heap.size + 1) 59 (.int .u64 (c2 : Int))))
      case atStart => exact ⟨[], c, ⟨DigB.nil _, by simp [valB], by simp, hc4, by decide, fun h => absurd h (by decide), fun _ => rfl, Nat.le_refl _⟩, HJi, HS, ⟨by simpa using HV.out⟩, HC⟩
      case round =>
        obtain ⟨t, c2, HT, HJ2, HS2, HV2, HC2⟩ := hrel
        have hcc := HC2.out.cell
        by_cases h0 : 0 < c2
        · have hd0 : decide (0 < (c2 : Int)) = true := decide_eq_true (by omega)
          obtain ⟨v, hv, hrow⟩ := HV2.out
          have PUT := Aside0.mk (put_calls w.heap.size w.heap.size (w.heap.size + 1) c2 c2 (by have := HT.out.2.2.2.1; omega) v (xs ++ t) wr hv hrow HC2.out (Nat.le_refl _) (Nat.le_succ _) (by have := HS2.out; omega) (by omega) (by have := HX.out; have := HT.out.2.2.1; simp; omega))
          clear hv hrow
          cases gk with
          | zero => exact absurd rfl HT.out.2.2.2.2.1
          | succ k1 =>
            have hk : 1 ≤ k1 := by
              rcases Nat.lt_or_ge k1 1 with h | h
              · have := HT.out.2.2.2.2.2.1 (by omega); omega
              · exact h
            obtain rfl := HT.out.2.2.2.2.2.2.1 (by omega)
            obtain rfl : c2 = c := by have := HT.out.2.1; simpa [valB] using this
            have e1 : c2 % 4294967296 = c2 := Nat.mod_eq_of_lt (by omega)
            have e2 : c2 / 4294967296 = 0 := Nat.div_eq_of_lt (by omega)
            have E1 := Aside0.mk e1
            have E2 := Aside0.mk e2
            clear e1 e2
            go_wp2_with (go_at_call 85; refine PUT.out.mono ?_; rintro e W2 ⟨rfl, v2, hv2, hr2, hc2, hb2⟩; have R2 := Aside0.mk hr2; have V2 := Aside0.mk hv2; have C2 := Aside0.mk hc2; have B2 := Aside0.mk hb2; clear hr2 hv2 hc2 hb2)
            go_roundg k1
            case measure => omega
            case rel =>
              refine ⟨[(c2 : Int)], 0, ⟨DigB.cons (by omega) (by omega) (DigB.nil _), by simp [valB], by simp, by omega, by omega, fun _ => rfl, fun h => ?_, ?_⟩, ⟨HAT.out.keep _ _ _ HJ2.out B2.out⟩, ⟨Nat.lt_of_lt_of_le HS2.out B2.out.size⟩, ⟨v2, V2.out, ?_⟩, ⟨?_⟩⟩
              · have := HT.out.2.2.2.2.2.2.2; omega
              · have := HT.out.2.2.2.2.2.2.2; omega
              · have h := R2.out
                rw [E1.out] at h
                simpa using h
              · have h := C2.out
                rw [E2.out] at h
                exact h
        · obtain rfl : c2 = 0 := by omega
          have hd0 : decide (0 < ((0 : Nat) : Int)) = false := decide_eq_false (by omega)
          obtain ⟨v, hv, hrow⟩ := HV2.out
          have hR : Kd.R (Kd.int .u32) 56 wr w.heap.size (fun _ => True) v (xs ++ t) := Kd.R_of_own hrow (fun _ _ => trivial)
          obtain ⟨A, c0, rfl, hle, hC⟩ := Kd.R_reads hR
          have hvc := hv.cell
          have hvf := hv.frozen
          have hTl : (xs ++ t).length ≤ 4194305 := by have := HX.out; have := HT.out.2.2.1; simp; omega
          have ht2 : (trimL (xs ++ t)).length ≤ (xs ++ t).length := by have h := congrArg List.length (trimL_take (xs ++ t)); rw [List.length_take] at h; omega
          have TL := Aside0.mk hTl
          have RR := Aside0.mk hR
          have TOP := fun W h => top_calls A c0 (xs ++ t) W h hle (by omega)
          have CC := Aside0.mk hC
          clear hrow hv hC hR
          obtain ⟨m, hm⟩ : ∃ m, (trimL (xs ++ t)).length = m := ⟨_, rfl⟩
          obtain ⟨L, hL⟩ : ∃ L, (xs ++ t).length = L := ⟨_, rfl⟩
          rw [hm] at TOP ht2
          rw [hL] at TOP ht2 hvc hle hTl
          have LL := Aside0.mk hL
          have MM := Aside0.mk hm
          have p1 : (0 : Int) ≤ (m : Int) := by omega
          have p2 : (m : Int) ≤ (c0 : Int) := by omega
          have p3 : (m : Int) ≤ (L : Int) := by omega
          rw [hL] at CC
          clear hL hm
          go_wp2
          go_region_held3 (fun w' => w'.cell? ⟨w.heap.size, 0, none⟩ = some (.slice A L c0)) (first | assumption | go_keep) (first | (go_at_call 74; refine (TOP _ ?_).mono ?_; (repeat (first | (with_reducible exact CC.out) | (with_reducible refine Kd.cN9 ?_ _) | (with_reducible refine Kd.cD9 ?_))); rintro e w' ⟨rfl, ⟨q, rfl⟩⟩))
          all_goals
            go_wp2
            go_ret
            have hb : ∀ q, Below w.heap.size wr (wr.drewN q) := fun q => bN9 (Below.refl _ _) q
            refine ⟨_, rfl, ?_, HAT.out.keep _ _ _ HJ2.out (by repeat (first | exact Below.refl _ _ | apply bD9 | apply bN9))⟩
            have hv : valB 4294967296 t = (putB 4294967296 f i).2 := by have := HT.out.2.1; rw [hc]; simpa using this
            have hg := gathered (B := 4294967296) (by decide) (f := f) (n := i) HT.out.1 hv
            rw [hxs] at hg
            rw [← hg, trimL_take, MM.out]
            have hR := RR.out
            rw [LL.out] at hR
            repeat (first | (with_reducible refine Kd.rN9 ?_ _) | (with_reducible refine Kd.rD9 ?_))
            exact Kd.R_take hR (by rw [LL.out]; omega)
end Go.Proofs.YthppjdmkinbccaaGreatDoor.Print
