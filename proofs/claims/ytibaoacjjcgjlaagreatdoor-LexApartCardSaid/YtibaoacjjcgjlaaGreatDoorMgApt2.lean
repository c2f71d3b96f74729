/- Written by wip/tools/claimtexts.py: these texts, one behind another, without what this claim does not use: K0, A10, PuBase, PuSum, HTop, HTrim, B1, HGather, HNat, B2, PuKnuth, PuDiv, PuDiv2, HShift. -/
import Derived.Test.YtibaoacjjcgjlaaGreatDoorProg
import Derived.Below
import Derived.Deep.Draws
import Derived.Deep.AppendLies
import Derived.Maps.AppendAt
import Derived.OwnWalk
import Derived.Laws.BytesArg
import Derived.Laws.MakeOwn
import Derived.Laws.OwnMore
import Derived.Deep.OwnRows
import Derived.Tactics
import Derived.Lib.ConvBytes
import Derived.Laws.Slices
import Derived.WalkKit
import Derived.KernelRfl
import Derived.RowKit3
import Derived.Deep.LoopGhost
import Derived.Deep.QuietTactic
import Derived.BigQuiet
import Derived.WideLaws
import Derived.Deep.DeepCutAuto
import Derived.Deep.CutBlock
import Derived.Deep.RegionHeld3
import Derived.Laws.Rows
import Derived.Lib.AppendStr
import Derived.ArgAppend
import Derived.Laws.IdiomCopy
import Derived.OrdersHeld
import Derived.Laws.BitsLemmas
import Derived.RowKit
import Derived.Test.YtibaoacjjcgjlaaGreatDoorMgApt1
import Derived.Lib.ItoaNum
import Derived.Lib.ItoaMem
import Derived.WalkSpells
import Derived.Lib.SliceRun
import Derived.RangeFuncNested
import Derived.RangeFuncBound
import Derived.RangeFuncCalls
import Derived.RangeFuncLeaves
import Derived.RangeFuncBox
import Derived.Shelf.Abstract
import Derived.OwnWalkIn
import Derived.TacticsInMore
import Derived.LoopNIn
import Derived.LoopIn
import Derived.Laws.ShiftsVar
namespace Go.Proofs.YtibaoacjjcgjlaaGreatDoor.Print
open Go.RowKit Go.Proofs.YtibaoacjjcgjlaaGreatDoorW.PrintWords Go.Proofs.YtibaoacjjcgjlaaGreatDoorW.PrintLast Go.Proofs.YtibaoacjjcgjlaaGreatDoorW.PrintMore
attribute [local go_sem] max2_int min2_int max_two min_two max_three min_three max_four min_four   -- for this text's walks alone
set_option linter.unusedVariables false
set_option linter.unusedSimpArgs false
def errW : Option Int → Value
  | none => .nilIface
  | some c => .iface 0 (.int .i64 c)
theorem eN9 : errW none = .nilIface := rfl
theorem eS9 (c : Int) : errW (some c) = .iface 0 (.int .i64 c) := rfl
theorem info9 : (Tryz.prog.info? 9).map (fun i => (i.zero, i.size, i.bytes)) = some (some (.string ⟨#[]⟩), 1, 16) := by kernel_rfl
theorem info88 : (Tryz.prog.info? 88).map (fun i => (i.zero, i.size, i.bytes)) = some (some (.int .u32 0), 1, 4) := by kernel_rfl
structure S7 where
  f0 : Int
  f1 : Int
  f2 : Bool
  f3 : Int
structure S8 where
  f0 : Int
  f1 : Int
  f2 : Bool
  f3 : Int
structure S13 where
  f0 : ByteArray
  f1 : Int
structure S14 where
  f0 : ByteArray
  f1 : Int
structure S30 where
  f0 : Bool
  f1 : (List Int)
  f2 : (List Int)
structure S31 where
  f0 : Bool
  f1 : (List Int)
  f2 : (List Int)
structure S36 where
  f0 : Bool
  f1 : (List Int)
  f2 : (List Int)
structure S37 where
  f0 : Bool
  f1 : (List Int)
  f2 : (List Int)
structure S179 where
  f0 : ByteArray
structure S180 where
  f0 : ByteArray
structure S183 where
  f0 : Int
  f1 : Int
structure S184 where
  f0 : Int
  f1 : Int
end Go.Proofs.YtibaoacjjcgjlaaGreatDoor.Print

namespace Go.Proofs.YtibaoacjjcgjlaaGreatDoor.Print
open Go.RowKit Go.Proofs.YtibaoacjjcgjlaaGreatDoorW.PrintWords Go.Proofs.YtibaoacjjcgjlaaGreatDoorW.PrintLast Go.Proofs.YtibaoacjjcgjlaaGreatDoorW.PrintMore
attribute [local go_sem] max2_int min2_int max_two min_two max_three min_three max_four min_four   -- for this text's walks alone
set_option linter.unusedVariables false
set_option linter.unusedSimpArgs false
def nat_top.l0 : Nat → List Int → Int → Option (Int)
 | 0, _, _ => none
 | k + 1, x0, x3 => if x3 > 0 then (if 0 ≤ (wrap64 (x3 - 1)) then (if (wrap64 (x3 - 1)) < (x0.length : Int) then (if (rd x0 (wrap64 (x3 - 1))) = 0 then (nat_top.l0 k x0 (wrap64 (x3 - 1))) else (some x3)) else (none)) else (none)) else (some x3)
def nat_top.f (k : Nat) (l0 : List Int) : Option (Int) := nat_top.l0 k l0 (l0.length : Int)
set_option maxHeartbeats 8000000 in
set_option maxRecDepth 100000 in
theorem nat_top.calls (k : Nat) (A0 : Option Addr) (c0 : Nat) (l0 : List Int) (r : Int) (w : World) (hr0 : Kd.C (Kd.int .u32) w A0 l0.length l0) (hc0 : l0.length ≤ c0) (h : nat_top.f k l0 = some r) :
  Calls Tryz.prog 93 #[.slice A0 l0.length c0] w fun e w' => e = .returned (.int .i64 r) ∧ Drawn0 w w' := by
 have HR0 := Aside0.mk hr0
 have HC0 := Aside0.mk hc0
 clear hr0 hc0
 have H : (nat_top.l0 k l0 (l0.length : Int)) = some r := h
 clear h
 have H' := Aside0.mk H
 clear H
 go_enter Tryz.func93, Tryz.ntmps93
 go_wp2
 go_loopg [3] k (fun kq v3 w' => ∃ (x3_1 : Int), v3 = .int .i64 x3_1 ∧ Aside0 (nat_top.l0 kq l0 x3_1 = some r) ∧ Aside0 (kq ≤ k) ∧ Drawn0 w w')
 case atStart => exact ⟨((l0.length : Int)), (by first | rfl | (simp; done) | (simp [*]; done)), H', ⟨Nat.le_refl _⟩, by repeat (first | exact Drawn0.refl _ | apply Drawn0.step)⟩
 case round =>
  clear H'
  obtain ⟨x3_1, rfl, HA, HK1, ⟨m1, rfl⟩⟩ := hrel
  cases gk with
  | zero => exact absurd HA.out (by simp [nat_top.l0])
  | succ k1 =>
   have H := HA.out
   clear HA
   simp only [nat_top.l0] at H
   by_cases c2 : x3_1 > 0
   ·rw [if_pos c2] at H
    have c2b0 : decide (0 < x3_1) = true := decide_eq_true c2
    clear c2
    obtain ⟨ji3, hji3⟩ : ∃ j_ : Int, (wrap64 (x3_1 - 1)) = j_ := ⟨_, rfl⟩
    replace H : (if 0 ≤ (ji3) then (if (ji3) < (l0.length : Int) then (if (rd l0 (ji3)) = 0 then (nat_top.l0 k1 l0 ji3) else (some x3_1)) else (none)) else (none)) = some r := by first | (rw [hji3] at H; exact H) | (simp only [hji3] at H ⊢; exact H)
    have hji3w : (IntKind.i64.wrap (x3_1 - 1)) = ji3 := (i64_w _).trans hji3
    by_cases c4 : 0 ≤ (ji3)
    ·rw [if_pos c4] at H
     have c4b0 : decide (0 ≤ (ji3)) = true := decide_eq_true c4
     clear c4
     by_cases c5 : (ji3) < (l0.length : Int)
     ·rw [if_pos c5] at H
      have c5b0 : decide ((ji3) < (l0.length : Int)) = true := decide_eq_true c5
      clear c5
      by_cases c6 : (rd l0 (ji3)) = 0
      ·rw [if_pos c6] at H
       have c6b0 : ((rd l0 (ji3)) == 0) = true := beq_iff_eq.mpr c6
       have c6b1 : ((rd l0 (ji3)) != 0) = false := bne_eq_false_iff_eq.mpr c6
       clear c6
       have H' := Aside0.mk H
       clear H
       have p282 : 0 ≤ ((ji3) : Int) := of_decide_eq_true (by first | (with_reducible assumption) | assumption)
       have q282 : (ji3) < (l0.length : Int) := of_decide_eq_true (by first | (with_reducible assumption) | assumption)
       obtain ⟨ad282, e282, hx282_0⟩ := Kd.at_int HR0.out (ji3) p282 q282
       cases e282
       replace p282 := eq_true p282
       replace q282 := eq_true q282
       go_wp2
       go_roundg k1
       case measure => have := HK1.out; omega
       case rel => exact ⟨(ji3), (by first | rfl | (simp; done) | (simp only [← hji3] <;> (first | rfl | simp)) | (simp [*]; done)), H', ⟨by have := HK1.out; omega⟩, by repeat (first | exact Drawn0.refl _ | apply Drawn0.step)⟩
      ·rw [if_neg c6] at H
       have c6b0 : ((rd l0 (ji3)) == 0) = false := beq_eq_false_iff_ne.mpr c6
       have c6b1 : ((rd l0 (ji3)) != 0) = true := bne_iff_ne.mpr c6
       obtain rfl := Option.some.inj H
       have p282 : 0 ≤ ((ji3) : Int) := of_decide_eq_true (by first | (with_reducible assumption) | assumption)
       have q282 : (ji3) < (l0.length : Int) := of_decide_eq_true (by first | (with_reducible assumption) | assumption)
       obtain ⟨ad282, e282, hx282_0⟩ := Kd.at_int HR0.out (ji3) p282 q282
       cases e282
       replace p282 := eq_true p282
       replace q282 := eq_true q282
       go_wp2
       go_ret
       exact ⟨by first | rfl | (simp; done) | (simp only [← hji3] <;> (first | rfl | simp)) | (simp [*]; done), by repeat (first | exact Drawn0.refl _ | apply Drawn0.step)⟩
     ·rw [if_neg c5] at H
      exact absurd H (by simp)
    ·rw [if_neg c4] at H
     exact absurd H (by simp)
   ·rw [if_neg c2] at H
    have c2b0 : decide (0 < x3_1) = false := decide_eq_false c2
    clear c2
    obtain rfl := Option.some.inj H
    go_wp2
    go_ret
    exact ⟨by first | rfl | (simp; done) | (simp [*]; done), by repeat (first | exact Drawn0.refl _ | apply Drawn0.step)⟩
def nat_limb.f (l0 : List Int) (a1 : Int) : Option (Int) := if a1 < 0 then (some 0) else (if a1 ≥ (l0.length : Int) then (some 0) else (if 0 ≤ a1 then (if a1 < (l0.length : Int) then (some (IntKind.u64.wrap (rd l0 a1))) else (none)) else (none)))
set_option maxHeartbeats 8000000 in
set_option maxRecDepth 100000 in
theorem nat_limb.calls (A0 : Option Addr) (c0 : Nat) (l0 : List Int) (a1 : Int) (r : Int) (w : World) (hr0 : Kd.C (Kd.int .u32) w A0 l0.length l0) (hc0 : l0.length ≤ c0) (h : nat_limb.f l0 a1 = some r) :
  Calls Tryz.prog 64 #[.slice A0 l0.length c0, .int .i64 a1] w fun e w' => e = .returned (.int .u64 r) ∧ Drawn0 w w' := by
 have HR0 := Aside0.mk hr0
 have HC0 := Aside0.mk hc0
 clear hr0 hc0
 have H : (if a1 < 0 then (some 0) else (if a1 ≥ (l0.length : Int) then (some 0) else (if 0 ≤ a1 then (if a1 < (l0.length : Int) then (some (IntKind.u64.wrap (rd l0 a1))) else (none)) else (none)))) = some r := h
 clear h
 by_cases c3 : a1 < 0
 ·rw [if_pos c3] at H
  have c3b0 : decide (a1 < 0) = true := decide_eq_true c3
  clear c3
  obtain rfl := Option.some.inj H
  go_enter Tryz.func64, Tryz.ntmps64
  go_wp2
  go_ret
  exact ⟨by first | rfl | (simp; done) | (simp [*]; done), by repeat (first | exact Drawn0.refl _ | apply Drawn0.step)⟩
 ·rw [if_neg c3] at H
  have c3b0 : decide (a1 < 0) = false := decide_eq_false c3
  clear c3
  by_cases c4 : a1 ≥ (l0.length : Int)
  ·rw [if_pos c4] at H
   have c4b0 : decide ((l0.length : Int) ≤ a1) = true := decide_eq_true c4
   clear c4
   obtain rfl := Option.some.inj H
   go_enter Tryz.func64, Tryz.ntmps64
   go_wp2
   go_ret
   exact ⟨by first | rfl | (simp; done) | (simp [*]; done), by repeat (first | exact Drawn0.refl _ | apply Drawn0.step)⟩
  ·rw [if_neg c4] at H
   have c4b0 : decide ((l0.length : Int) ≤ a1) = false := decide_eq_false c4
   clear c4
   by_cases c5 : 0 ≤ a1
   ·rw [if_pos c5] at H
    have c5b0 : decide (0 ≤ a1) = true := decide_eq_true c5
    clear c5
    by_cases c6 : a1 < (l0.length : Int)
    ·rw [if_pos c6] at H
     have c6b0 : decide (a1 < (l0.length : Int)) = true := decide_eq_true c6
     clear c6
     obtain rfl := Option.some.inj H
     have p283 : 0 ≤ (a1 : Int) := of_decide_eq_true (by first | (with_reducible assumption) | assumption)
     have q283 : a1 < (l0.length : Int) := of_decide_eq_true (by first | (with_reducible assumption) | assumption)
     obtain ⟨ad283, e283, hx283_0⟩ := Kd.at_int HR0.out a1 p283 q283
     cases e283
     replace p283 := eq_true p283
     replace q283 := eq_true q283
     go_enter Tryz.func64, Tryz.ntmps64
     go_wp2
     go_ret
     exact ⟨by first | rfl | (simp; done) | (simp [*]; done), by repeat (first | exact Drawn0.refl _ | apply Drawn0.step)⟩
    ·rw [if_neg c6] at H
     exact absurd H (by simp)
   ·rw [if_neg c5] at H
    exact absurd H (by simp)
end Go.Proofs.YtibaoacjjcgjlaaGreatDoor.Print

namespace Go.Proofs.YtibaoacjjcgjlaaGreatDoor.Base
open Go.Lib
set_option linter.unusedVariables false
def valB (B : Nat) : List Int → Nat
  | [] => 0
  | d :: r => d.toNat + B * valB B r
theorem valB_nil (B : Nat) : valB B [] = 0 := rfl
theorem valB_cons (B : Nat) (d : Int) (r : List Int) : valB B (d :: r) = d.toNat + B * valB B r := rfl
def DigB (B : Nat) (l : List Int) : Prop := ∀ d ∈ l, 0 ≤ d ∧ d < (B : Int)
structure GoodB (B : Nat) (l : List Int) : Prop where
  dig : DigB B l
  can : l.getLast? ≠ some 0
theorem DigB.nil (B : Nat) : DigB B [] := fun d h => by cases h
theorem DigB.cons {B : Nat} {d : Int} {r : List Int} (h0 : 0 ≤ d) (h1 : d < (B : Int)) (h : DigB B r) : DigB B (d :: r) := fun x hx => by
  rcases List.mem_cons.1 hx with rfl | hx
  · exact ⟨h0, h1⟩
  · exact h x hx
theorem DigB.tail {B : Nat} {d : Int} {r : List Int} (h : DigB B (d :: r)) : DigB B r := fun x hx => h x (List.mem_cons_of_mem _ hx)
theorem DigB.append {B : Nat} {a b : List Int} (h : DigB B a) (k : DigB B b) : DigB B (a ++ b) := fun x hx => (List.mem_append.1 hx).elim (h x) (k x)
theorem valB_append (B : Nat) : ∀ a b : List Int, valB B (a ++ b) = valB B a + B ^ a.length * valB B b
  | [], b => by simp [valB]
  | d :: r, b => by
    rw [List.cons_append, valB_cons, valB_cons, valB_append B r b, List.length_cons, Nat.pow_succ, Nat.mul_add, Nat.mul_comm (B ^ r.length) B, Nat.mul_assoc]
    omega
theorem valB_lt (B : Nat) : ∀ l : List Int, DigB B l → valB B l < B ^ l.length
  | [], h => by simp [valB]
  | d :: r, h => by
    have ih := valB_lt B r h.tail
    have hd := h d (by simp)
    rw [valB_cons, List.length_cons, Nat.pow_succ, Nat.mul_comm (B ^ r.length) B]
    have h2 : B * (valB B r + 1) ≤ B * B ^ r.length := Nat.mul_le_mul_left B ih
    rw [Nat.mul_add] at h2
    omega
theorem GoodB.nil (B : Nat) : GoodB B [] := ⟨DigB.nil B, by simp⟩
theorem GoodB.tail {B : Nat} {d : Int} {r : List Int} (h : GoodB B (d :: r)) : GoodB B r := by
  refine ⟨h.dig.tail, fun c => h.can ?_⟩
  cases r with
  | nil => cases c
  | cons e s => rw [List.getLast?_cons_cons]; exact c
theorem GoodB.zero {B : Nat} : ∀ {l : List Int}, GoodB B l → valB B l = 0 → l = []
  | [], _, _ => rfl
  | d :: r, h, hv => by
    have hd := h.dig d (by simp)
    rw [valB_cons] at hv
    have h0 : d = 0 := by omega
    have hB : 0 < B := by omega
    have hr : valB B r = 0 := by
      have : B * valB B r = 0 := by omega
      rcases Nat.mul_eq_zero.1 this with h | h
      · omega
      · exact h
    have := h.tail.zero hr
    subst this
    exact absurd (by rw [h0]; rfl) h.can
theorem GoodB.inj {B : Nat} : ∀ {l m : List Int}, GoodB B l → GoodB B m → valB B l = valB B m → l = m
  | [], m, _, hm, e => (hm.zero e.symm).symm
  | d :: r, [], hl, _, e => hl.zero e
  | d :: r, x :: s, hl, hm, e => by
    have hd := hl.dig d (by simp)
    have hx := hm.dig x (by simp)
    rw [valB_cons, valB_cons] at e
    have hB : 0 < B := by omega
    have e1 : d.toNat = x.toNat := by
      have h1 := congrArg (· % B) e
      simp only [Nat.add_mul_mod_self_left] at h1
      rwa [Nat.mod_eq_of_lt (by omega), Nat.mod_eq_of_lt (by omega)] at h1
    have e2 : valB B r = valB B s := Nat.eq_of_mul_eq_mul_left hB (by omega)
    rw [show d = x by omega, hl.tail.inj hm.tail e2]
def trimL : List Int → List Int
  | [] => []
  | d :: r => if trimL r = [] then (if d = 0 then [] else [d]) else d :: trimL r
theorem trimL_cons (d : Int) (r : List Int) : trimL (d :: r) = if trimL r = [] then (if d = 0 then [] else [d]) else d :: trimL r := rfl
theorem trimL_val (B : Nat) : ∀ l : List Int, valB B (trimL l) = valB B l
  | [] => rfl
  | d :: r => by
    have ih := trimL_val B r
    rw [trimL_cons]
    split
    · rename_i h
      rw [h, valB_nil] at ih
      split
      · rename_i h0; rw [valB_cons, ← ih, h0]; rfl
      · rw [valB_cons, valB_cons, ← ih, valB_nil]
    · rw [valB_cons, valB_cons, ih]
theorem trimL_dig {B : Nat} : ∀ {l : List Int}, DigB B l → DigB B (trimL l)
  | [], h => h
  | d :: r, h => by
    have ih := trimL_dig h.tail
    have hd := h d (by simp)
    rw [trimL_cons]
    split
    · split
      · exact DigB.nil B
      · exact DigB.cons hd.1 hd.2 (DigB.nil B)
    · exact DigB.cons hd.1 hd.2 ih
theorem trimL_can : ∀ l : List Int, (trimL l).getLast? ≠ some 0
  | [] => by simp [trimL]
  | d :: r => by
    have ih := trimL_can r
    rw [trimL_cons]
    split
    · split
      · simp
      · rename_i h; simpa using h
    · rename_i h
      cases hr : trimL r with
      | nil => exact absurd hr h
      | cons e s => rw [List.getLast?_cons_cons, ← hr]; exact ih
theorem trimL_good {B : Nat} {l : List Int} (h : DigB B l) : GoodB B (trimL l) := ⟨trimL_dig h, trimL_can l⟩
theorem trimL_take : ∀ l : List Int, trimL l = l.take (trimL l).length
  | [] => rfl
  | d :: r => by
    have ih := trimL_take r
    rw [trimL_cons]
    split
    · split <;> simp
    · rw [List.length_cons, List.take_succ_cons, ← ih]
theorem trimL_of_good {l : List Int} (h : l.getLast? ≠ some 0) : trimL l = l := by
  induction l with
  | nil => rfl
  | cons d r ih =>
    rw [trimL_cons]
    cases r with
    | nil =>
      have : d ≠ 0 := fun e => h (by rw [e]; rfl)
      simp [trimL, this]
    | cons e s =>
      have := ih (by rw [List.getLast?_cons_cons] at h; exact h)
      rw [this]; simp
theorem trimL_snoc_zero (l : List Int) : trimL (l ++ [0]) = trimL l := by
  induction l with
  | nil => rfl
  | cons d r ih => rw [List.cons_append, trimL_cons, trimL_cons, ih]
theorem trimL_snoc (l : List Int) (d : Int) (h : d ≠ 0) : trimL (l ++ [d]) = l ++ [d] := trimL_of_good (by simpa using h)
def digF (B : Nat) : Nat → Nat → List Int
  | 0, _ => []
  | f + 1, v => if v = 0 then [] else ((v % B : Nat) : Int) :: digF B f (v / B)
def digB (B v : Nat) : List Int := digF B (v.log2 + 1) v
theorem digF_val (B : Nat) (hB : 2 ≤ B) : ∀ f v, v < 2 ^ f → valB B (digF B f v) = v ∧ GoodB B (digF B f v)
  | 0, v, h => by
    obtain rfl : v = 0 := by simpa using h
    exact ⟨rfl, GoodB.nil B⟩
  | f + 1, v, h => by
    unfold digF
    by_cases h0 : v = 0
    · rw [if_pos h0, h0]; exact ⟨rfl, GoodB.nil B⟩
    · rw [if_neg h0]
      have hd : v / B < 2 ^ f := by
        refine Nat.div_lt_of_lt_mul (Nat.lt_of_lt_of_le h ?_)
        rw [Nat.pow_succ, Nat.mul_comm]
        exact Nat.mul_le_mul_right _ hB
      obtain ⟨ih1, ih2⟩ := digF_val B hB f (v / B) hd
      have hm : v % B < B := Nat.mod_lt _ (by omega)
      refine ⟨?_, DigB.cons (by omega) (by omega) ih2.dig, fun c => ?_⟩
      · rw [valB_cons, ih1, Int.toNat_natCast]; exact Nat.mod_add_div v B
      · cases hr : digF B f (v / B) with
        | nil =>
          rw [hr] at c ih1
          have h1 : ((v % B : Nat) : Int) = 0 := by simpa using c
          rw [valB_nil] at ih1
          have := Nat.mod_add_div v B
          rw [← ih1] at this
          omega
        | cons e s =>
          rw [hr, List.getLast?_cons_cons, ← hr] at c
          exact ih2.can c
theorem digB_val (B : Nat) (hB : 2 ≤ B) (v : Nat) : valB B (digB B v) = v := (digF_val B hB _ v Nat.lt_log2_self).1
theorem digB_good (B : Nat) (hB : 2 ≤ B) (v : Nat) : GoodB B (digB B v) := (digF_val B hB _ v Nat.lt_log2_self).2
theorem GoodB.eq {B : Nat} (hB : 2 ≤ B) {l : List Int} (h : GoodB B l) : l = digB B (valB B l) := h.inj (digB_good B hB _) (digB_val B hB _).symm
theorem trimL_eq {B : Nat} (hB : 2 ≤ B) {l : List Int} (h : DigB B l) : trimL l = digB B (valB B l) := by
  have := (trimL_good h).eq hB
  rw [trimL_val] at this; exact this
theorem GoodB.len_lt {B : Nat} {l : List Int} (h : GoodB B l) (hl : l ≠ []) : B ^ (l.length - 1) ≤ valB B l := by
  have e : l = l.dropLast ++ [l.getLast hl] := (List.dropLast_concat_getLast hl).symm
  have hg : l.getLast hl ≠ 0 := fun c => h.can (by rw [List.getLast?_eq_some_getLast hl, c])
  have hd := h.dig _ (List.getLast_mem hl)
  have hv : valB B l = valB B l.dropLast + B ^ l.dropLast.length * (l.getLast hl).toNat := by
    conv => lhs; rw [e]
    rw [valB_append, valB_cons, valB_nil, Nat.mul_zero, Nat.add_zero]
  rw [hv, List.length_dropLast]
  have : B ^ (l.length - 1) * 1 ≤ B ^ (l.length - 1) * (l.getLast hl).toNat := Nat.mul_le_mul_left _ (by omega)
  omega
def padD : Nat → Nat → List UInt8
  | 0, _ => []
  | k + 1, r => padD k (r / 10) ++ [UInt8.ofNat (48 + r % 10)]
theorem dec_small {u : Nat} (h : u < 10) : decDigits u = [UInt8.ofNat (48 + u)] := by rw [decDigits, dif_pos h]
theorem dec_big {u : Nat} (h : ¬ u < 10) : decDigits u = decDigits (u / 10) ++ [UInt8.ofNat (48 + u % 10)] := by rw [decDigits, dif_neg h]
theorem dec_ne (u : Nat) : decDigits u ≠ [] := by
  by_cases h : u < 10
  · rw [dec_small h]; simp
  · rw [dec_big h]; simp
theorem dec_grow (q d : Nat) (hq : 0 < q) (hd : d < 10) : decDigits (10 * q + d) = decDigits q ++ [UInt8.ofNat (48 + d)] := by
  rw [dec_big (by omega), show (10 * q + d) / 10 = q by omega, show (10 * q + d) % 10 = d by omega]
theorem dec_pad : ∀ (k q r : Nat), 0 < q → r < 10 ^ k → decDigits (q * 10 ^ k + r) = decDigits q ++ padD k r
  | 0, q, r, hq, hr => by
    obtain rfl : r = 0 := by simpa using hr
    simp [padD]
  | k + 1, q, r, hq, hr => by
    have hp : 10 ^ (k + 1) = 10 ^ k * 10 := Nat.pow_succ 10 k
    have h1 : r / 10 < 10 ^ k := Nat.div_lt_of_lt_mul (by rw [hp] at hr; omega)
    have ih := dec_pad k q (r / 10) hq h1
    have e : q * 10 ^ (k + 1) + r = 10 * (q * 10 ^ k + r / 10) + r % 10 := by
      rw [hp, ← Nat.mul_assoc]; omega
    have hpos : 0 < q * 10 ^ k := Nat.mul_pos hq (Nat.pow_pos (by decide))
    rw [e, dec_grow _ _ (by omega) (Nat.mod_lt _ (by decide)), ih, show padD (k + 1) r = padD k (r / 10) ++ [UInt8.ofNat (48 + r % 10)] from rfl, List.append_assoc]
theorem padD_zero : ∀ k, padD k 0 = List.replicate k 48
  | 0 => rfl
  | k + 1 => by
    unfold padD
    rw [show 0 / 10 = 0 from rfl, padD_zero k, List.replicate_succ']; rfl
theorem padD_dec : ∀ (k p : Nat), p < 10 ^ (k + 1) → (decDigits p).length ≤ k + 1 ∧ padD (k + 1) p = List.replicate (k + 1 - (decDigits p).length) 48 ++ decDigits p
  | 0, p, h => by
    have h10 : p < 10 := by simpa using h
    rw [dec_small h10]
    refine ⟨by simp, ?_⟩
    unfold padD padD
    simp [Nat.mod_eq_of_lt h10]
  | k + 1, p, h => by
    by_cases h10 : p < 10
    · rw [dec_small h10]
      refine ⟨by simp, ?_⟩
      unfold padD
      rw [Nat.div_eq_of_lt h10, padD_zero, Nat.mod_eq_of_lt h10]; rfl
    · have hp : 10 ^ (k + 1 + 1) = 10 ^ (k + 1) * 10 := Nat.pow_succ 10 (k + 1)
      have h1 : p / 10 < 10 ^ (k + 1) := Nat.div_lt_of_lt_mul (by rw [hp] at h; omega)
      obtain ⟨ih1, ih2⟩ := padD_dec k (p / 10) h1
      rw [dec_big h10]
      refine ⟨by simp; omega, ?_⟩
      conv => lhs; unfold padD
      rw [ih2, List.length_append, List.length_singleton, List.append_assoc, show k + 1 + 1 - ((decDigits (p / 10)).length + 1) = k + 1 - (decDigits (p / 10)).length by omega]
def numD (l : List UInt8) : Nat := l.foldl (fun a c => 10 * a + (c.toNat - 48)) 0
theorem numD_snoc (l : List UInt8) (c : UInt8) : numD (l ++ [c]) = 10 * numD l + (c.toNat - 48) := by simp [numD]
def DigL (l : List UInt8) : Prop := ∀ c ∈ l, 48 ≤ c.toNat ∧ c.toNat ≤ 57
theorem ofNat_digit (d : Nat) (h : d < 10) : (UInt8.ofNat (48 + d)).toNat = 48 + d := by
  rw [UInt8.toNat_ofNat']; omega
theorem digit_back (c : UInt8) (h : 48 ≤ c.toNat ∧ c.toNat ≤ 57) : UInt8.ofNat (48 + (c.toNat - 48)) = c := by
  apply UInt8.toNat_inj.1
  rw [ofNat_digit _ (by omega)]; omega
theorem dec_num_all (u : Nat) : numD (decDigits u) = u ∧ DigL (decDigits u) ∧ (1 ≤ u → (decDigits u).head? ≠ some 48) := by
  induction u using Nat.strongRecOn with
  | ind u ih =>
    by_cases h : u < 10
    · rw [dec_small h]
      have e := ofNat_digit u h
      refine ⟨by show 10 * 0 + _ = _; rw [e]; omega, fun c hc => by rw [List.mem_singleton.1 hc, e]; omega, fun h1 c => ?_⟩
      have := congrArg UInt8.toNat (Option.some.inj c)
      rw [e] at this
      have h48 : (48 : UInt8).toNat = 48 := rfl
      omega
    · obtain ⟨i1, i2, i3⟩ := ih (u / 10) (by omega)
      have hm : u % 10 < 10 := Nat.mod_lt _ (by decide)
      have e := ofNat_digit (u % 10) hm
      rw [dec_big h]
      refine ⟨by rw [numD_snoc, i1, e]; omega, fun c hc => ?_, fun h1 => ?_⟩
      · rcases List.mem_append.1 hc with x | x
        · exact i2 c x
        · rw [List.mem_singleton.1 x, e]; omega
      · have hne := dec_ne (u / 10)
        cases hd : decDigits (u / 10) with
        | nil => exact absurd hd hne
        | cons a b =>
          have := i3 (by omega)
          rw [hd] at this
          simpa using this
theorem num_dec (u : Nat) : numD (decDigits u) = u := (dec_num_all u).1
theorem dec_dig (u : Nat) : DigL (decDigits u) := (dec_num_all u).2.1
theorem dec_inj {u v : Nat} (h : decDigits u = decDigits v) : u = v := by rw [← num_dec u, h, num_dec]
def NatL (l : List UInt8) : Prop := l ≠ [] ∧ DigL l ∧ (l.head? = some 48 → l.length = 1)
theorem dec_natL (u : Nat) : NatL (decDigits u) := by
  refine ⟨dec_ne u, dec_dig u, fun h => ?_⟩
  by_cases h1 : 1 ≤ u
  · exact absurd h ((dec_num_all u).2.2 h1)
  · obtain rfl : u = 0 := by omega
    rw [dec_small (by decide)]; rfl
theorem dec_of_num : ∀ (n : Nat) (l : List UInt8), l.length = n → NatL l → decDigits (numD l) = l ∧ (l.head? ≠ some 48 → 1 ≤ numD l)
  | 0, l, hn, h => absurd (List.eq_nil_of_length_eq_zero hn) h.1
  | n + 1, l, hn, h => by
    have e : l = l.dropLast ++ [l.getLast h.1] := (List.dropLast_concat_getLast h.1).symm
    generalize hc : l.getLast h.1 = c at e
    generalize hm : l.dropLast = m at e
    have hcd : 48 ≤ c.toNat ∧ c.toNat ≤ 57 := h.2.1 c (by rw [← hc]; exact List.getLast_mem h.1)
    cases m with
    | nil =>
      rw [List.nil_append] at e
      subst e
      have ev : numD [c] = c.toNat - 48 := by show 10 * 0 + _ = _; omega
      refine ⟨by rw [ev, dec_small (by omega), digit_back c hcd], fun hh => ?_⟩
      rw [ev]
      have : c.toNat ≠ 48 := fun h' => hh (by show some c = some 48; rw [show c = 48 from UInt8.toNat_inj.1 (by rw [h']; rfl)])
      omega
    | cons a b =>
      have hml : (a :: b).length = n := by rw [e] at hn; simp at hn ⊢; omega
      have ha : a ≠ 48 := fun hh => by
        have := h.2.2 (by rw [e, hh]; rfl)
        rw [e] at this; simp at this
      have hN : NatL (a :: b) := ⟨by simp, fun x hx => h.2.1 x (by rw [e]; exact List.mem_append_left _ hx), fun hh => absurd (by simpa using hh) ha⟩
      obtain ⟨i1, i2⟩ := dec_of_num n (a :: b) hml hN
      have hpos := i2 (by simpa using ha)
      rw [e, numD_snoc]
      refine ⟨by rw [dec_grow _ _ (by omega) (by omega), i1, digit_back c hcd], fun _ => by omega⟩
theorem dec_numL {l : List UInt8} (h : NatL l) : decDigits (numD l) = l := (dec_of_num l.length l rfl h).1
end Go.Proofs.YtibaoacjjcgjlaaGreatDoor.Base

namespace Go.Proofs.YtibaoacjjcgjlaaGreatDoor.Base
set_option linter.unusedVariables false
def sumB (B : Nat) (f : Nat → Nat) : Nat → Nat
  | 0 => 0
  | n + 1 => sumB B f n + B ^ n * f n
theorem sumB_congr {B : Nat} {f g : Nat → Nat} : ∀ {n : Nat}, (∀ i, i < n → f i = g i) → sumB B f n = sumB B g n
  | 0, _ => rfl
  | n + 1, h => by rw [sumB, sumB, sumB_congr (n := n) (fun i hi => h i (by omega)), h n (by omega)]
theorem sumB_add {B : Nat} {f g : Nat → Nat} : ∀ n, sumB B (fun i => f i + g i) n = sumB B f n + sumB B g n
  | 0 => rfl
  | n + 1 => by rw [sumB, sumB, sumB, sumB_add n, Nat.mul_add]; omega
theorem sumB_zero {B : Nat} {f : Nat → Nat} : ∀ {n : Nat}, (∀ i, i < n → f i = 0) → sumB B f n = 0
  | 0, _ => rfl
  | n + 1, h => by rw [sumB, sumB_zero (n := n) (fun i hi => h i (by omega)), h n (by omega)]; simp
theorem sumB_succ' {B : Nat} {f : Nat → Nat} : ∀ n, sumB B f (n + 1) = f 0 + B * sumB B (fun i => f (i + 1)) n
  | 0 => by simp [sumB]
  | n + 1 => by
    rw [sumB, sumB_succ' n, sumB, Nat.mul_add, Nat.pow_succ, Nat.mul_comm (B ^ n) B, Nat.mul_assoc]; omega
def limbN (l : List Int) (i : Nat) : Nat := (l.getD i 0).toNat
theorem limbN_nil (i : Nat) : limbN [] i = 0 := by simp [limbN]
theorem limbN_zero (d : Int) (r : List Int) : limbN (d :: r) 0 = d.toNat := rfl
theorem limbN_succ (d : Int) (r : List Int) (i : Nat) : limbN (d :: r) (i + 1) = limbN r i := by simp [limbN]
theorem limbN_out {l : List Int} {i : Nat} (h : l.length ≤ i) : limbN l i = 0 := by simp [limbN, List.getElem?_eq_none h]
theorem limbN_lt {B : Nat} {l : List Int} (hB : 0 < B) (h : DigB B l) (i : Nat) : limbN l i < B := by
  unfold limbN
  rcases Nat.lt_or_ge i l.length with c | c
  · have := h l[i] (List.getElem_mem c)
    simp [List.getElem?_eq_getElem c]; omega
  · simp [List.getElem?_eq_none c]; exact hB
theorem sumB_limb {B : Nat} : ∀ (l : List Int) (n : Nat), l.length ≤ n → sumB B (limbN l) n = valB B l
  | [], n, _ => by rw [valB_nil]; exact sumB_zero (fun i _ => limbN_nil i)
  | d :: r, 0, h => by simp at h
  | d :: r, n + 1, h => by
    rw [sumB_succ', valB_cons, limbN_zero, show (fun i => limbN (d :: r) (i + 1)) = limbN r from funext (limbN_succ d r), sumB_limb r n (by simpa using h)]
theorem sumB_lt {B : Nat} {f : Nat → Nat} (hB : 0 < B) (h : ∀ i, f i < B) : ∀ n, sumB B f n < B ^ n
  | 0 => by simp [sumB]
  | n + 1 => by
    have h1 := sumB_lt hB h n
    have h2 : B ^ n * (f n + 1) ≤ B ^ n * B := Nat.mul_le_mul_left _ (h n)
    rw [sumB, Nat.pow_succ]
    rw [Nat.mul_add, Nat.mul_one] at h2
    omega
theorem sum_lt {B : Nat} {f g : Nat → Nat} (hB : 0 < B) (hf : ∀ i, f i < B) : ∀ n x, x < n → (∀ i, x < i → i < n → f i = g i) → f x < g x → sumB B f n < sumB B g n
  | 0, x, hx, _, _ => by omega
  | n + 1, x, hx, he, hl => by
    rw [sumB, sumB]
    by_cases e : x = n
    · subst e
      have h1 := sumB_lt hB hf x
      have h2 : B ^ x * (f x + 1) ≤ B ^ x * g x := Nat.mul_le_mul_left _ hl
      rw [Nat.mul_add, Nat.mul_one] at h2
      omega
    · have ih := sum_lt hB hf n x (by omega) (fun i h1 h2 => he i h1 (by omega)) hl
      rw [he n (by omega) (by omega)]
      omega
def cmpN (x y : Nat) : Int := if x < y then -1 else if y < x then 1 else 0
def putB (B : Nat) (f : Nat → Nat) : Nat → List Int × Nat
  | 0 => ([], 0)
  | n + 1 => ((putB B f n).1 ++ [(((f n + (putB B f n).2) % B : Nat) : Int)], (f n + (putB B f n).2) / B)
theorem putB_len {B : Nat} {f : Nat → Nat} : ∀ n, (putB B f n).1.length = n
  | 0 => rfl
  | n + 1 => by rw [putB, List.length_append, putB_len n]; rfl
theorem putB_spec {B : Nat} (hB : 0 < B) {f : Nat → Nat} : ∀ n, valB B (putB B f n).1 + B ^ n * (putB B f n).2 = sumB B f n ∧ DigB B (putB B f n).1
  | 0 => by simp [putB, valB, sumB]; exact DigB.nil B
  | n + 1 => by
    obtain ⟨h1, h2⟩ := putB_spec hB (f := f) n
    have hm := Nat.mod_add_div (f n + (putB B f n).2) B
    have hl := Nat.mod_lt (f n + (putB B f n).2) hB
    rw [putB, sumB, ← h1]
    generalize hx : f n + (putB B f n).2 = x at hm hl ⊢
    refine ⟨?_, h2.append (DigB.cons (by omega) (by omega) (DigB.nil B))⟩
    rw [valB_append, putB_len, valB_cons, valB_nil, Nat.mul_zero, Nat.add_zero, Int.toNat_natCast, Nat.pow_succ, Nat.mul_assoc]
    dsimp only
    have : B ^ n * (x % B) + B ^ n * (B * (x / B)) = B ^ n * f n + B ^ n * (putB B f n).2 := by rw [← Nat.mul_add, hm, ← hx, Nat.mul_add]
    omega
theorem putB_carry {B : Nat} (hB : 0 < B) {f : Nat → Nat} {K : Nat} (hK : ∀ i, f i ≤ K * (B - 1)) : ∀ n, (putB B f n).2 ≤ K
  | 0 => Nat.zero_le _
  | n + 1 => by
    have h1 := putB_carry hB hK n
    have h2 := hK n
    rw [putB]
    show (f n + (putB B f n).2) / B ≤ K
    have : f n + (putB B f n).2 ≤ K * B := by
      have : K * B = K * (B - 1) + K := by
        rw [Nat.mul_sub, Nat.mul_one]
        have : K * 1 ≤ K * B := Nat.mul_le_mul_left _ hB
        omega
      omega
    exact Nat.div_le_of_le_mul (by rw [Nat.mul_comm B K]; exact this)
theorem gathered {B : Nat} (hB : 2 ≤ B) {f : Nat → Nat} {n : Nat} {t : List Int} (ht : DigB B t) (hv : valB B t = (putB B f n).2) :
    trimL ((putB B f n).1 ++ t) = digB B (sumB B f n) := by
  obtain ⟨h1, h2⟩ := putB_spec (show 0 < B by omega) (f := f) n
  rw [trimL_eq hB (h2.append ht), valB_append, putB_len, hv, h1]
def rowC (B : Nat) (a : List Int) (m up : Nat) : Nat → Nat
  | 0 => 0
  | i + 1 => if i < up then rowC B a m up i else (limbN a (i - up) * m + rowC B a m up i) / B
def rowF (B : Nat) (a : List Int) (m up i : Nat) : Nat := if i < up then 0 else (limbN a (i - up) * m + rowC B a m up i) % B
theorem rowC_lt {B : Nat} (hB : 0 < B) {a : List Int} (ha : DigB B a) {m : Nat} (hm : m < B) (up : Nat) : ∀ i, rowC B a m up i < B
  | 0 => hB
  | i + 1 => by
    have h := rowC_lt hB ha hm up i
    unfold rowC
    split
    · exact h
    · have hl := limbN_lt hB ha (i - up)
      refine Nat.div_lt_of_lt_mul ?_
      have : limbN a (i - up) * m ≤ (B - 1) * (B - 1) := Nat.mul_le_mul (by omega) (by omega)
      have e : (B - 1) * (B - 1) + (B - 1) < B * B := by
        obtain ⟨k, rfl⟩ : ∃ k, B = k + 1 := ⟨B - 1, by omega⟩
        simp only [Nat.add_sub_cancel, Nat.mul_add, Nat.add_mul, Nat.mul_one, Nat.one_mul]; omega
      omega
theorem rowC_low {B : Nat} (a : List Int) (m up : Nat) : ∀ i, i ≤ up → rowC B a m up i = 0
  | 0, _ => rfl
  | i + 1, h => by unfold rowC; rw [if_pos (by omega)]; exact rowC_low a m up i (by omega)
theorem rowF_sum {B : Nat} (a : List Int) (m up : Nat) : ∀ n, up ≤ n → sumB B (rowF B a m up) n + B ^ n * rowC B a m up n = B ^ up * (m * sumB B (limbN a) (n - up))
  | 0, h => by
    obtain rfl : up = 0 := by omega
    simp [sumB, rowC]
  | n + 1, h => by
    rcases Nat.lt_or_ge n up with c | c
    · obtain rfl : up = n + 1 := by omega
      rw [rowC_low a m (n + 1) (n + 1) (Nat.le_refl _), Nat.sub_self, sumB_zero (fun i hi => by unfold rowF; rw [if_pos (by omega)])]
      simp [sumB]
    · have ih := rowF_sum (B := B) a m up n c
      rw [sumB, show n + 1 - up = (n - up) + 1 by omega, sumB, Nat.mul_add, Nat.mul_add, ← ih]
      have e1 : rowF B a m up n = (limbN a (n - up) * m + rowC B a m up n) % B := by unfold rowF; rw [if_neg (by omega)]
      have e2 : rowC B a m up (n + 1) = (limbN a (n - up) * m + rowC B a m up n) / B := by
        show (if n < up then rowC B a m up n else (limbN a (n - up) * m + rowC B a m up n) / B) = _
        rw [if_neg (by omega)]
      rw [e1, e2]
      have e3 := Nat.mod_add_div (limbN a (n - up) * m + rowC B a m up n) B
      have e4 : B ^ up * (m * (B ^ (n - up) * limbN a (n - up))) = B ^ n * (limbN a (n - up) * m) := by
        rw [show B ^ n = B ^ up * B ^ (n - up) by rw [← Nat.pow_add]; congr 1; omega, Nat.mul_assoc, Nat.mul_left_comm m, Nat.mul_comm m]
      rw [e4, Nat.pow_succ, Nat.mul_assoc]
      generalize limbN a (n - up) * m = x at e3 ⊢
      generalize (x + rowC B a m up n) % B = y at e3 ⊢
      generalize (x + rowC B a m up n) / B = z at e3 ⊢
      have : B ^ n * y + B ^ n * (B * z) = B ^ n * x + B ^ n * rowC B a m up n := by rw [← Nat.mul_add, e3, Nat.mul_add]
      omega
theorem row_val {B : Nat} (hB : 2 ≤ B) {a : List Int} (ha : DigB B a) {m : Nat} (hm : m < B) (up : Nat) : sumB B (rowF B a m up) (a.length + up + 1) = B ^ up * (m * valB B a) := by
  have h := rowF_sum (B := B) a m up (a.length + up + 1) (by omega)
  rw [show a.length + up + 1 - up = a.length + 1 by omega, sumB_limb a (a.length + 1) (by omega)] at h
  have hz : rowC B a m up (a.length + up + 1) = 0 := by
    unfold rowC
    rw [if_neg (by omega), limbN_out (by omega), Nat.zero_mul, Nat.zero_add]
    exact Nat.div_eq_of_lt (rowC_lt (by omega) ha hm up _)
  rw [hz, Nat.mul_zero, Nat.add_zero] at h
  exact h
def shlF (B S T : Nat) (a : List Int) (i : Nat) : Nat := limbN a i * S % B + (if i = 0 then 0 else limbN a (i - 1) / T)
theorem shl_sum {B S T : Nat} (hST : B = S * T) (hS : 0 < S) (hT : 0 < T) (a : List Int) : ∀ n, sumB B (shlF B S T a) n + B ^ n * (if n = 0 then 0 else limbN a (n - 1) / T) = S * sumB B (limbN a) n
  | 0 => by simp [sumB]
  | n + 1 => by
    have ih := shl_sum hST hS hT a n
    rw [sumB, sumB, Nat.mul_add, ← ih, if_neg (by omega), Nat.add_sub_cancel, shlF, Nat.mul_add]
    have e : limbN a n * S % B + B * (limbN a n / T) = S * limbN a n := by
      have h1 : limbN a n * S / B = limbN a n / T := by rw [hST, Nat.mul_comm (limbN a n) S, Nat.mul_div_mul_left _ _ hS]
      rw [← h1, Nat.mod_add_div, Nat.mul_comm]
    have e2 : B ^ n * (limbN a n * S % B) + B ^ n * (B * (limbN a n / T)) = S * (B ^ n * limbN a n) := by rw [← Nat.mul_add, e, Nat.mul_left_comm]
    rw [Nat.pow_succ, Nat.mul_assoc]
    omega
theorem shl_val {B S T : Nat} (hST : B = S * T) (hS : 0 < S) (hT : 0 < T) (a : List Int) : sumB B (shlF B S T a) (a.length + 1) = S * valB B a := by
  have h := shl_sum hST hS hT a (a.length + 1)
  rw [sumB_limb a _ (by omega)] at h
  have hn := shl_sum hST hS hT a a.length
  rw [if_neg (by omega), Nat.add_sub_cancel] at h
  rw [limbN_out (Nat.le_refl _), Nat.zero_div, Nat.mul_zero, Nat.add_zero] at h
  exact h
def shrF (S T : Nat) (a : List Int) (i : Nat) : Nat := limbN a i / S + limbN a (i + 1) % S * T
theorem shr_val {B S T : Nat} (hST : B = S * T) (hS : 0 < S) : ∀ (a : List Int), sumB B (shrF S T a) a.length = valB B a / S
  | [] => by simp [sumB, valB]
  | d :: r => by
    rw [List.length_cons, sumB_succ', show (fun i => shrF S T (d :: r) (i + 1)) = shrF S T r from funext fun i => by simp [shrF, limbN_succ], shr_val hST hS r, valB_cons]
    have e1 : shrF S T (d :: r) 0 = d.toNat / S + limbN r 0 % S * T := by simp [shrF, limbN_succ, limbN_zero]
    have e2 : limbN r 0 % S = valB B r % S := by
      cases r with
      | nil => rfl
      | cons e s => rw [limbN_zero, valB_cons, hST, Nat.mul_assoc, Nat.add_mul_mod_self_left]
    rw [e1, e2]
    generalize valB B r = v
    have h1 := Nat.mod_add_div v S
    have h2 : B * v = S * (T * v) := by rw [hST, Nat.mul_assoc]
    rw [h2, Nat.add_mul_div_left _ _ hS]
    have h3 : v % S * T + B * (v / S) = T * v := by
      rw [hST]
      calc v % S * T + S * T * (v / S) = (v % S + S * (v / S)) * T := by rw [Nat.add_mul, Nat.mul_assoc, Nat.mul_assoc, Nat.mul_comm T]
        _ = T * v := by rw [h1, Nat.mul_comm]
    omega
end Go.Proofs.YtibaoacjjcgjlaaGreatDoor.Base

namespace Go.Proofs.YtibaoacjjcgjlaaGreatDoor.Print
open Go.RowKit Go.Proofs.YtibaoacjjcgjlaaGreatDoorW.PrintWords Go.Proofs.YtibaoacjjcgjlaaGreatDoorW.PrintLast Go.Proofs.YtibaoacjjcgjlaaGreatDoorW.PrintMore Go.Proofs.YtibaoacjjcgjlaaGreatDoor.Base
set_option linter.unusedVariables false
set_option linter.unusedSimpArgs false
theorem top_law (l : List Int) (hl : l.length ≤ 4611686018427387904) : ∀ (x k : Nat), x ≤ l.length → x < k → nat_top.l0 k l (x : Int) = some ((trimL (l.take x)).length : Int)
  | 0, k, _, hk => by
    obtain ⟨k, rfl⟩ : ∃ m, k = m + 1 := ⟨k - 1, by omega⟩
    simp only [nat_top.l0]
    rw [if_neg (by omega)]
    simp [trimL]
  | x + 1, k, hx, hk => by
    obtain ⟨k, rfl⟩ : ∃ m, k = m + 1 := ⟨k - 1, by omega⟩
    have e : wrap64 (((x + 1 : Nat) : Int) - 1) = (x : Int) := by unfold wrap64; omega
    have hd : l.take (x + 1) = l.take x ++ [rd l (x : Int)] := by
      rw [List.take_succ_eq_append_getElem (by omega)]
      congr 2
      simp [rd, show x < l.length by omega]
    simp only [nat_top.l0]
    rw [e, if_pos (by omega), if_pos (by omega), if_pos (by omega), hd]
    by_cases h0 : rd l (x : Int) = 0
    · rw [if_pos h0, h0, trimL_snoc_zero]
      exact top_law l hl x k (by omega) (by omega)
    · rw [if_neg h0, trimL_snoc _ _ h0, List.length_append, List.length_take, Nat.min_eq_left (by omega)]
      rfl
theorem top_f (l : List Int) (hl : l.length ≤ 4611686018427387904) : nat_top.f (l.length + 1) l = some ((trimL l).length : Int) := by
  unfold nat_top.f
  rw [top_law l hl l.length (l.length + 1) (Nat.le_refl _) (Nat.lt_succ_self _), List.take_length]
theorem top_calls (A0 : Option Addr) (c0 : Nat) (l0 : List Int) (w : World) (hr0 : Kd.C (Kd.int .u32) w A0 l0.length l0) (hc0 : l0.length ≤ c0) (hl : l0.length ≤ 4611686018427387904) :
    Calls Tryz.prog 93 #[.slice A0 l0.length c0] w fun e w' => e = .returned (.int .i64 ((trimL l0).length : Int)) ∧ Drawn0 w w' :=
  nat_top.calls (l0.length + 1) A0 c0 l0 _ w hr0 hc0 (top_f l0 hl)
def okN (l : List Int) : Bool := decide (l.length ≤ 1048576) && l.all (fun d => decide (0 ≤ d) && decide (d < 4294967296))
theorem okN_iff {l : List Int} : okN l = true ↔ l.length ≤ 1048576 ∧ DigB 4294967296 l := by
  unfold okN DigB
  simp
theorem limb_f (l : List Int) (i : Int) (h : DigB 4294967296 l) : nat_limb.f l i = some (if i < 0 then 0 else (limbN l i.toNat : Int)) := by
  unfold nat_limb.f
  by_cases h1 : i < 0
  · rw [if_pos h1, if_pos h1]
  · rw [if_neg h1, if_neg h1]
    by_cases h2 : i ≥ (l.length : Int)
    · rw [if_pos h2, limbN_out (by omega)]; rfl
    · rw [if_neg h2, if_pos (by omega), if_pos (by omega)]
      obtain ⟨j, rfl⟩ : ∃ j : Nat, i = j := ⟨i.toNat, by omega⟩
      have hj : j < l.length := by omega
      have hm := h l[j] (List.getElem_mem hj)
      simp only [limbN, rd, hj, Int.toNat_natCast, List.getD_eq_getElem?_getD, List.getElem?_eq_getElem, Option.getD_some]
      rw [IntKind.wrap_u64]
      congr 1
      omega
theorem limb_calls (A0 : Option Addr) (c0 : Nat) (l0 : List Int) (i : Int) (w : World) (hr0 : Kd.C (Kd.int .u32) w A0 l0.length l0) (hc0 : l0.length ≤ c0) (hd : DigB 4294967296 l0) :
    Calls Tryz.prog 64 #[.slice A0 l0.length c0, .int .i64 i] w fun e w' => e = .returned (.int .u64 (if i < 0 then 0 else (limbN l0 i.toNat : Int))) ∧ Drawn0 w w' :=
  nat_limb.calls A0 c0 l0 i _ w hr0 hc0 (limb_f l0 i hd)
end Go.Proofs.YtibaoacjjcgjlaaGreatDoor.Print

namespace Go.Proofs.YtibaoacjjcgjlaaGreatDoor.Print
open Go.RowKit Go.Shelf Go.Proofs.YtibaoacjjcgjlaaGreatDoorW.PrintWords Go.Proofs.YtibaoacjjcgjlaaGreatDoorW.PrintLast Go.Proofs.YtibaoacjjcgjlaaGreatDoorW.PrintMore Go.Proofs.YtibaoacjjcgjlaaGreatDoor.Base
attribute [local go_sem] max2_int min2_int max_two min_two   -- for this text's walks alone
set_option linter.unusedVariables false
set_option linter.unusedSimpArgs false
set_option maxRecDepth 100000 in
set_option maxHeartbeats 2000000 in
theorem clone_calls (A : Option Addr) (c : Nat) (l : List Int) (w : World) (hC : Kd.C (Kd.int .u32) w A l.length l) (h8 : l.length * 4 ≤ 140737488355328) :
    Calls Tryz.prog 92 #[.slice A l.length c] w fun e w' => ∃ v, e = .returned v ∧ Kd.R (Kd.int .u32) 88 w' w.heap.size (fun _ => True) v l ∧ Below w.heap.size w w' := by
  cases A with
  | none =>
    have hl : l = [] := by
      cases l with
      | nil => rfl
      | cons x r => obtain ⟨_, e, _⟩ := hC.2.2 (by simp); cases e
    subst hl
    show Calls _ _ #[.slice none 0 c] w _
    have hq := fun w => Lib.run_eql_slice_nil (P := Tryz.prog) w 29 88 none 0 c 0 0 Tryz.underlying29
    simp only [Option.isNone_none] at hq
    go_enter Tryz.func92, Tryz.ntmps92
    go_wp2
    go_ret
    exact ⟨_, rfl, Kd.R_nil _ _ _ _ _, Below.refl _ _⟩
  | some ad =>
    have hq := fun w => Lib.run_eql_slice_nil (P := Tryz.prog) w 29 88 (some ad) l.length c 0 0 Tryz.underlying29
    simp only [Option.isNone_some] at hq
    have HC := Aside0.mk hC
    have H8 := Aside0.mk h8
    clear hC h8
    go_enter Tryz.func92, Tryz.ntmps92
    go_wp2_with ((with_reducible refine gate_builtin (b := .append) (xs := #[.tmp 5, .tmp 6]) rfl ?_); at_builtin; refine Kd.R_append_rows (Kd.int .u32) (w0 := w) w.heap.size rfl (.tmp 5) (.tmp 6) 29 88 (.int .u32 0) 4 rfl Tryz.underlying29 info88 rfl (by decide) (by omega) (.slice (some ⟨w.heap.size, 0, none⟩) 0 0) [] l (some ad) l.length c (fun _ => True) (fun _ => False) rfl rfl ?aO (Kd.cB9 HC.out (bA9 (Below.refl _ _) _)) (fun _ _ h => h) (fun _ hk => hk.elim) (fun _ _ => trivial) ?aB ?aS ?aL ?_; (case aO => exact Kd.R_of_own (World.ownsRow_made w #[] 0 (Nat.le_refl _) (Nat.zero_le _) rfl) (fun _ _ => trivial)); (case aB => exact bA9 (Below.refl _ _) _); (case aS => simp); (case aL => have := H8.out; simp; omega); intro v' w9 ho hb hg hat; rw [List.nil_append] at ho; have HO := Aside0.mk ho; have HB := Aside0.mk hb; clear ho hb hg hat)
    go_ret
    exact ⟨_, rfl, HO.out, HB.out⟩
theorem trimL_len_le (l : List Int) : (trimL l).length ≤ l.length := by
  have h := congrArg List.length (trimL_take l)
  rw [List.length_take] at h
  omega
def nat_Trim.f (l0 : List Int) : Option (List Int) := if okN l0 = true then some (trimL l0) else none
set_option maxRecDepth 100000 in
set_option maxHeartbeats 4000000 in
theorem nat_Trim.calls (A0 : Option Addr) (c0 : Nat) (l0 : List Int) (r : List Int) (w : World) (hr0 : Kd.C (Kd.int .u32) w A0 l0.length l0) (hc0 : l0.length ≤ c0) (h : nat_Trim.f l0 = some r) :
    Calls Tryz.prog 56 #[.slice A0 l0.length c0] w fun e w' => ∃ v0_ : Value, e = .returned (v0_) ∧ Kd.R (Kd.int .u32) 88 w' w.heap.size (fun _ => True) v0_ r ∧ Below w.heap.size w w' := by
  unfold nat_Trim.f at h
  by_cases hg : okN l0 = true
  · rw [if_pos hg] at h
    obtain rfl := Option.some.inj h
    obtain ⟨n0, d0⟩ := okN_iff.1 hg
    have hm := trimL_len_le l0
    have TOP := fun W h => top_calls A0 c0 l0 W h hc0 (by omega)
    have CLO := fun W h => clone_calls A0 c0 (trimL l0) W h (by omega)
    have hCt := Kd.C_take hr0 hm
    rw [← trimL_take] at hCt
    obtain ⟨m, hmm⟩ : ∃ m, (trimL l0).length = m := ⟨_, rfl⟩
    obtain ⟨n, hnn⟩ : ∃ n, l0.length = n := ⟨_, rfl⟩
    rw [hmm] at TOP CLO hm hCt
    rw [hnn] at TOP hm hc0 n0 hr0 ⊢
    have p1 : (0 : Int) ≤ (m : Int) := by omega
    have p2 : (m : Int) ≤ (c0 : Int) := by omega
    have CC := Aside0.mk hr0
    have CT := Aside0.mk hCt
    clear hr0 hCt hg h d0 hmm hnn
    go_enter Tryz.func56, Tryz.ntmps56
    go_wp2_with (first | (go_at_call 93; refine (TOP _ CC.out).mono ?_; rintro e w1 ⟨rfl, ⟨q, rfl⟩⟩) | (go_at_call 92; refine (CLO _ (by (repeat (first | (with_reducible exact CT.out) | (with_reducible refine Kd.cN9 ?_ _) | (with_reducible refine Kd.cD9 ?_))))).mono ?_; rintro e w2 ⟨v, rfl, hR, hB⟩))
    all_goals
      go_ret
      exact ⟨_, rfl, hR, (bN9 (Below.refl _ _) _).trans hB⟩
  · rw [if_neg hg] at h; cases h
theorem boxed_to {W : World} {B : Nat} {t : TypeId} {v v' : Value} (h : Boxed W B t v) (e : v = v') : Boxed W B t v' := e ▸ h
def backs (n : Nat) : List (Fin n) := (List.finRange n).reverse
theorem backs_length (n : Nat) : (backs n).length = n := by simp [backs]
theorem backs_take (n j : Nat) (h : j < n) : (backs n).take (n - j) = (backs n).take (n - 1 - j) ++ [⟨j, h⟩] := by
  rw [show n - j = n - 1 - j + 1 by omega, List.take_succ_eq_append_getElem (by rw [backs_length]; omega)]
  congr 2
  apply Fin.ext
  simp [backs]
  omega
def BackKeeps (n₀ Bs : Nat) (W W' : World) : Prop := Below n₀ W W' ∧ ∀ t v, Boxed W Bs t v → Boxed W' Bs t v
theorem BackKeeps.refl (n₀ Bs : Nat) (W : World) : BackKeeps n₀ Bs W W := ⟨Below.refl _ _, fun _ _ h => h⟩
theorem BackKeeps.trans {n₀ Bs : Nat} {A B C : World} (h : BackKeeps n₀ Bs A B) (k : BackKeeps n₀ Bs B C) : BackKeeps n₀ Bs A C := ⟨h.1.trans k.1, fun t v hv => k.2 t v (h.2 t v hv)⟩
theorem backKeeps_b {n₀ Bs : Nat} {w : World} (hn : n₀ ≤ w.heap.size) (W : World) (l : Nat) (o o' : Obj) (hl : w.heap.size ≤ l) (h : W.heap[l]? = some o) (hc : o.isCells = false) (hk : o.isWalk = false) : BackKeeps n₀ Bs W (W.putObj l o') :=
  ⟨belowK_b hn W l o o' hl h hc hk, fun t v hv => hv.kept (grownBy_putObj' W l o') (fun e => by
    obtain rfl : Bs = l := by simpa using e
    rw [show W.heap[Bs]? = _ from hv] at h; cases h; cases hc)⟩
set_option maxRecDepth 100000 in
set_option maxHeartbeats 2000000 in
theorem down1_in (F : Fence) (n : Nat) (h7 : F.fn 101) (hro : F.round = none) (hn : 1 ≤ n) (l Bs N n0 : Nat) (hN : N ≤ 4611686018427387904) (J Jx : List (Fin N) → World → Prop)
    (hY : ∀ (pre : List (Fin N)) (x : Fin N) (W : World), J pre W → pre.length < N → YieldAt F (n - 1) Tryz.prog l #[.int .i64 (x.1 : Int)] W fun e W' =>
      (e = .returned (.bool true) ∧ J (pre ++ [x]) W' ∧ BackKeeps n0 Bs W W') ∨ (e = .returned (.bool false) ∧ Jx (pre ++ [x]) W'))
    (W : World) (hBs : Boxed W Bs 3 (.int .i64 (N : Int))) (h0 : J [] W) :
    CallsIn F n Tryz.prog 101 #[.func (.yield l) #[] #[], .pointer (some ⟨Bs, 0, none⟩)] W fun e W' => (∃ v, e = .returned v) ∧
      ((∃ ys, ys = backs N ∧ J ys W') ∨ (∃ pre, pre <+: backs N ∧ Jx pre W')) := by
  refine callsIn_of_wp Tryz.func101 rfl h7 ?_ hro
  simp only [Tryz.ntmps101, List.size_toArray, List.length_cons, List.length_nil, Nat.reduceAdd, Nat.reduceSub, Array.replicate_succ, Array.replicate_zero, List.push_toArray, List.append_toArray, List.nil_append, List.cons_append]
  have hc0 := hBs.cell
  gi_wp2
  gi_loopw [3] (fun v wr => ∃ i : Int, -1 ≤ i ∧ i < N ∧ v = .int .i64 i ∧ J ((backs N).take (((N : Int) - 1 - i).toNat)) wr ∧ BackKeeps n0 Bs W wr)
    (fun v _ => ((intOf v) + 1).toNat)
  case atStart => exact ⟨(N : Int) - 1, by omega, by omega, rfl, by rw [show ((N : Int) - 1 - ((N : Int) - 1)).toNat = 0 by omega]; exact h0, BackKeeps.refl _ _ _⟩
  case round =>
    obtain ⟨i, hi0, hi1, rfl, hJs, hkp⟩ := hrel
    by_cases hlt : 0 ≤ i
    · have hbx := (hkp.2 _ _ hBs).cell
      obtain ⟨j, rfl⟩ : ∃ j : Nat, i = j := ⟨i.toNat, by omega⟩
      have hj : j < N := by omega
      obtain ⟨fn, tmps, assign, body, hy, hR⟩ := hY _ (⟨j, hj⟩ : Fin N) wr hJs (by rw [List.length_take, backs_length]; omega)
      dsimp only at hy
      gi_wp2
      refine hR.mono ?_
      rintro e W3 (⟨rfl, hJ3, hk3⟩ | ⟨rfl, hJx3⟩)
      · gi_wp2
        go_roundw
        case rel => exact ⟨(j : Int) - 1, by omega, by omega, rfl, by rw [show ((N : Int) - 1 - ((j : Int) - 1)).toNat = N - j by omega, backs_take _ _ hj]; rw [show ((N : Int) - 1 - (j : Int)).toNat = N - 1 - j by omega] at hJ3; exact hJ3, hkp.trans hk3⟩
        case measure => simp [intOf]
      · gi_wp2
        refine bodyPost_ret (results_none rfl _ _ _) rfl ?_
        rw [show ((N : Int) - 1 - (j : Int)).toNat = N - 1 - j by omega, ← backs_take _ _ hj] at hJx3
        exact ⟨⟨_, rfl⟩, .inr ⟨_, List.take_prefix _ _, hJx3⟩⟩
    · obtain rfl : i = -1 := by omega
      have hd : decide ((0 : Int) ≤ -1) = false := by decide
      gi_wp2
      go_end0
      rw [show ((N : Int) - 1 - (-1)).toNat = N by omega, List.take_of_length_le (by rw [backs_length]; omega)] at hJs
      exact ⟨⟨_, rfl⟩, .inl hJs⟩
theorem down_stops (F : Fence) (n : Nat) (h7 : F.fn 101) (hro : F.round = none) (hn : 1 ≤ n) (Bs N n0 : Nat) (hN : N ≤ 4611686018427387904) (w : World) (hBs : Boxed w Bs 3 (.int .i64 (N : Int))) :
    SeqStopsK F n Tryz.prog 101 #[.pointer (some ⟨Bs, 0, none⟩)] (fun x : Fin N => #[Value.int .i64 (x.1 : Int)]) (BackKeeps n0 Bs) (fun ys => ys = backs N) (fun pre => pre <+: backs N) N w := fun l J Jx W hW _ _ hY hj => by
  have hb : Boxed W Bs 3 (.int .i64 (N : Int)) := (hW.block Bs hBs.lt).trans hBs
  exact down1_in F n h7 hro hn l Bs N n0 hN J Jx hY W hb hj
set_option maxRecDepth 100000 in
set_option maxHeartbeats 8000000 in
theorem down_calls (A : Option Addr) (la ca : Nat) (B : Option Addr) (lb cb b : Nat) (w : World) (h0 : w.cell? ⟨b, 0, none⟩ = some (.slice A la ca)) (h1 : w.cell? ⟨b, 1, none⟩ = some (.slice B lb cb)) (hb : b < w.heap.size) (hla : la ≤ 4611686018427387904) (hlb : lb ≤ 4611686018427387904) :
    Calls Tryz.prog 63 #[.slice (some ⟨b, 0, none⟩) 2 2] w fun e w' => e = .returned (.func (.func 101) #[] #[.pointer (some ⟨w.heap.size, 0, none⟩)]) ∧ Boxed w' w.heap.size 3 (.int .i64 ((max la lb : Nat) : Int)) ∧ Below w.heap.size w w' := by
  have H0 := Aside0.mk h0
  have H1 := Aside0.mk h1
  clear h0 h1
  go_enter Tryz.func63, Tryz.ntmps63
  go_wp2
  go_loopg [8] 3 (fun kq v8 w' => ∃ (i c : Nat), v8 = .int .i64 (i : Int) ∧ Aside0 (i + kq = 3 ∧ i ≤ 2 ∧ (i = 0 → c = 0) ∧ (i = 1 → c = la) ∧ (i = 2 → c = max la lb)) ∧ Aside0 (Boxed w' w.heap.size 3 (.int .i64 (c : Int))) ∧ Aside0 (Below w.heap.size w w'))
  case atStart => exact ⟨0, 0, rfl, ⟨by omega, by omega, fun _ => rfl, by omega, by omega⟩, ⟨Boxed.new w 3 (.int .i64 0)⟩, ⟨bA9 (Below.refl _ _) _⟩⟩
  case round =>
    obtain ⟨i, c, rfl, HI, HB, HL⟩ := hrel
    have h0 := (HL.out.cell (p := ⟨b, 0, none⟩) hb).trans H0.out
    have h1 := (HL.out.cell (p := ⟨b, 1, none⟩) hb).trans H1.out
    have hc := HB.out.cell
    have hf := HB.out.frozen
    obtain ⟨i1, i2, i3, i4, i5⟩ := HI.out
    cases gk with
    | zero => omega
    | succ k1 =>
      clear HI
      rcases (by omega : i = 0 ∨ i = 1 ∨ i = 2) with rfl | rfl | rfl
      · obtain rfl := i3 rfl
        clear i3 i4 i5 h1
        go_wp2
        all_goals
          go_roundg k1
          case measure => omega
          case rel => exact ⟨1, la, rfl, ⟨by omega, by omega, by omega, fun _ => rfl, by omega⟩, ⟨boxed_to (HB.out.set _) (by first | rfl | (congr 1; omega))⟩, ⟨HL.out.setCell (p := ⟨w.heap.size, 0, none⟩) (Nat.le_refl _) _⟩⟩
      · obtain rfl := i4 rfl
        clear i3 i4 i5 h0
        go_wp2
        all_goals
          go_roundg k1
          case measure => omega
          case rel => exact ⟨2, max c lb, rfl, ⟨by omega, by omega, by omega, by omega, fun _ => rfl⟩, ⟨boxed_to (HB.out.set _) (by first | rfl | (congr 1; omega))⟩, ⟨HL.out.setCell (p := ⟨w.heap.size, 0, none⟩) (Nat.le_refl _) _⟩⟩
      · obtain rfl := i5 rfl
        clear i3 i4 i5 h0 h1
        go_wp2
        go_ret
        exact ⟨rfl, HB.out, HL.out⟩
end Go.Proofs.YtibaoacjjcgjlaaGreatDoor.Print

namespace Go.Proofs.YtibaoacjjcgjlaaGreatDoor.Print
open Go.RowKit Go.Proofs.YtibaoacjjcgjlaaGreatDoorW.PrintWords Go.Proofs.YtibaoacjjcgjlaaGreatDoorW.PrintLast Go.Proofs.YtibaoacjjcgjlaaGreatDoorW.PrintMore
attribute [local go_sem] max2_int min2_int max_two min_two max_three min_three max_four min_four   -- for this text's walks alone
set_option linter.unusedVariables false
set_option linter.unusedSimpArgs false
def quo_Short.l0 : Nat → List Int → Int → List Int → Int → Int → Option (List Int × Int × Int)
 | 0, _, _, _, _, _ => none
 | k + 1, x0, x1, x7, x8, x9 => if x9 ≥ 0 then (if 0 ≤ x9 then (if x9 < (x0.length : Int) then (if (IntKind.u64.wrap (x1)) = 0 then (none) else (if x9 < (x7.length : Int) then (quo_Short.l0 k x0 x1 (x7.set (x9 : Int).toNat ((IntKind.u64.wrap (Int.tdiv (Go.bits .or .u64 (IntKind.u64.wrap (x8 * 4294967296)) (IntKind.u64.wrap (rd x0 x9))) (IntKind.u64.wrap (x1)))) % 4294967296)) (Int.tmod (Go.bits .or .u64 (IntKind.u64.wrap (x8 * 4294967296)) (IntKind.u64.wrap (rd x0 x9))) (IntKind.u64.wrap (x1))) (wrap64 (x9 - 1))) else (none))) else (none)) else (none)) else ((nat_Trim.f x7).bind fun t106 => (some (t106, (x8) % 4294967296, 0)))
def quo_Short.f (k : Nat) (l0 : List Int) (a1 : Int) : Option (List Int × Int × Int) := if a1 = 0 then (some (([] : List Int), 0, 17)) else (if 0 ≤ (l0.length : Int) then (if ((l0.length : Int) : Int).toNat ≤ 70368744177664 then (quo_Short.l0 k l0 a1 (List.replicate ((l0.length : Int) : Int).toNat 0) 0 (wrap64 ((l0.length : Int) - 1))) else (none)) else (none))
set_option maxHeartbeats 8000000 in
set_option maxRecDepth 100000 in
theorem quo_Short.calls (k : Nat) (A0 : Option Addr) (c0 : Nat) (l0 : List Int) (a1 : Int) (r1 : List Int) (r2 : Int) (r3 : Int) (w : World) (hr0 : Kd.C (Kd.int .u32) w A0 l0.length l0) (hc0 : l0.length ≤ c0) (h : quo_Short.f k l0 a1 = some (r1, r2, r3)) :
  Calls Tryz.prog 57 #[.slice A0 l0.length c0, .int .u32 a1] w fun e w' => ∃ v0_ : Value, e = .returned (.tuple #[v0_, .int .u32 r2, .int .i64 r3]) ∧ Kd.R (Kd.int .u32) 88 w' w.heap.size (fun _ => True) v0_ r1 ∧ Below w.heap.size w w' := by
 have HR0 := Aside0.mk hr0
 have HC0 := Aside0.mk hc0
 clear hr0 hc0
 have HB := Aside0.mk (Below.refl w.heap.size w)
 have H : (if a1 = 0 then (some (([] : List Int), 0, 17)) else (if 0 ≤ (l0.length : Int) then (if ((l0.length : Int) : Int).toNat ≤ 70368744177664 then (quo_Short.l0 k l0 a1 (List.replicate ((l0.length : Int) : Int).toNat 0) 0 (wrap64 ((l0.length : Int) - 1))) else (none)) else (none))) = some (r1, r2, r3) := h
 clear h
 by_cases c3 : a1 = 0
 ·rw [if_pos c3] at H
  have c3b0 : (a1 == 0) = true := beq_iff_eq.mpr c3
  have c3b1 : (a1 != 0) = false := bne_eq_false_iff_eq.mpr c3
  clear c3
  simp only [Option.some.injEq, Prod.mk.injEq] at H
  obtain ⟨rfl, rfl, rfl⟩ := H
  go_enter Tryz.func57, Tryz.ntmps57
  go_wp2
  go_ret3
  exact ⟨_, by first | rfl | (simp [eN9, eS9] <;> rfl) | (simp [*, eN9, eS9] <;> rfl), by first | exact Kd.R_nil _ _ _ _ _ | exact Kd.N_nil _ _ _ _ _ | exact Kd.V_nil _ _ _ _ _ | exact Kd.Q_nil _ _ _ _ _ | exact Kd.S_nil _ _ _ _ _, by repeat (first | (with_reducible first | exact HB.out | apply bA9 | apply bN9 | apply bD9) | exact HB.out)⟩
 ·rw [if_neg c3] at H
  have c3b0 : (a1 == 0) = false := beq_eq_false_iff_ne.mpr c3
  have c3b1 : (a1 != 0) = true := bne_iff_ne.mpr c3
  by_cases c4 : 0 ≤ (l0.length : Int)
  ·rw [if_pos c4] at H
   have c4b0 := eq_true c4
   try (have h_c4 := c4; rw [ByteArray.size_append] at h_c4; have c4b3 := eq_true h_c4; have c4b4 := eq_false (Nat.not_lt.2 h_c4); clear h_c4)
   have c4b1 : decide (0 ≤ (l0.length : Int)) = true := decide_eq_true c4
   clear c4
   by_cases c5 : ((l0.length : Int) : Int).toNat ≤ 70368744177664
   ·rw [if_pos c5] at H
    have c5b0 := eq_true c5
    try (have h_c5 := c5; rw [ByteArray.size_append] at h_c5; have c5b3 := eq_true h_c5; have c5b4 := eq_false (Nat.not_lt.2 h_c5); clear h_c5)
    have c5b1 : decide (((l0.length : Int) : Int).toNat ≤ 70368744177664) = true := decide_eq_true c5
    clear c5
    obtain ⟨y101, hy101⟩ : ∃ y_ : List Int, y_ = (List.replicate ((l0.length : Int) : Int).toNat 0) := ⟨_, rfl⟩
    replace H : (quo_Short.l0 k l0 a1 y101 0 (wrap64 ((l0.length : Int) - 1))) = some (r1, r2, r3) := by first | (rw [hy101]; with_reducible exact H) | (have H2_ := (Option.bind_some _ _).symm.trans H; rw [hy101]; with_reducible exact H2_) | (have H2_ := (Option.bind_some _ _).symm.trans H; with_reducible exact H2_) | with_reducible exact H | (rw [hy101]; exact H) | exact H
    have Ny101 := Aside0.mk hy101
    clear hy101
    have H' := Aside0.mk H
    clear H
    go_enter Tryz.func57, Tryz.ntmps57
    go_wp2_with (first | ((with_reducible refine gD9 (N := 14) rfl ?_); refine Kd.R_make (Kd.int .u32) _ 88 rfl (N := 14) rfl 29 _ _ rfl (l0.length : Int) rfl rfl Tryz.underlying29 (.int .u32 0) 4 info88 rfl (by decide) (by omega) 0 (ok := fun _ => True) (okp := fun _ => True) rfl (fun _ hk => hk) trivial (of_decide_eq_true (by first | (with_reducible assumption) | assumption)) (Nat.le_trans (Nat.mul_le_mul_right _ (of_decide_eq_true (by first | (with_reducible assumption) | assumption) : (l0.length : Int).toNat ≤ 70368744177664)) (by omega)) (Below.refl _ _) (Nat.le_refl _) ?_; intro v102 w6 ho7 hb hg_ hnew_; clear hg_ hnew_; (first | rw [← Ny101.out] at ho7 | (simp only [Int.reduceToNat] at ho7; rw [← Ny101.out] at ho7)); have n0_ := Aside0.mk (Kd.rL9 ho7 (bZ9 (by repeat (first | (with_reducible first | exact HB.out | apply bA9 | apply bN9 | apply bD9) | exact HB.out)))); have n1_ := Aside0.mk (bT9 (by repeat (first | (with_reducible first | exact HB.out | apply bA9 | apply bN9 | apply bD9) | exact HB.out)) hb); clear HB; have HO103 := n0_; have HB := n1_; clear n0_ n1_; clear hb ho7))
    go_loopg [8, 9] k (fun kq v8 v9 w' => ∃ (x7_1 : List Int) (x8_1 : Int) (x9_1 : Int), v8 = .int .u64 x8_1 ∧ v9 = .int .i64 x9_1 ∧ Aside0 (quo_Short.l0 kq l0 a1 x7_1 x8_1 x9_1 = some (r1, r2, r3)) ∧ Aside0 (kq ≤ k) ∧ Aside0 (Kd.R (Kd.int .u32) 88 w' w.heap.size (fun _ => True) v102 x7_1) ∧ Aside0 (Below w.heap.size w w'))
    case atStart => exact ⟨(y101), (0), (wrap64 ((l0.length : Int) - 1)), (by first | rfl | (simp; done) | (simp [*]; done)), (by first | rfl | (simp; done) | (simp [*]; done)), H', ⟨Nat.le_refl _⟩, ⟨by (with_reducible repeat (first | apply Kd.rA9 | apply Kd.rN9 | apply Kd.rD9)); exact HO103.out⟩, ⟨by repeat (first | (with_reducible first | exact HB.out | apply bA9 | apply bN9 | apply bD9) | exact HB.out)⟩⟩
    case round =>
     clear H'
     try clear p2
     try clear c3
     try clear c3b0
     try clear c3b1
     try clear c4
     try clear c4b0
     try clear c4b1
     try clear c5
     try clear c5b0
     try clear c5b1
     try clear p6
     obtain ⟨x7_1, x8_1, x9_1, rfl, rfl, HA, HK1, HO_7, HB⟩ := hrel
     cases gk with
     | zero => exact absurd HA.out (by simp [quo_Short.l0])
     | succ k1 =>
      have H := HA.out
      clear HA
      simp only [quo_Short.l0] at H
      by_cases c8 : x9_1 ≥ 0
      ·rw [if_pos c8] at H
       have c8b0 : decide (0 ≤ x9_1) = true := decide_eq_true c8
       clear c8
       by_cases c9 : 0 ≤ x9_1
       ·rw [if_pos c9] at H
        have c9b0 : decide (0 ≤ x9_1) = true := decide_eq_true c9
        clear c9
        by_cases c10 : x9_1 < (l0.length : Int)
        ·rw [if_pos c10] at H
         have c10b0 : decide (x9_1 < (l0.length : Int)) = true := decide_eq_true c10
         clear c10
         by_cases c11 : (IntKind.u64.wrap (a1)) = 0
         ·rw [if_pos c11] at H
          exact absurd H (by simp)
         ·rw [if_neg c11] at H
          have c11b0 : ((IntKind.u64.wrap (a1)) == 0) = false := beq_eq_false_iff_ne.mpr c11
          have c11b1 : ((IntKind.u64.wrap (a1)) != 0) = true := bne_iff_ne.mpr c11
          by_cases c12 : x9_1 < (x7_1.length : Int)
          ·rw [if_pos c12] at H
           have c12b0 : decide (x9_1 < (x7_1.length : Int)) = true := decide_eq_true c12
           clear c12
           obtain ⟨y105, hy105⟩ : ∃ y_ : List Int, y_ = (x7_1.set (x9_1 : Int).toNat ((IntKind.u64.wrap (Int.tdiv (Go.bits .or .u64 (IntKind.u64.wrap (x8_1 * 4294967296)) (IntKind.u64.wrap (rd l0 x9_1))) (IntKind.u64.wrap (a1)))) % 4294967296)) := ⟨_, rfl⟩
           replace H : (quo_Short.l0 k1 l0 a1 y105 (Int.tmod (Go.bits .or .u64 (IntKind.u64.wrap (x8_1 * 4294967296)) (IntKind.u64.wrap (rd l0 x9_1))) (IntKind.u64.wrap (a1))) (wrap64 (x9_1 - 1))) = some (r1, r2, r3) := by first | (rw [hy105]; with_reducible exact H) | (have H2_ := (Option.bind_some _ _).symm.trans H; rw [hy105]; with_reducible exact H2_) | (have H2_ := (Option.bind_some _ _).symm.trans H; with_reducible exact H2_) | with_reducible exact H | (rw [hy105]; exact H) | exact H
           have Ny105 := Aside0.mk hy105
           clear hy105
           have H' := Aside0.mk H
           clear H
           have p104 : 0 ≤ (x9_1 : Int) := of_decide_eq_true (by first | (with_reducible assumption) | assumption)
           have q104 : x9_1 < (l0.length : Int) := of_decide_eq_true (by first | (with_reducible assumption) | assumption)
           obtain ⟨ad104, e104, hx104_0⟩ := Kd.at_int HR0.out x9_1 p104 q104
           cases e104
           replace hx104_0 := (HB.out.cell (World.block_lt_of_cell? w _ hx104_0)).trans hx104_0
           replace p104 := eq_true p104
           replace q104 := eq_true q104
           have p13 : 0 ≤ (x9_1 : Int) := of_decide_eq_true (by first | (with_reducible assumption) | assumption)
           have q13 : (x9_1 : Int) < ((x7_1.length : Int) : Int) := of_decide_eq_true (by first | (with_reducible assumption) | assumption)
           obtain ⟨go13, co13, eo13, gb13, gl13, cl13, HG13⟩ := Kd.R_form HO_7.out (by omega)
           (first | cases eo13 | (injection eo13 with ea_ en_ ec_; (first | subst ea_ | (injection ea_ with ea_; subst ea_)); subst ec_; clear en_))
           have GB13 := Aside0.mk gb13
           have GG13 := Aside0.mk HG13
           clear gb13 gl13 HG13
           obtain ⟨hx13_0, hf13_0⟩ := Kd.R_celln 0 HO_7.out (x9_1 : Int) p13 q13
           replace p13 := eq_true p13
           replace q13 := eq_true q13
           have HP14 := Kd.R_putg HO_7.out (x9_1 : Int) ((IntKind.u64.wrap (Int.tdiv (Go.bits .or .u64 (IntKind.u64.wrap (x8_1 * 4294967296)) (IntKind.u64.wrap (rd l0 x9_1))) (IntKind.u64.wrap (a1)))) % 4294967296)
           go_wp2_with (first | ((with_reducible refine gate_store (t := 88) (p := 37) rfl ?_); refine store_event (t := 88) (p := 37) (v := ?vo_w15) (w1 := (wr.setCell ⟨go13, (x9_1 : Int).toNat, none⟩ (.int .u32 ((IntKind.u64.wrap (Int.tdiv (Go.bits .or .u64 (IntKind.u64.wrap (x8_1 * 4294967296)) (IntKind.u64.wrap (rd l0 x9_1))) (IntKind.u64.wrap (a1)))) % 4294967296)))) ?hg ?ho ?hn ?hr ?_; (case ho => rfl); (case hg => rfl); (case hn => rfl); (case hr => first | (go_simp; done) | (go_simp; rfl)); intro w15 hw; have hg : wr.grownBy w15 (some go13) := (by rw [hw]; exact HP14.2); have hp_ : Kd.R (Kd.int .u32) 88 w15 w.heap.size (fun _ => True) (.slice (some ⟨go13, 0, none⟩) x7_1.length co13) y105 := (by rw [hw, Ny105.out]; exact HP14.1); clear HP14; have n0_ := Aside0.mk (hp_); have n1_ := Aside0.mk ((by rw [hw]; exact bS9 (HB.out) GB13.out : Below w.heap.size w w15)); clear HO_7; clear HB; have HO_7 := n0_; have HB := n1_; clear n0_ n1_; clear hg hw hp_))
           go_roundg k1
           case measure => have := HK1.out; omega
           case rel => exact ⟨(y105), (Int.tmod (Go.bits .or .u64 (IntKind.u64.wrap (x8_1 * 4294967296)) (IntKind.u64.wrap (rd l0 x9_1))) (IntKind.u64.wrap (a1))), (wrap64 (x9_1 - 1)), (by first | rfl | (simp; done) | (simp [*]; done)), (by first | rfl | (simp; done) | (simp [*]; done)), H', ⟨by have := HK1.out; omega⟩, ⟨by (with_reducible repeat (first | apply Kd.rA9 | apply Kd.rN9 | apply Kd.rD9)); exact HO_7.out⟩, ⟨by repeat (first | (with_reducible first | exact HB.out | apply bA9 | apply bN9 | apply bD9) | exact HB.out)⟩⟩
          ·rw [if_neg c12] at H
           exact absurd H (by simp)
        ·rw [if_neg c10] at H
         exact absurd H (by simp)
       ·rw [if_neg c9] at H
        exact absurd H (by simp)
      ·rw [if_neg c8] at H
       have c8b0 : decide (0 ≤ x9_1) = false := decide_eq_false c8
       clear c8
       replace H := Option.bind_eq_some_iff.mp H
       obtain ⟨t106, A160, H⟩ := H
       replace H : (some (t106, (x8_1) % 4294967296, 0)) = some (r1, r2, r3) := H
       have A16 := Aside0.mk A160
       clear A160
       simp only [Option.some.injEq, Prod.mk.injEq] at H
       obtain ⟨rfl, rfl, rfl⟩ := H
       obtain ⟨Ao17, co17, eo17⟩ := Kd.rS9 HO_7.out
       subst eo17
       go_wp2_with (first | ((with_reducible refine gC9 (f := 56) rfl ?_); refine goesL_ (some 43) rfl rfl Tryz.func56 (by kernel_rfl) rfl #[.slice Ao17 x7_1.length co17] rfl (by (try simp only [List.map_toArray, List.map_cons, List.map_nil]); first | done | rfl | (simp only [List.length_drop, List.length_take]; rfl)) ?_; (with_reducible refine (nat_Trim.calls _ _ x7_1 t106 _ ?side1 ?side2 A16.out).mono ?_); (case side1 => repeat (first | exact (Kd.rR9 HO_7.out).2.2 | (with_reducible refine Kd.cA9 ?_ _) | (with_reducible refine Kd.cN9 ?_ _) | (with_reducible refine Kd.cD9 ?_))); (case side2 => exact (Kd.rR9 HO_7.out).2.1); rintro e w18 ⟨v107, rfl, ho0, hb⟩; refine ⟨_, rfl, ?_⟩; have n0_ := Aside0.mk (Kd.R_elder' (by (with_reducible repeat (first | apply Kd.rA9 | apply Kd.rN9 | apply Kd.rD9)); exact HO_7.out) (Kd.R_base ho0) hb); have n1_ := Aside0.mk (Kd.rL9 (Kd.R_new' ho0 (Kd.R_lt (by (with_reducible repeat (first | apply Kd.rA9 | apply Kd.rN9 | apply Kd.rD9)); exact HO_7.out))) (bZ9 (by repeat (first | (with_reducible first | exact HB.out | apply bA9 | apply bN9 | apply bD9) | exact HB.out)))); have n2_ := Aside0.mk (bT9 (by repeat (first | (with_reducible first | exact HB.out | apply bA9 | apply bN9 | apply bD9) | exact HB.out)) hb); clear HO_7; clear HB; have HO_7 := n0_; have HO108 := n1_; have HB := n2_; clear n0_ n1_ n2_; (try clear hb); (try clear hb2); (try clear hk); (try clear hi); (try clear ho0)))
       go_ret3
       exact ⟨_, by first | rfl | (simp [eN9, eS9] <;> rfl) | (simp [*, eN9, eS9] <;> rfl), by (with_reducible repeat (first | apply Kd.rA9 | apply Kd.rN9 | apply Kd.rD9)); exact Kd.R_mono HO108.out (fun _ hk => trivial), by repeat (first | (with_reducible first | exact HB.out | apply bA9 | apply bN9 | apply bD9) | exact HB.out)⟩
   ·rw [if_neg c5] at H
    exact absurd H (by simp)
  ·rw [if_neg c4] at H
   exact absurd H (by simp)
mutual
def quo_guess.l0 : Nat → List Int → List Int → Int → Int → Int → Option (Int)
 | 0, _, _, _, _, _ => none
 | k + 1, x0, x1, x5, x7, x8 => if (x7 / 4294967296) > 0 then (quo_guess.j1 k x0 x1 x5 x7 x8 true) else (if 0 ≤ (wrap64 (x5 - 2)) then (if (wrap64 (x5 - 2)) < (x1.length : Int) then (if (wrap64 (x5 - 2)) < (x0.length : Int) then (quo_guess.j1 k x0 x1 x5 x7 x8 (decide ((IntKind.u64.wrap (x7 * (IntKind.u64.wrap (rd x1 (wrap64 (x5 - 2)))))) > (Go.bits .or .u64 (IntKind.u64.wrap (x8 * 4294967296)) (IntKind.u64.wrap (rd x0 (wrap64 (x5 - 2)))))))) else (none)) else (none)) else (none))
def quo_guess.j1 : Nat → List Int → List Int → Int → Int → Int → Bool → Option (Int)
 | 0, _, _, _, _, _, _ => none
 | k + 1, x0, x1, x5, x7, x8, x62 => if x62 = true then (if 0 ≤ (wrap64 (x5 - 1)) then (if (wrap64 (x5 - 1)) < (x1.length : Int) then (if ((IntKind.u64.wrap (x8 + (IntKind.u64.wrap (rd x1 (wrap64 (x5 - 1)))))) / 4294967296) > 0 then (some (IntKind.u64.wrap (x7 - 1))) else (quo_guess.l0 k x0 x1 x5 (IntKind.u64.wrap (x7 - 1)) (IntKind.u64.wrap (x8 + (IntKind.u64.wrap (rd x1 (wrap64 (x5 - 1)))))))) else (none)) else (none)) else (some x7)
end
def quo_guess.f (k : Nat) (l0 : List Int) (l1 : List Int) : Option (Int) := if 0 ≤ (l1.length : Int) then (if (l1.length : Int) < (l0.length : Int) then (if 0 ≤ (wrap64 ((l1.length : Int) - 1)) then (if (wrap64 ((l1.length : Int) - 1)) < (l0.length : Int) then (if (wrap64 ((l1.length : Int) - 1)) < (l1.length : Int) then (if (IntKind.u64.wrap (rd l1 (wrap64 ((l1.length : Int) - 1)))) = 0 then (none) else (quo_guess.l0 k l0 l1 (l1.length : Int) (IntKind.u64.wrap (Int.tdiv (Go.bits .or .u64 (IntKind.u64.wrap ((IntKind.u64.wrap (rd l0 (l1.length : Int))) * 4294967296)) (IntKind.u64.wrap (rd l0 (wrap64 ((l1.length : Int) - 1))))) (IntKind.u64.wrap (rd l1 (wrap64 ((l1.length : Int) - 1)))))) (Int.tmod (Go.bits .or .u64 (IntKind.u64.wrap ((IntKind.u64.wrap (rd l0 (l1.length : Int))) * 4294967296)) (IntKind.u64.wrap (rd l0 (wrap64 ((l1.length : Int) - 1))))) (IntKind.u64.wrap (rd l1 (wrap64 ((l1.length : Int) - 1))))))) else (none)) else (none)) else (none)) else (none)) else (none)
set_option maxHeartbeats 8000000 in
set_option maxRecDepth 100000 in
theorem quo_guess.calls (k : Nat) (A0 : Option Addr) (c0 : Nat) (l0 : List Int) (A1 : Option Addr) (c1 : Nat) (l1 : List Int) (r : Int) (w : World) (hr0 : Kd.C (Kd.int .u32) w A0 l0.length l0) (hc0 : l0.length ≤ c0) (hr1 : Kd.C (Kd.int .u32) w A1 l1.length l1) (hc1 : l1.length ≤ c1) (h : quo_guess.f k l0 l1 = some r) :
  Calls Tryz.prog 141 #[.slice A0 l0.length c0, .slice A1 l1.length c1] w fun e w' => e = .returned (.int .u64 r) ∧ Drawn0 w w' := by
 have HR0 := Aside0.mk hr0
 have HC0 := Aside0.mk hc0
 clear hr0 hc0
 have HR1 := Aside0.mk hr1
 have HC1 := Aside0.mk hc1
 clear hr1 hc1
 have H : (if 0 ≤ (l1.length : Int) then (if (l1.length : Int) < (l0.length : Int) then (if 0 ≤ (wrap64 ((l1.length : Int) - 1)) then (if (wrap64 ((l1.length : Int) - 1)) < (l0.length : Int) then (if (wrap64 ((l1.length : Int) - 1)) < (l1.length : Int) then (if (IntKind.u64.wrap (rd l1 (wrap64 ((l1.length : Int) - 1)))) = 0 then (none) else (quo_guess.l0 k l0 l1 (l1.length : Int) (IntKind.u64.wrap (Int.tdiv (Go.bits .or .u64 (IntKind.u64.wrap ((IntKind.u64.wrap (rd l0 (l1.length : Int))) * 4294967296)) (IntKind.u64.wrap (rd l0 (wrap64 ((l1.length : Int) - 1))))) (IntKind.u64.wrap (rd l1 (wrap64 ((l1.length : Int) - 1)))))) (Int.tmod (Go.bits .or .u64 (IntKind.u64.wrap ((IntKind.u64.wrap (rd l0 (l1.length : Int))) * 4294967296)) (IntKind.u64.wrap (rd l0 (wrap64 ((l1.length : Int) - 1))))) (IntKind.u64.wrap (rd l1 (wrap64 ((l1.length : Int) - 1))))))) else (none)) else (none)) else (none)) else (none)) else (none)) = some r := h
 clear h
 by_cases c3 : 0 ≤ (l1.length : Int)
 ·rw [if_pos c3] at H
  have c3b0 : decide (0 ≤ (l1.length : Int)) = true := decide_eq_true c3
  have c3b1 : decide (0 ≤ l1.length) = true := decide_eq_true (by omega)
  clear c3
  by_cases c4 : (l1.length : Int) < (l0.length : Int)
  ·rw [if_pos c4] at H
   have c4b0 : decide ((l1.length : Int) < (l0.length : Int)) = true := decide_eq_true c4
   have c4b1 : decide (l1.length < l0.length) = true := decide_eq_true (Int.ofNat_lt.mp c4)
   clear c4
   obtain ⟨ji5, hji5⟩ : ∃ j_ : Int, (wrap64 ((l1.length : Int) - 1)) = j_ := ⟨_, rfl⟩
   replace H : (if 0 ≤ (ji5) then (if (ji5) < (l0.length : Int) then (if (ji5) < (l1.length : Int) then (if (IntKind.u64.wrap (rd l1 (ji5))) = 0 then (none) else (quo_guess.l0 k l0 l1 (l1.length : Int) (IntKind.u64.wrap (Int.tdiv (Go.bits .or .u64 (IntKind.u64.wrap ((IntKind.u64.wrap (rd l0 (l1.length : Int))) * 4294967296)) (IntKind.u64.wrap (rd l0 (ji5)))) (IntKind.u64.wrap (rd l1 (ji5))))) (Int.tmod (Go.bits .or .u64 (IntKind.u64.wrap ((IntKind.u64.wrap (rd l0 (l1.length : Int))) * 4294967296)) (IntKind.u64.wrap (rd l0 (ji5)))) (IntKind.u64.wrap (rd l1 (ji5)))))) else (none)) else (none)) else (none)) = some r := by first | (rw [hji5] at H; exact H) | (simp only [hji5] at H ⊢; exact H)
   have hji5w : (IntKind.i64.wrap ((l1.length : Int) - 1)) = ji5 := (i64_w _).trans hji5
   by_cases c6 : 0 ≤ (ji5)
   ·rw [if_pos c6] at H
    have c6b0 : decide (0 ≤ (ji5)) = true := decide_eq_true c6
    clear c6
    by_cases c7 : (ji5) < (l0.length : Int)
    ·rw [if_pos c7] at H
     have c7b0 : decide ((ji5) < (l0.length : Int)) = true := decide_eq_true c7
     clear c7
     by_cases c8 : (ji5) < (l1.length : Int)
     ·rw [if_pos c8] at H
      have c8b0 : decide ((ji5) < (l1.length : Int)) = true := decide_eq_true c8
      clear c8
      by_cases c9 : (IntKind.u64.wrap (rd l1 (ji5))) = 0
      ·rw [if_pos c9] at H
       exact absurd H (by simp)
      ·rw [if_neg c9] at H
       have c9b0 : ((IntKind.u64.wrap (rd l1 (ji5))) == 0) = false := beq_eq_false_iff_ne.mpr c9
       have c9b1 : ((IntKind.u64.wrap (rd l1 (ji5))) != 0) = true := bne_iff_ne.mpr c9
       have H' := Aside0.mk H
       clear H
       have p109 : 0 ≤ ((l1.length : Int) : Int) := of_decide_eq_true (by first | (with_reducible assumption) | assumption)
       have q109 : (l1.length : Int) < (l0.length : Int) := of_decide_eq_true (by first | (with_reducible assumption) | assumption)
       obtain ⟨ad109, e109, hx109_0⟩ := Kd.at_int HR0.out (l1.length : Int) p109 q109
       cases e109
       (try simp only [Go.IntWalk.toNatUp] at hx109_0)
       replace p109 := eq_true p109
       replace q109 := eq_true q109
       have p110 : 0 ≤ ((ji5) : Int) := of_decide_eq_true (by first | (with_reducible assumption) | assumption)
       have q110 : (ji5) < (l0.length : Int) := of_decide_eq_true (by first | (with_reducible assumption) | assumption)
       obtain ⟨ad110, e110, hx110_0⟩ := Kd.at_int HR0.out (ji5) p110 q110
       obtain rfl : ad109 = ad110 := (by injection e110)
       replace p110 := eq_true p110
       replace q110 := eq_true q110
       have p111 : 0 ≤ ((ji5) : Int) := of_decide_eq_true (by first | (with_reducible assumption) | assumption)
       have q111 : (ji5) < (l1.length : Int) := of_decide_eq_true (by first | (with_reducible assumption) | assumption)
       obtain ⟨ad111, e111, hx111_0⟩ := Kd.at_int HR1.out (ji5) p111 q111
       cases e111
       replace p111 := eq_true p111
       replace q111 := eq_true q111
       have p112 : 0 ≤ ((ji5) : Int) := of_decide_eq_true (by first | (with_reducible assumption) | assumption)
       have q112 : (ji5) < (l1.length : Int) := of_decide_eq_true (by first | (with_reducible assumption) | assumption)
       obtain ⟨ad112, e112, hx112_0⟩ := Kd.at_int HR1.out (ji5) p112 q112
       obtain rfl : ad111 = ad112 := (by injection e112)
       replace p112 := eq_true p112
       replace q112 := eq_true q112
       go_enter Tryz.func141, Tryz.ntmps141
       go_wp2_with fail
       try go_step3
       go_wp2
       try (go_step3; go_wp2)
       try (go_step3; go_wp2)
       repeat (go_quiet (fail); try go_wp2)
       try (go_step3; go_wp2)
       try (go_step3; go_wp2)
       go_loopg [7, 8] k (fun kq v7 v8 w' => ∃ (x7_1 : Int) (x8_1 : Int), v7 = .int .u64 x7_1 ∧ v8 = .int .u64 x8_1 ∧ Aside0 (quo_guess.l0 kq l0 l1 (l1.length : Int) x7_1 x8_1 = some r) ∧ Aside0 (kq ≤ k) ∧ Drawn0 w w')
       case atStart => exact ⟨(IntKind.u64.wrap (Int.tdiv (Go.bits .or .u64 (IntKind.u64.wrap ((IntKind.u64.wrap (rd l0 (l1.length : Int))) * 4294967296)) (IntKind.u64.wrap (rd l0 (ji5)))) (IntKind.u64.wrap (rd l1 (ji5))))), (Int.tmod (Go.bits .or .u64 (IntKind.u64.wrap ((IntKind.u64.wrap (rd l0 (l1.length : Int))) * 4294967296)) (IntKind.u64.wrap (rd l0 (ji5)))) (IntKind.u64.wrap (rd l1 (ji5)))), (by first | rfl | (simp; done) | (simp only [← hji5] <;> (first | rfl | simp)) | (simp [*]; done)), (by first | rfl | (simp; done) | (simp only [← hji5] <;> (first | rfl | simp)) | (simp [*]; done)), H', ⟨Nat.le_refl _⟩, by repeat (first | exact Drawn0.refl _ | apply Drawn0.step)⟩
       case round =>
        clear H'
        try clear c1
        try clear p1
        try clear q1
        try clear hx1
        try clear p2
        try clear c3
        try clear c3b0
        try clear c3b1
        try clear c4
        try clear c4b0
        try clear c4b1
        try clear c6
        try clear c6b0
        try clear p6
        try clear c7
        try clear c7b0
        try clear c8
        try clear c8b0
        try clear c9
        try clear c9b0
        try clear c9b1
        try clear hx109_0
        try clear hx110_0
        try clear hx111_0
        try clear hx112_0
        try clear p109
        try clear p110
        try clear p111
        try clear p112
        try clear q109
        try clear q110
        try clear q111
        try clear q112
        obtain ⟨x7_1, x8_1, rfl, rfl, HA, HK1, ⟨m1, rfl⟩⟩ := hrel
        cases gk with
        | zero => exact absurd HA.out (by simp [quo_guess.l0])
        | succ k1 =>
         have H := HA.out
         clear HA
         simp only [quo_guess.l0] at H
         have HC10 := Aside0.mk H
         clear H
         go_upto_region 4 with (fail)
         repeat (go_quiet (fail); go_upto_region 4 with (fail))
         go_cut [62] (fun v62 wc => ∃ (kq : Nat) (x62_9 : Bool), v62 = .bool x62_9 ∧ Aside0 (quo_guess.j1 kq l0 l1 (l1.length : Int) x7_1 x8_1 x62_9 = some r) ∧ Aside0 (kq ≤ k1) ∧ Drawn0 w wc)
         case first =>
          have H := HC10.out
          clear HC10
          by_cases c11 : (x7_1 / 4294967296) > 0
          ·rw [if_pos c11] at H
           have c11b0 : decide (0 < (x7_1 / 4294967296)) = true := decide_eq_true c11
           clear c11
           (first | rw [c11b0] | (simp only [i64_w, i32_w]; rw [c11b0]) | skip)
           have H' := Aside0.mk H
           clear H
           go_wp2
           try (go_step3; go_wp2)
           try (go_step3; go_wp2)
           repeat (go_quiet (fail); try go_wp2)
           try (go_step3; go_wp2)
           try (go_step3; go_wp2)
           go_meet
           case rel => exact ⟨_, (true), (by first | rfl | (simp; done) | (simp [*]; done)), H', ⟨by have := HK1.out; first | omega | exact Nat.le_refl _⟩, by repeat (first | exact Drawn0.refl _ | apply Drawn0.step)⟩
          ·rw [if_neg c11] at H
           have c11b0 : decide (0 < (x7_1 / 4294967296)) = false := decide_eq_false c11
           clear c11
           (first | rw [c11b0] | (simp only [i64_w, i32_w]; rw [c11b0]) | skip)
           obtain ⟨ji12, hji12⟩ : ∃ j_ : Int, (wrap64 ((l1.length : Int) - 2)) = j_ := ⟨_, rfl⟩
           replace H : (if 0 ≤ (ji12) then (if (ji12) < (l1.length : Int) then (if (ji12) < (l0.length : Int) then (quo_guess.j1 k1 l0 l1 (l1.length : Int) x7_1 x8_1 (decide ((IntKind.u64.wrap (x7_1 * (IntKind.u64.wrap (rd l1 (ji12))))) > (Go.bits .or .u64 (IntKind.u64.wrap (x8_1 * 4294967296)) (IntKind.u64.wrap (rd l0 (ji12))))))) else (none)) else (none)) else (none)) = some r := by first | (rw [hji12] at H; exact H) | (simp only [hji12] at H ⊢; exact H)
           have hji12w : (IntKind.i64.wrap ((l1.length : Int) - 2)) = ji12 := (i64_w _).trans hji12
           by_cases c13 : 0 ≤ (ji12)
           ·rw [if_pos c13] at H
            have c13b0 : decide (0 ≤ (ji12)) = true := decide_eq_true c13
            clear c13
            by_cases c14 : (ji12) < (l1.length : Int)
            ·rw [if_pos c14] at H
             have c14b0 : decide ((ji12) < (l1.length : Int)) = true := decide_eq_true c14
             clear c14
             by_cases c15 : (ji12) < (l0.length : Int)
             ·rw [if_pos c15] at H
              have c15b0 : decide ((ji12) < (l0.length : Int)) = true := decide_eq_true c15
              clear c15
              have H' := Aside0.mk H
              clear H
              have p113 : 0 ≤ ((ji12) : Int) := of_decide_eq_true (by first | (with_reducible assumption) | assumption)
              have q113 : (ji12) < (l1.length : Int) := of_decide_eq_true (by first | (with_reducible assumption) | assumption)
              obtain ⟨ad113, e113, hx113_0⟩ := Kd.at_int HR1.out (ji12) p113 q113
              obtain rfl : ad111 = ad113 := (by injection e113)
              replace p113 := eq_true p113
              replace q113 := eq_true q113
              have p114 : 0 ≤ ((ji12) : Int) := of_decide_eq_true (by first | (with_reducible assumption) | assumption)
              have q114 : (ji12) < (l0.length : Int) := of_decide_eq_true (by first | (with_reducible assumption) | assumption)
              obtain ⟨ad114, e114, hx114_0⟩ := Kd.at_int HR0.out (ji12) p114 q114
              obtain rfl : ad109 = ad114 := (by injection e114)
              replace p114 := eq_true p114
              replace q114 := eq_true q114
              go_wp2
              try (go_step3; go_wp2)
              try (go_step3; go_wp2)
              repeat (go_quiet (fail); try go_wp2)
              try (go_step3; go_wp2)
              try (go_step3; go_wp2)
              go_meet
              case rel => exact ⟨_, (decide ((IntKind.u64.wrap (x7_1 * (IntKind.u64.wrap (rd l1 (ji12))))) > (Go.bits .or .u64 (IntKind.u64.wrap (x8_1 * 4294967296)) (IntKind.u64.wrap (rd l0 (ji12)))))), (by first | rfl | (simp; done) | (simp only [← hji12] <;> (first | rfl | simp)) | (simp [*]; done)), H', ⟨by have := HK1.out; first | omega | exact Nat.le_refl _⟩, by repeat (first | exact Drawn0.refl _ | apply Drawn0.step)⟩
             ·rw [if_neg c15] at H
              exact absurd H (by simp)
            ·rw [if_neg c14] at H
             exact absurd H (by simp)
           ·rw [if_neg c13] at H
            exact absurd H (by simp)
         case rest =>
          clear HC10
          try clear c1
          try clear p1
          try clear q1
          try clear hx1
          try clear p2
          try clear c3
          try clear c3b0
          try clear c3b1
          try clear c4
          try clear c4b0
          try clear c4b1
          try clear c6
          try clear c6b0
          try clear p6
          try clear c7
          try clear c7b0
          try clear c8
          try clear c8b0
          try clear c9
          try clear c9b0
          try clear c9b1
          try clear p10
          try clear q10
          try clear hx10
          try clear c11
          try clear c11b0
          try clear p11
          try clear q11
          try clear hx11
          try clear c13
          try clear c13b0
          try clear c14
          try clear c14b0
          try clear c15
          try clear c15b0
          try clear hx109_0
          try clear hx110_0
          try clear hx111_0
          try clear hx112_0
          try clear hx113_0
          try clear hx114_0
          try clear p1
          try clear p109
          try clear p110
          try clear p111
          try clear p112
          try clear p113
          try clear p114
          try clear p2
          try clear p6
          try clear q1
          try clear q109
          try clear q110
          try clear q111
          try clear q112
          try clear q113
          try clear q114
          obtain ⟨kq, x62_9, rfl, HA, HJ9, ⟨mc9, rfl⟩⟩ := hcut
          cases kq with
          | zero => exact absurd HA.out (by simp [quo_guess.j1])
          | succ kj9 =>
           have H := HA.out
           clear HA
           simp only [quo_guess.j1] at H
           by_cases c16 : x62_9 = true
           ·subst c16
            have H1 : (if 0 ≤ (wrap64 ((l1.length : Int) - 1)) then (if (wrap64 ((l1.length : Int) - 1)) < (l1.length : Int) then (if ((IntKind.u64.wrap (x8_1 + (IntKind.u64.wrap (rd l1 (wrap64 ((l1.length : Int) - 1)))))) / 4294967296) > 0 then (some (IntKind.u64.wrap (x7_1 - 1))) else (quo_guess.l0 kj9 l0 l1 (l1.length : Int) (IntKind.u64.wrap (x7_1 - 1)) (IntKind.u64.wrap (x8_1 + (IntKind.u64.wrap (rd l1 (wrap64 ((l1.length : Int) - 1)))))))) else (none)) else (none)) = some r := by rw [if_pos rfl] at H; exact H
            clear H
            have H := H1
            clear H1
            obtain ⟨ji17, hji17⟩ : ∃ j_ : Int, (wrap64 ((l1.length : Int) - 1)) = j_ := ⟨_, rfl⟩
            replace H : (if 0 ≤ (ji17) then (if (ji17) < (l1.length : Int) then (if ((IntKind.u64.wrap (x8_1 + (IntKind.u64.wrap (rd l1 (ji17))))) / 4294967296) > 0 then (some (IntKind.u64.wrap (x7_1 - 1))) else (quo_guess.l0 kj9 l0 l1 (l1.length : Int) (IntKind.u64.wrap (x7_1 - 1)) (IntKind.u64.wrap (x8_1 + (IntKind.u64.wrap (rd l1 (ji17))))))) else (none)) else (none)) = some r := by first | (rw [hji17] at H; exact H) | (simp only [hji17] at H ⊢; exact H)
            have hji17w : (IntKind.i64.wrap ((l1.length : Int) - 1)) = ji17 := (i64_w _).trans hji17
            try clear hji5w
            by_cases c18 : 0 ≤ (ji17)
            ·rw [if_pos c18] at H
             have c18b0 : decide (0 ≤ (ji17)) = true := decide_eq_true c18
             clear c18
             by_cases c19 : (ji17) < (l1.length : Int)
             ·rw [if_pos c19] at H
              have c19b0 : decide ((ji17) < (l1.length : Int)) = true := decide_eq_true c19
              clear c19
              by_cases c20 : ((IntKind.u64.wrap (x8_1 + (IntKind.u64.wrap (rd l1 (ji17))))) / 4294967296) > 0
              ·rw [if_pos c20] at H
               have c20b0 : decide (0 < ((IntKind.u64.wrap (x8_1 + (IntKind.u64.wrap (rd l1 (ji17))))) / 4294967296)) = true := decide_eq_true c20
               clear c20
               obtain rfl := Option.some.inj H
               have p115 : 0 ≤ ((ji17) : Int) := of_decide_eq_true (by first | (with_reducible assumption) | assumption)
               have q115 : (ji17) < (l1.length : Int) := of_decide_eq_true (by first | (with_reducible assumption) | assumption)
               obtain ⟨ad115, e115, hx115_0⟩ := Kd.at_int HR1.out (ji17) p115 q115
               obtain rfl : ad111 = ad115 := (by injection e115)
               replace p115 := eq_true p115
               replace q115 := eq_true q115
               go_wp2
               try (go_step3; go_wp2)
               try (go_step3; go_wp2)
               repeat (go_quiet (fail); try go_wp2)
               try (go_step3; go_wp2)
               try (go_step3; go_wp2)
               try rw [Exit.noGoto_ret]
               go_ret
               exact ⟨by first | rfl | (simp; done) | (simp only [← hji5, ← hji17] <;> (first | rfl | simp)) | (simp [*]; done), by repeat (first | exact Drawn0.refl _ | apply Drawn0.step)⟩
              ·rw [if_neg c20] at H
               have c20b0 : decide (0 < ((IntKind.u64.wrap (x8_1 + (IntKind.u64.wrap (rd l1 (ji17))))) / 4294967296)) = false := decide_eq_false c20
               clear c20
               have H' := Aside0.mk H
               clear H
               have p115 : 0 ≤ ((ji17) : Int) := of_decide_eq_true (by first | (with_reducible assumption) | assumption)
               have q115 : (ji17) < (l1.length : Int) := of_decide_eq_true (by first | (with_reducible assumption) | assumption)
               obtain ⟨ad115, e115, hx115_0⟩ := Kd.at_int HR1.out (ji17) p115 q115
               obtain rfl : ad111 = ad115 := (by injection e115)
               replace p115 := eq_true p115
               replace q115 := eq_true q115
               go_wp2
               try (go_step3; go_wp2)
               try (go_step3; go_wp2)
               repeat (go_quiet (fail); try go_wp2)
               try (go_step3; go_wp2)
               try (go_step3; go_wp2)
               go_roundg kj9
               case measure => have := HK1.out; have := HJ9.out; omega
               case rel => exact ⟨(IntKind.u64.wrap (x7_1 - 1)), (IntKind.u64.wrap (x8_1 + (IntKind.u64.wrap (rd l1 (ji17))))), (by first | rfl | (simp; done) | (simp [*]; done)), (by first | rfl | (simp; done) | (simp only [← hji17] <;> (first | rfl | simp)) | (simp [*]; done)), H', ⟨by have := HK1.out; have := HJ9.out; omega⟩, by repeat (first | exact Drawn0.refl _ | apply Drawn0.step)⟩
             ·rw [if_neg c19] at H
              exact absurd H (by simp)
            ·rw [if_neg c18] at H
             exact absurd H (by simp)
           ·replace c16 := Bool.eq_false_iff.mpr c16
            subst c16
            have H1 : (some x7_1) = some r := by rw [if_neg (show ¬ (false = true) by decide)] at H; exact H
            clear H
            have H := H1
            clear H1
            obtain rfl := Option.some.inj H
            go_wp2
            try (go_step3; go_wp2)
            try (go_step3; go_wp2)
            repeat (go_quiet (fail); try go_wp2)
            try (go_step3; go_wp2)
            try (go_step3; go_wp2)
            try rw [Exit.noGoto_ret]
            go_ret
            exact ⟨by first | rfl | (simp; done) | (simp only [← hji5] <;> (first | rfl | simp)) | (simp [*]; done), by repeat (first | exact Drawn0.refl _ | apply Drawn0.step)⟩
     ·rw [if_neg c8] at H
      exact absurd H (by simp)
    ·rw [if_neg c7] at H
     exact absurd H (by simp)
   ·rw [if_neg c6] at H
    exact absurd H (by simp)
  ·rw [if_neg c4] at H
   exact absurd H (by simp)
 ·rw [if_neg c3] at H
  exact absurd H (by simp)
end Go.Proofs.YtibaoacjjcgjlaaGreatDoor.Print

namespace Go.Proofs.YtibaoacjjcgjlaaGreatDoor.Print
open Go.RowKit Go.Proofs.YtibaoacjjcgjlaaGreatDoorW.PrintWords Go.Proofs.YtibaoacjjcgjlaaGreatDoorW.PrintLast Go.Proofs.YtibaoacjjcgjlaaGreatDoorW.PrintMore Go.Proofs.YtibaoacjjcgjlaaGreatDoor.Base
set_option linter.unusedVariables false
set_option linter.unusedSimpArgs false
theorem boxed_far {W : World} {B : Nat} {t : TypeId} {v : Value} (h : Boxed W B t v) {p : Addr} (hp : B ≠ p.block) (u : Value) : Boxed (W.setCell p u) B t v := blk_far h hp u
theorem infoU32 : (Tryz.prog.info? 88).map (fun i => (i.zero, i.size, i.bytes)) = some (some (.int .u32 0), 1, 4) := by kernel_rfl
set_option maxRecDepth 100000 in
set_option maxHeartbeats 4000000 in
theorem put_calls (n0 Bo Bc : Nat) (x c : Nat) (hx : x < 18446744073709551616) (v : Value) (xs : List Int) (W : World) (hv : Boxed W Bo 29 v) (hrow : W.ownsRow n0 88 1 v xs.length (xs.map (Value.int .u32)))
    (hc : Boxed W Bc 62 (.int .u64 (c : Int))) (hBo : n0 ≤ Bo) (hBc : n0 ≤ Bc) (hn0 : n0 ≤ W.heap.size) (hne : Bo ≠ Bc) (hl : xs.length ≤ 1073741824) :
    Calls Tryz.prog 102 #[.int .u64 (x : Int), .pointer (some ⟨Bo, 0, none⟩), .pointer (some ⟨Bc, 0, none⟩)] W fun e W' => e = .returned (.tuple #[]) ∧ ∃ v', Boxed W' Bo 29 v' ∧
      W'.ownsRow n0 88 1 v' (xs ++ [((x % 4294967296 : Nat) : Int)]).length ((xs ++ [((x % 4294967296 : Nat) : Int)]).map (Value.int .u32)) ∧ Boxed W' Bc 62 (.int .u64 ((x / 4294967296 : Nat) : Int)) ∧ Below n0 W W' := by
  obtain ⟨i0, hi, hz0, hz1, hz2⟩ := info_parts infoU32
  have h1 := hv.cell
  have h2 := hv.frozen
  have h3 := hc.cell
  have h4 := hc.frozen
  go_enter Tryz.func102, Tryz.ntmps102
  have ex : IntKind.u32.wrap (x : Int) = ((x % 4294967296 : Nat) : Int) := by rw [IntKind.wrap_u32']; omega
  have hw : (Lit.int .u32 ((x % 4294967296 : Nat) : Int)).wf = true := by
    have := Nat.mod_lt x (show 0 < 4294967296 by decide)
    exact WalkArith.wf_u32 ⟨by omega, by omega⟩
  generalize hy : ((x % 4294967296 : Nat) : Int) = y at ex hw ⊢
  go_wp2_with (at_builtin; refine wpList_append_own _ rfl _ _ 29 rfl n0 88 i0 (.int .u32 0) 1 4 Tryz.underlying29 hi hz0 hz1 hz2 rfl (by decide) _ _ _ rfl (hrow.alloc _) ⟨W.heap.size, 0, none⟩ 1 1 [.int .u32 y] rfl rfl (cell_one_new _ _ _) (by simp [Value.oneCell']) (by unfold maxLen; omega) (by omega) (by simp; omega) ?_; intro v' w1 hown' hgrow _; obtain ⟨g', cap', rfl⟩ := ownsRow_succ hown'; obtain ⟨hv1, hv2, hr2, hk2, hb2⟩ := hv.appended (by decide) hrow hn0 hBo hown' hgrow; have hc1 := hv1.cell; have hf1 := hv1.frozen; have hcb := boxed_far (p := ⟨Bo, 0, none⟩) ((hc.alloc _).kept hgrow (hc.not_row (by decide) hrow)) (show Bc ≠ Bo from hne.symm) (.slice (some ⟨g', 0, none⟩) (xs.length + 1) cap'); have hc2 := hcb.cell; have hf2 := hcb.frozen)
  go_end0
  refine ⟨rfl, _, boxed_far hv2 hne _, ?_, ?_, hb2.setCell (p := ⟨Bc, 0, none⟩) hBc _⟩
  · have h := hr2.kept (grownBy_setCell' _ Bc (.int .u64 ((x / 4294967296 : Nat) : Int))) (.inr (hcb.not_row (by decide) hr2).symm)
    simpa using h
  · exact hcb.set _
def KeptFrom (base : Nat) (W W' : World) : Prop := W.heap.size ≤ W'.heap.size ∧ ∀ k, base ≤ k → k < W.heap.size → W'.heap[k]? = W.heap[k]?
theorem KeptFrom.boxed {base : Nat} {W W' : World} (h : KeptFrom base W W') {B : Nat} {t : TypeId} {v : Value} (hb : base ≤ B) (hB : Boxed W B t v) : Boxed W' B t v := (h.2 B hb hB.lt).trans hB
theorem KeptFrom.own {base : Nat} {W W' : World} (h : KeptFrom base W W') {n0 n size : Nat} {e : TypeId} {v : Value} {xs : List Value} (hb : base ≤ n0) (hr : W.ownsRow n0 e size v n xs) : W'.ownsRow n0 e size v n xs :=
  own_move hr fun k hk => h.2 k (Nat.le_trans hb (own_base hr k hk)) (own_lt hr k hk)
structure AtOk (g : Nat) (lb : Array Value) (n base : Nat) (f : Nat → Nat) (J : Nat → World → Prop) : Prop where
  eg : ∀ args w, (callFunc g args).run Tryz.prog w = .ok (.enter g args) w
  call : ∀ i W, i < n → J i W → base ≤ W.heap.size → Calls Tryz.prog g (#[.int .i64 (i : Int)] ++ lb) W fun e W' => e = .returned (.int .u64 ((f i : Nat) : Int)) ∧ J (i + 1) W' ∧ KeptFrom base W W'
  keep : ∀ i W W', J i W → Below base W W' → J i W'
  small : ∀ i, f i ≤ 4 * (4294967296 - 1)
theorem putB_step (f : Nat → Nat) (i : Nat) : (putB 4294967296 f (i + 1)).1 = (putB 4294967296 f i).1 ++ [(((f i + (putB 4294967296 f i).2) % 4294967296 : Nat) : Int)] ∧ (putB 4294967296 f (i + 1)).2 = (f i + (putB 4294967296 f i).2) / 4294967296 := ⟨rfl, rfl⟩
set_option maxRecDepth 100000 in
set_option maxHeartbeats 16000000 in
theorem gather_calls (g : Nat) (lb : Array Value) (n : Nat) (f : Nat → Nat) (J : Nat → World → Prop) (w : World) (hat : AtOk g lb n w.heap.size f J) (hJ : J 0 w) (hn : n ≤ 4194304) :
    Calls Tryz.prog 65 #[.int .i64 (n : Int), .func (.func g) #[] lb] w fun e W' => ∃ v, e = .returned v ∧ Kd.R (Kd.int .u32) 88 W' w.heap.size (fun _ => True) v (digB 4294967296 (sumB 4294967296 f n)) ∧ J n W' := by
  have eg := hat.eg
  have HAT := Aside0.mk hat
  have HJ := Aside0.mk hJ
  have HN := Aside0.mk hn
  clear hat hJ hn
  go_enter Tryz.func65, Tryz.ntmps65
  go_wp2
  go_loopw [11] (fun v11 wr => ∃ i : Nat, i ≤ n ∧ v11 = .int .i64 (i : Int) ∧ Aside0 (J i wr) ∧ Aside0 (w.heap.size + 1 < wr.heap.size) ∧ Aside0 (∃ v, Boxed wr w.heap.size 29 v ∧ wr.ownsRow w.heap.size 88 1 v (putB 4294967296 f i).1.length ((putB 4294967296 f i).1.map (Value.int .u32))) ∧ Aside0 (Boxed wr (w.heap.size + 1) 62 (.int .u64 ((putB 4294967296 f i).2 : Int)))) (fun v11 _ => n - (intOf v11).toNat)
  case atStart =>
    have bO := Boxed.new w 29 (.slice none 0 0)
    have bC := Boxed.new (w.alloc (.cells #[.slice none 0 0] 29)) 62 (.int .u64 0)
    rw [World.size_alloc] at bC
    refine ⟨0, Nat.zero_le _, rfl, ⟨?_⟩, ⟨?_⟩, ⟨_, ?_, World.ownsRow_nil _ _ _ _⟩, ⟨?_⟩⟩
    · exact HAT.out.keep _ _ _ HJ.out (by repeat (first | exact Below.refl _ _ | apply bA9))
    · simp
    · exact bO.alloc _
    · exact bC
  case round =>
    obtain ⟨i, hi, rfl, HJi, HS, HV, HC⟩ := hrel
    by_cases hlt : i < n
    · have hd : decide ((i : Int) < (n : Int)) = true := decide_eq_true (by omega)
      have hcc := HC.out.cell
      obtain ⟨v, hv, hrow⟩ := HV.out
      have hcall := fun W hJ hs => HAT.out.call i W hlt hJ hs
      obtain ⟨c, hc⟩ : ∃ c, (putB 4294967296 f i).2 = c := ⟨_, rfl⟩
      obtain ⟨xs, hxs⟩ : ∃ xs, (putB 4294967296 f i).1 = xs := ⟨_, rfl⟩
      obtain ⟨x, hx⟩ : ∃ x, f i + c = x := ⟨_, rfl⟩
      have hc4 : c ≤ 4 := by rw [← hc]; exact putB_carry (by decide) HAT.out.small i
      have hfi := HAT.out.small i
      have hw : IntKind.u64.wrap ((f i : Int) + (c : Int)) = (x : Int) := by rw [IntKind.wrap_u64]; omega
      have hxl : xs.length ≤ 1073741824 := by rw [← hxs, putB_len]; have := HN.out; omega
      have hBC := HC.out
      rw [hc] at hBC hcc
      rw [hxs] at hrow
      have BV := Aside0.mk hv
      have BC := Aside0.mk hBC
      have ROW := Aside0.mk hrow
      have PUT := Aside0.mk (put_calls w.heap.size w.heap.size (w.heap.size + 1) x c (by omega) v xs)
      clear hv hBC hrow hfi
      go_wp2_with fail
      go_region_with (first | (go_at_fn g; refine (hcall _ ?_ ?_).mono ?_; (exact HAT.out.keep _ _ _ HJi.out (by repeat (first | exact Below.refl _ _ | apply bD9 | apply bN9))); (have := HS.out; simp; omega); rintro e W1 ⟨rfl, hJ1, hk1⟩; have hcW := (hk1.boxed (Nat.le_succ _) BC.out).cell) | (go_at_call 102; refine (PUT.out _ (hk1.boxed (Nat.le_refl _) BV.out) (hk1.own (Nat.le_refl _) ROW.out) (hk1.boxed (Nat.le_succ _) BC.out) (Nat.le_refl _) (Nat.le_succ _) ?_ (by omega) hxl).mono ?_; (have := HS.out; have := hk1.1; simp at *; omega); rintro e W2 ⟨rfl, v2, hv2, hr2, hc2, hb2⟩))
      all_goals
        go_wp2
        go_roundw
        case rel => exact ⟨i + 1, by omega, by (have := HN.out; rw [show wrap64 ((i : Int) + 1) = (i : Int) + 1 from (by unfold wrap64; omega)]; rfl), ⟨HAT.out.keep _ _ _ hJ1 hb2⟩, ⟨by have := HS.out; have := hk1.1; have := hb2.size; simp at *; omega⟩, ⟨v2, hv2, by rw [(putB_step f i).1, hc, hx, hxs]; exact hr2⟩, ⟨by rw [(putB_step f i).2, hc, hx]; exact hc2⟩⟩
        case measure => have := HN.out; rw [show wrap64 ((i : Int) + 1) = (i : Int) + 1 from (by unfold wrap64; omega)]; simp [intOf]; omega
    · obtain rfl : i = n := by omega
      have hd : decide ((i : Int) < (i : Int)) = false := decide_eq_false (by omega)
      obtain ⟨c, hc⟩ : ∃ c, (putB 4294967296 f i).2 = c := ⟨_, rfl⟩
      obtain ⟨xs, hxs⟩ : ∃ xs, (putB 4294967296 f i).1 = xs := ⟨_, rfl⟩
      have hc4 : c ≤ 4 := by rw [← hc]; exact putB_carry (by decide) HAT.out.small i
      have HX := Aside0.mk (show xs.length ≤ 4194304 by rw [← hxs, putB_len]; exact HN.out)
      rw [hxs] at HV
      rw [hc] at HC
      go_wp2
      go_loopg [] 2 (fun kq w' => ∃ (t : List Int) (c2 : Nat), Aside0 (DigB 4294967296 t ∧ valB 4294967296 t + 4294967296 ^ t.length * c2 = c ∧ t.length ≤ 1 ∧ c2 ≤ 4 ∧ kq ≠ 0 ∧ (kq ≤ 1 → c2 = 0) ∧ (2 ≤ kq → t = []) ∧ kq ≤ 2) ∧ Aside0 (J i w') ∧ Aside0 (w.heap.size + 1 < w'.heap.size) ∧ Aside0 (∃ v, Boxed w' w.heap.size 29 v ∧ w'.ownsRow w.heap.size 88 1 v (xs ++ t).length ((xs ++ t).map (Value.int .u32))) ∧ Aside0 (Boxed w' (w.heap.size + 1) 62 (.int .u64 (c2 : Int))))
      case atStart => exact ⟨[], c, ⟨DigB.nil _, by simp [valB], by simp, hc4, by decide, fun h => absurd h (by decide), fun _ => rfl, Nat.le_refl _⟩, HJi, HS, ⟨by simpa using HV.out⟩, HC⟩
      case round =>
        obtain ⟨t, c2, HT, HJ2, HS2, HV2, HC2⟩ := hrel
        have hcc := HC2.out.cell
        by_cases h0 : 0 < c2
        · have hd0 : decide (0 < (c2 : Int)) = true := decide_eq_true (by omega)
          obtain ⟨v, hv, hrow⟩ := HV2.out
          have PUT := Aside0.mk (put_calls w.heap.size w.heap.size (w.heap.size + 1) c2 c2 (by have := HT.out.2.2.2.1; omega) v (xs ++ t) wr hv hrow HC2.out (Nat.le_refl _) (Nat.le_succ _) (by have := HS2.out; omega) (by omega) (by have := HX.out; have := HT.out.2.2.1; simp; omega))
          clear hv hrow
          cases gk with
          | zero => exact absurd rfl HT.out.2.2.2.2.1
          | succ k1 =>
            have hk : 1 ≤ k1 := by
              rcases Nat.lt_or_ge k1 1 with h | h
              · have := HT.out.2.2.2.2.2.1 (by omega); omega
              · exact h
            obtain rfl := HT.out.2.2.2.2.2.2.1 (by omega)
            obtain rfl : c2 = c := by have := HT.out.2.1; simpa [valB] using this
            have e1 : c2 % 4294967296 = c2 := Nat.mod_eq_of_lt (by omega)
            have e2 : c2 / 4294967296 = 0 := Nat.div_eq_of_lt (by omega)
            have E1 := Aside0.mk e1
            have E2 := Aside0.mk e2
            clear e1 e2
            go_wp2_with (go_at_call 102; refine PUT.out.mono ?_; rintro e W2 ⟨rfl, v2, hv2, hr2, hc2, hb2⟩; have R2 := Aside0.mk hr2; have V2 := Aside0.mk hv2; have C2 := Aside0.mk hc2; have B2 := Aside0.mk hb2; clear hr2 hv2 hc2 hb2)
            go_roundg k1
            case measure => omega
            case rel =>
              refine ⟨[(c2 : Int)], 0, ⟨DigB.cons (by omega) (by omega) (DigB.nil _), by simp [valB], by simp, by omega, by omega, fun _ => rfl, fun h => ?_, ?_⟩, ⟨HAT.out.keep _ _ _ HJ2.out B2.out⟩, ⟨Nat.lt_of_lt_of_le HS2.out B2.out.size⟩, ⟨v2, V2.out, ?_⟩, ⟨?_⟩⟩
              · have := HT.out.2.2.2.2.2.2.2; omega
              · have := HT.out.2.2.2.2.2.2.2; omega
              · have h := R2.out
                rw [E1.out] at h
                simpa using h
              · have h := C2.out
                rw [E2.out] at h
                exact h
        · obtain rfl : c2 = 0 := by omega
          have hd0 : decide (0 < ((0 : Nat) : Int)) = false := decide_eq_false (by omega)
          obtain ⟨v, hv, hrow⟩ := HV2.out
          have hR : Kd.R (Kd.int .u32) 88 wr w.heap.size (fun _ => True) v (xs ++ t) := Kd.R_of_own hrow (fun _ _ => trivial)
          obtain ⟨A, c0, rfl, hle, hC⟩ := Kd.R_reads hR
          have hvc := hv.cell
          have hvf := hv.frozen
          have hTl : (xs ++ t).length ≤ 4194305 := by have := HX.out; have := HT.out.2.2.1; simp; omega
          have ht2 : (trimL (xs ++ t)).length ≤ (xs ++ t).length := by have h := congrArg List.length (trimL_take (xs ++ t)); rw [List.length_take] at h; omega
          have TL := Aside0.mk hTl
          have RR := Aside0.mk hR
          have TOP := fun W h => top_calls A c0 (xs ++ t) W h hle (by omega)
          have CC := Aside0.mk hC
          clear hrow hv hC hR
          obtain ⟨m, hm⟩ : ∃ m, (trimL (xs ++ t)).length = m := ⟨_, rfl⟩
          obtain ⟨L, hL⟩ : ∃ L, (xs ++ t).length = L := ⟨_, rfl⟩
          rw [hm] at TOP ht2
          rw [hL] at TOP ht2 hvc hle hTl
          have LL := Aside0.mk hL
          have MM := Aside0.mk hm
          have p1 : (0 : Int) ≤ (m : Int) := by omega
          have p2 : (m : Int) ≤ (c0 : Int) := by omega
          have p3 : (m : Int) ≤ (L : Int) := by omega
          rw [hL] at CC
          clear hL hm
          go_wp2
          go_region_held3 (fun w' => w'.cell? ⟨w.heap.size, 0, none⟩ = some (.slice A L c0)) (first | assumption | go_keep) (first | (go_at_call 93; refine (TOP _ ?_).mono ?_; (repeat (first | (with_reducible exact CC.out) | (with_reducible refine Kd.cN9 ?_ _) | (with_reducible refine Kd.cD9 ?_))); rintro e w' ⟨rfl, ⟨q, rfl⟩⟩))
          all_goals
            go_wp2
            go_ret
            have hb : ∀ q, Below w.heap.size wr (wr.drewN q) := fun q => bN9 (Below.refl _ _) q
            refine ⟨_, rfl, ?_, HAT.out.keep _ _ _ HJ2.out (by repeat (first | exact Below.refl _ _ | apply bD9 | apply bN9))⟩
            have hv : valB 4294967296 t = (putB 4294967296 f i).2 := by have := HT.out.2.1; rw [hc]; simpa using this
            have hg := gathered (B := 4294967296) (by decide) (f := f) (n := i) HT.out.1 hv
            rw [hxs] at hg
            rw [← hg, trimL_take, MM.out]
            have hR := RR.out
            rw [LL.out] at hR
            repeat (first | (with_reducible refine Kd.rN9 ?_ _) | (with_reducible refine Kd.rD9 ?_))
            exact Kd.R_take hR (by rw [LL.out]; omega)
end Go.Proofs.YtibaoacjjcgjlaaGreatDoor.Print

namespace Go.Proofs.YtibaoacjjcgjlaaGreatDoor.Print
open Go.RowKit Go.Proofs.YtibaoacjjcgjlaaGreatDoorW.PrintWords Go.Proofs.YtibaoacjjcgjlaaGreatDoorW.PrintLast Go.Proofs.YtibaoacjjcgjlaaGreatDoorW.PrintMore Go.Proofs.YtibaoacjjcgjlaaGreatDoor.Base
attribute [local go_sem] max2_int min2_int max_two min_two   -- for this text's walks alone
set_option linter.unusedVariables false
set_option linter.unusedSimpArgs false
theorem keptFrom_drewN (base : Nat) (W : World) (q : Nat) : KeptFrom base W (W.drewN q) := ⟨Nat.le_refl _, fun _ _ _ => rfl⟩
theorem atOk_quiet (g : Nat) (lb : Array Value) (n : Nat) (f : Nat → Nat) (w0 w : World) (h0 : Below w0.heap.size w0 w) (eg : ∀ args w, (callFunc g args).run Tryz.prog w = .ok (.enter g args) w)
    (hc : ∀ i W, i < n → Below w.heap.size w W → Calls Tryz.prog g (#[.int .i64 (i : Int)] ++ lb) W fun e W' => e = .returned (.int .u64 ((f i : Nat) : Int)) ∧ Drawn0 W W') (hs : ∀ i, f i ≤ 4 * (4294967296 - 1)) :
    AtOk g lb n w.heap.size f (fun _ W => Below w.heap.size w W) where
  eg := eg
  call := fun i W hi hJ _ => (hc i W hi hJ).mono fun e W' ⟨he, ⟨q, hq⟩⟩ => ⟨he, by rw [hq]; exact bN9 hJ q, by rw [hq]; exact keptFrom_drewN _ _ _⟩
  keep := fun _ _ _ hJ hb => hJ.trans hb
  small := hs
theorem and_mask (a : Nat) (h : a < 18446744073709551616) : bits .and .u64 (a : Int) 4294967295 = ((a % 4294967296 : Nat) : Int) := by
  have h1 := u64_and_nat a 4294967295 h (by decide)
  rw [Nat.and_two_pow_sub_one_eq_mod a 32] at h1
  exact h1
def ofF (a i : Nat) : Nat := if i = 0 then a % 4294967296 else if i = 1 then a / 4294967296 else 0
theorem ofF_sum (a : Nat) (h : a < 18446744073709551616) : sumB 4294967296 (ofF a) 2 = a := by
  simp only [sumB, ofF]
  simp
  omega
theorem ofF_small (a : Nat) (h : a < 18446744073709551616) (i : Nat) : ofF a i ≤ 4 * (4294967296 - 1) := by
  unfold ofF
  split
  · omega
  · split
    · omega
    · omega
set_option maxRecDepth 100000 in
set_option maxHeartbeats 2000000 in
theorem of1_calls (a i : Nat) (ha : a < 18446744073709551616) (hi : i < 2) (B : Nat) (W : World) (hb : Boxed W B 62 (.int .u64 (a : Int))) :
    Calls Tryz.prog 66 #[.int .i64 (i : Int), .pointer (some ⟨B, 0, none⟩)] W fun e W' => e = .returned (.int .u64 ((ofF a i : Nat) : Int)) ∧ Drawn0 W W' := by
  have h1 := hb.cell
  rcases (by omega : i = 0 ∨ i = 1) with rfl | rfl
  · go_enter Tryz.func66, Tryz.ntmps66
    go_wp2
    go_ret
    refine ⟨?_, by repeat (first | exact Drawn0.refl _ | apply Drawn0.step)⟩
    rw [show ofF a 0 = a % 4294967296 from rfl, ← and_mask a ha]; rfl
  · go_enter Tryz.func66, Tryz.ntmps66
    go_wp2
    go_ret
    refine ⟨?_, by repeat (first | exact Drawn0.refl _ | apply Drawn0.step)⟩
    rw [show ofF a 1 = a / 4294967296 from rfl, ← Nat.mod_eq_of_lt (show a / 4294967296 < 4294967296 by omega), ← and_mask (a / 4294967296) (by omega)]; rfl
def nat_Of.f (a0 : Int) : Option (List Int) := if 0 ≤ a0 ∧ a0 < 18446744073709551616 then some (digB 4294967296 a0.toNat) else none
set_option maxRecDepth 100000 in
set_option maxHeartbeats 2000000 in
theorem nat_Of.calls (a0 : Int) (r : List Int) (w : World) (h : nat_Of.f a0 = some r) :
    Calls Tryz.prog 34 #[.int .u64 a0] w fun e w' => ∃ v0_ : Value, e = .returned (v0_) ∧ Kd.R (Kd.int .u32) 88 w' w.heap.size (fun _ => True) v0_ r ∧ Below w.heap.size w w' := by
  unfold nat_Of.f at h
  by_cases ha : 0 ≤ a0 ∧ a0 < 18446744073709551616
  · rw [if_pos ha] at h
    obtain rfl := Option.some.inj h
    obtain ⟨a, rfl⟩ : ∃ a : Nat, a0 = a := ⟨a0.toNat, by omega⟩
    have h2 : a < 18446744073709551616 := by omega
    have hb := Boxed.new w 62 (.int .u64 (a : Int))
    have hB : Below w.heap.size w (w.alloc (.cells #[.int .u64 (a : Int)] 62)) := (Below.refl _ w).alloc (Nat.le_refl _) _
    have hG := gather_calls 66 #[.pointer (some ⟨w.heap.size, 0, none⟩)] 2 (ofF a) _ _ (atOk_quiet _ _ _ _ w (w.alloc (.cells #[.int .u64 (a : Int)] 62)) hB (enters_of Tryz.func66 (by kernel_rfl) rfl)
      (fun i W hi hW => of1_calls a i h2 hi w.heap.size W ((hW.block _ hb.lt).trans hb)) (ofF_small a h2)) (Below.refl _ _) (by decide)
    rw [ofF_sum a h2] at hG
    have HG := Aside0.mk hG
    have HB := Aside0.mk hB
    clear hG hB hb h ha
    go_enter Tryz.func34, Tryz.ntmps34
    go_wp2_with (go_at_call 65; refine HG.out.mono ?_; rintro e w1 ⟨v, rfl, hr1, hb1⟩)
    go_ret
    refine ⟨_, rfl, ?_, HB.out.trans (hb1.mono (by simp))⟩
    rw [Int.toNat_natCast]
    exact Kd.rL9 hr1 (by simp)
  · rw [if_neg ha] at h; cases h
def addF (a b : List Int) (i : Nat) : Nat := limbN a i + limbN b i
theorem addF_sum (a b : List Int) : sumB 4294967296 (addF a b) (max a.length b.length) = valB 4294967296 a + valB 4294967296 b := by
  unfold addF
  rw [sumB_add, sumB_limb a _ (by omega), sumB_limb b _ (by omega)]
theorem addF_small {a b : List Int} (ha : DigB 4294967296 a) (hb : DigB 4294967296 b) (i : Nat) : addF a b i ≤ 4 * (4294967296 - 1) := by
  have h1 := limbN_lt (by decide) ha i
  have h2 := limbN_lt (by decide) hb i
  unfold addF; omega
set_option maxRecDepth 100000 in
set_option maxHeartbeats 4000000 in
theorem add1_calls (i : Nat) (A : Option Addr) (ca : Nat) (a : List Int) (B : Option Addr) (cb : Nat) (b : List Int) (Ba Bb : Nat) (W : World) (ha : DigB 4294967296 a) (hb : DigB 4294967296 b)
    (hA : Boxed W Ba 29 (.slice A a.length ca)) (hB : Boxed W Bb 29 (.slice B b.length cb)) (ra : Kd.C (Kd.int .u32) W A a.length a) (rb : Kd.C (Kd.int .u32) W B b.length b) (la : a.length ≤ ca) (lb : b.length ≤ cb) (hi : i < 9223372036854775807) :
    Calls Tryz.prog 113 #[.int .i64 (i : Int), .pointer (some ⟨Ba, 0, none⟩), .pointer (some ⟨Bb, 0, none⟩)] W fun e W' => e = .returned (.int .u64 ((addF a b i : Nat) : Int)) ∧ Drawn0 W W' := by
  have h1 := hA.cell
  have h2 := hB.cell
  have cA := fun W h => limb_calls A ca a (i : Int) W h la ha
  have cB := fun W h => limb_calls B cb b (i : Int) W h lb hb
  rw [if_neg (by omega), Int.toNat_natCast] at cA cB
  have l1 := limbN_lt (by decide) ha i
  have l2 := limbN_lt (by decide) hb i
  have hw : IntKind.u64.wrap ((limbN a i : Int) + (limbN b i : Int)) = ((addF a b i : Nat) : Int) := by rw [IntKind.wrap_u64]; unfold addF; omega
  generalize addF a b i = s at hw ⊢
  have RA := Aside0.mk ra
  have RB := Aside0.mk rb
  clear ra rb
  go_enter Tryz.func113, Tryz.ntmps113
  go_wp2
  go_region_held3 (fun w' => w'.cell? ⟨Ba, 0, none⟩ = some (.slice A a.length ca) ∧ w'.cell? ⟨Bb, 0, none⟩ = some (.slice B b.length cb)) (first | assumption | go_keep) (first | (go_at_call 64; (with_reducible refine (cA _ ?_).mono ?_); (repeat (first | (with_reducible exact RA.out) | (with_reducible refine Kd.cN9 ?_ _) | (with_reducible refine Kd.cD9 ?_))); rintro e w' ⟨rfl, ⟨q1, rfl⟩⟩) | (go_at_call 64; (with_reducible refine (cB _ ?_).mono ?_); (repeat (first | (with_reducible exact RB.out) | (with_reducible refine Kd.cN9 ?_ _) | (with_reducible refine Kd.cD9 ?_))); rintro e w' ⟨rfl, ⟨q2, rfl⟩⟩))
  all_goals
    go_wp2
    go_ret
    refine ⟨rfl, ?_⟩
    first | exact ⟨_, rfl⟩ | (repeat (first | exact Drawn0.refl _ | apply Drawn0.step))
def nat_Add.f (l0 l1 : List Int) : Option (List Int) := if okN l0 = true ∧ okN l1 = true then some (digB 4294967296 (valB 4294967296 l0 + valB 4294967296 l1)) else none
set_option maxRecDepth 100000 in
set_option maxHeartbeats 4000000 in
theorem nat_Add.calls (A0 : Option Addr) (c0 : Nat) (l0 : List Int) (A1 : Option Addr) (c1 : Nat) (l1 : List Int) (r : List Int) (w : World) (hr0 : Kd.C (Kd.int .u32) w A0 l0.length l0) (hc0 : l0.length ≤ c0) (hr1 : Kd.C (Kd.int .u32) w A1 l1.length l1) (hc1 : l1.length ≤ c1) (h : nat_Add.f l0 l1 = some r) :
    Calls Tryz.prog 75 #[.slice A0 l0.length c0, .slice A1 l1.length c1] w fun e w' => ∃ v0_ : Value, e = .returned (v0_) ∧ Kd.R (Kd.int .u32) 88 w' w.heap.size (fun _ => True) v0_ r ∧ Below w.heap.size w w' := by
  unfold nat_Add.f at h
  by_cases ha : okN l0 = true ∧ okN l1 = true
  · rw [if_pos ha] at h
    obtain rfl := Option.some.inj h
    obtain ⟨n0, d0⟩ := okN_iff.1 ha.1
    obtain ⟨n1, d1⟩ := okN_iff.1 ha.2
    have hb0 := (Boxed.new w 29 (.slice A0 l0.length c0)).alloc (.cells #[.slice A1 l1.length c1] 29)
    have hb1 := Boxed.new (w.alloc (.cells #[.slice A0 l0.length c0] 29)) 29 (.slice A1 l1.length c1)
    rw [World.size_alloc] at hb1
    have hB : Below w.heap.size w ((w.alloc (.cells #[.slice A0 l0.length c0] 29)).alloc (.cells #[.slice A1 l1.length c1] 29)) := by repeat (first | exact Below.refl _ _ | apply bA9)
    have hG := gather_calls 113 #[.pointer (some ⟨w.heap.size, 0, none⟩), .pointer (some ⟨w.heap.size + 1, 0, none⟩)] (max l0.length l1.length) (addF l0 l1) _ _ (atOk_quiet _ _ _ _ w _ hB (enters_of Tryz.func113 (by kernel_rfl) rfl)
      (fun i W hi hW => add1_calls i A0 c0 l0 A1 c1 l1 w.heap.size (w.heap.size + 1) W d0 d1 ((hW.block _ hb0.lt).trans hb0) ((hW.block _ hb1.lt).trans hb1)
        (Kd.cB9 hr0 (hB.trans (hW.mono hB.size))) (Kd.cB9 hr1 (hB.trans (hW.mono hB.size))) hc0 hc1 (by omega)) (addF_small d0 d1)) (Below.refl _ _) (by omega)
    have hm : ((max l0.length l1.length : Nat) : Int) = if l0.length < l1.length then (l1.length : Int) else (l0.length : Int) := by split <;> omega
    rw [addF_sum, hm] at hG
    have HG := Aside0.mk hG
    have HB := Aside0.mk hB
    clear hG hB hb0 hb1 h ha hr0 hr1 hm
    go_enter Tryz.func75, Tryz.ntmps75
    go_wp2_with (go_at_call 65; go_loud (with_reducible refine HG.out.mono ?_); rintro e w1 ⟨v, rfl, hr1, hb1⟩)
    all_goals
      go_ret
      exact ⟨_, rfl, Kd.rL9 hr1 (by simp; omega), HB.out.trans (hb1.mono (by simp; omega))⟩
  · rw [if_neg ha] at h; cases h
structure RowAt (w0 : World) (A : Option Addr) (ca : Nat) (a : List Int) (m up c : Nat) (W : World) : Prop where
  bel : Below w0.heap.size w0 W
  bA : Boxed W w0.heap.size 29 (.slice A a.length ca)
  bM : Boxed W (w0.heap.size + 1) 88 (.int .u32 (m : Int))
  bU : Boxed W (w0.heap.size + 2) 3 (.int .i64 (up : Int))
  bC : Boxed W (w0.heap.size + 3) 62 (.int .u64 (c : Int))
theorem RowAt.below {w0 W W' : World} {A : Option Addr} {ca : Nat} {a : List Int} {m up c : Nat} (h : RowAt w0 A ca a m up c W) {B : Nat} (hB : w0.heap.size + 3 < B) (hb : Below B W W') : RowAt w0 A ca a m up c W' :=
  ⟨h.bel.trans (hb.mono (by omega)), (hb.block _ (by omega)).trans h.bA, (hb.block _ (by omega)).trans h.bM, (hb.block _ (by omega)).trans h.bU, (hb.block _ (by omega)).trans h.bC⟩
theorem RowAt.drewN {w0 W : World} {A : Option Addr} {ca : Nat} {a : List Int} {m up c : Nat} (h : RowAt w0 A ca a m up c W) (q : Nat) : RowAt w0 A ca a m up c (W.drewN q) :=
  ⟨bN9 h.bel q, h.bA, h.bM, h.bU, h.bC⟩
theorem RowAt.put {w0 W : World} {A : Option Addr} {ca : Nat} {a : List Int} {m up c : Nat} (h : RowAt w0 A ca a m up c W) (c2 : Nat) : RowAt w0 A ca a m up c2 (W.setCell ⟨w0.heap.size + 3, 0, none⟩ (.int .u64 (c2 : Int))) :=
  ⟨h.bel.setCell (p := ⟨w0.heap.size + 3, 0, none⟩) (by show w0.heap.size ≤ w0.heap.size + 3; omega) _, boxed_far h.bA (by show w0.heap.size ≠ w0.heap.size + 3; omega) _, boxed_far h.bM (by show w0.heap.size + 1 ≠ w0.heap.size + 3; omega) _, boxed_far h.bU (by show w0.heap.size + 2 ≠ w0.heap.size + 3; omega) _, h.bC.set _⟩
theorem keptFrom_setCell {base : Nat} {W W1 : World} (h : KeptFrom base W W1) {p : Addr} (hp : p.block < base) (v : Value) : KeptFrom base W (W1.setCell p v) :=
  ⟨by have := h.1; simpa [World.setCell] using this, fun k h1 h2 => (Below.heap_setCell W1 p v k (by omega)).trans (h.2 k h1 h2)⟩
set_option maxRecDepth 100000 in
set_option maxHeartbeats 8000000 in
theorem row1_calls (i : Nat) (A : Option Addr) (ca : Nat) (a : List Int) (m up c : Nat) (w0 W : World) (ha : DigB 4294967296 a) (ra : Kd.C (Kd.int .u32) w0 A a.length a) (la : a.length ≤ ca) (hm : m < 4294967296) (hc : c < 4294967296) (hi : i < 1073741824) (hu : up < 1073741824)
    (hR : RowAt w0 A ca a m up c W) :
    Calls Tryz.prog 138 #[.int .i64 (i : Int), .pointer (some ⟨w0.heap.size + 2, 0, none⟩), .pointer (some ⟨w0.heap.size, 0, none⟩), .pointer (some ⟨w0.heap.size + 1, 0, none⟩), .pointer (some ⟨w0.heap.size + 3, 0, none⟩)] W fun e W' =>
      e = .returned (.int .u64 ((if i < up then 0 else (limbN a (i - up) * m + c) % 4294967296 : Nat) : Int)) ∧ RowAt w0 A ca a m up (if i < up then c else (limbN a (i - up) * m + c) / 4294967296) W' ∧ KeptFrom (w0.heap.size + 4) W W' := by
  have h1 := hR.bA.cell
  have h2 := hR.bM.cell
  have h3 := hR.bU.cell
  have h4 := hR.bC.cell
  have h5 := hR.bC.frozen
  have HR := Aside0.mk hR
  by_cases hlt : i < up
  · have hd : decide ((i : Int) < (up : Int)) = true := decide_eq_true (by omega)
    rw [if_pos hlt, if_pos hlt]
    clear hR
    go_enter Tryz.func138, Tryz.ntmps138
    go_wp2
    go_ret
    refine ⟨rfl, ?_, ?_⟩
    · first | exact HR.out | exact HR.out.drewN _
    · first | exact ⟨Nat.le_refl _, fun _ _ _ => rfl⟩ | exact keptFrom_drewN _ _ _
  · have hd : decide ((i : Int) < (up : Int)) = false := decide_eq_false (by omega)
    rw [if_neg hlt, if_neg hlt]
    have hl := limbN_lt (by decide) ha (i - up)
    obtain ⟨d, hd2⟩ : ∃ d, i - up = d := ⟨_, rfl⟩
    rw [hd2] at hl ⊢
    obtain ⟨x, hx⟩ : ∃ x, limbN a d * m + c = x := ⟨_, rfl⟩
    obtain ⟨y, hy⟩ : ∃ y, limbN a d * m = y := ⟨_, rfl⟩
    rw [hx]
    have hxy : y + c = x := by rw [← hy]; exact hx
    have hy2 : y ≤ 4294967295 * 4294967295 := by rw [← hy]; exact Nat.mul_le_mul (by omega) (by omega)
    have e1 : IntKind.i64.wrap ((i : Int) - (up : Int)) = (d : Int) := by rw [i64_w]; unfold wrap64; omega
    have cA := fun W h => limb_calls A ca a (d : Int) W h la ha
    rw [if_neg (by omega), Int.toNat_natCast] at cA
    have e2 : IntKind.u64.wrap (m : Int) = (m : Int) := by rw [IntKind.wrap_u64]; omega
    have e3 : IntKind.u64.wrap ((limbN a d : Int) * (m : Int)) = (y : Int) := by rw [IntKind.wrap_u64, ← hy, Int.natCast_mul, Int.emod_eq_of_lt (by rw [← Int.natCast_mul, hy]; omega) (by rw [← Int.natCast_mul, hy]; omega)]
    have e4 : IntKind.u64.wrap ((y : Int) + (c : Int)) = (x : Int) := by rw [IntKind.wrap_u64]; omega
    have e5 : bits .and .u64 (x : Int) 4294967295 = ((x % 4294967296 : Nat) : Int) := and_mask x (by omega)
    have RA := Aside0.mk (Kd.cB9 ra hR.bel)
    have hnew := World.setCell
    clear hR hx hy ra hnew
    generalize limbN a d = l at cA e3 hl
    go_enter Tryz.func138, Tryz.ntmps138
    go_wp2
    go_region_held3 (fun w' => w'.cell? ⟨w0.heap.size, 0, none⟩ = some (.slice A a.length ca) ∧ w'.cell? ⟨w0.heap.size + 1, 0, none⟩ = some (.int .u32 (m : Int)) ∧ w'.cell? ⟨w0.heap.size + 2, 0, none⟩ = some (.int .i64 (up : Int)) ∧ w'.cell? ⟨w0.heap.size + 3, 0, none⟩ = some (.int .u64 (c : Int))) (first | assumption | go_keep) (first | (go_at_call 64; (with_reducible refine (cA _ ?_).mono ?_); (repeat (first | (with_reducible exact RA.out) | (with_reducible refine Kd.cN9 ?_ _) | (with_reducible refine Kd.cD9 ?_))); rintro e w' ⟨rfl, ⟨q1, rfl⟩⟩))
    all_goals
      go_wp2
      go_ret
      refine ⟨?_, ?_, ?_⟩
      · rw [Int.natCast_emod]; rfl
      · exact (HR.out.drewN _).put _
      · exact keptFrom_setCell (keptFrom_drewN _ _ _) (by show w0.heap.size + 3 < w0.heap.size + 4; omega) _
theorem rowF_small {a : List Int} {m : Nat} (up i : Nat) : rowF 4294967296 a m up i ≤ 4 * (4294967296 - 1) := by
  unfold rowF
  split
  · omega
  · omega
def nat_row.f (l0 : List Int) (a1 a2 : Int) : Option (List Int) := if okN l0 = true ∧ (0 ≤ a1 ∧ a1 < 4294967296) ∧ (0 ≤ a2 ∧ a2 ≤ 1048576) then some (digB 4294967296 (4294967296 ^ a2.toNat * (a1.toNat * valB 4294967296 l0))) else none
set_option maxRecDepth 100000 in
set_option maxHeartbeats 4000000 in
theorem nat_row.calls (A0 : Option Addr) (c0 : Nat) (l0 : List Int) (a1 a2 : Int) (r : List Int) (w : World) (hr0 : Kd.C (Kd.int .u32) w A0 l0.length l0) (hc0 : l0.length ≤ c0) (h : nat_row.f l0 a1 a2 = some r) :
    Calls Tryz.prog 114 #[.slice A0 l0.length c0, .int .u32 a1, .int .i64 a2] w fun e w' => ∃ v0_ : Value, e = .returned (v0_) ∧ Kd.R (Kd.int .u32) 88 w' w.heap.size (fun _ => True) v0_ r ∧ Below w.heap.size w w' := by
  unfold nat_row.f at h
  by_cases hg : okN l0 = true ∧ (0 ≤ a1 ∧ a1 < 4294967296) ∧ (0 ≤ a2 ∧ a2 ≤ 1048576)
  · rw [if_pos hg] at h
    obtain rfl := Option.some.inj h
    obtain ⟨n0, d0⟩ := okN_iff.1 hg.1
    obtain ⟨m, rfl⟩ : ∃ m : Nat, a1 = m := ⟨a1.toNat, by omega⟩
    obtain ⟨up, rfl⟩ : ∃ up : Nat, a2 = up := ⟨a2.toNat, by omega⟩
    have hm : m < 4294967296 := by omega
    have hu : up ≤ 1048576 := by omega
    simp only [Int.toNat_natCast]
    obtain ⟨w1, hw1⟩ : ∃ w1, (((w.alloc (.cells #[.slice A0 l0.length c0] 29)).alloc (.cells #[.int .u32 (m : Int)] 88)).alloc (.cells #[.int .i64 (up : Int)] 3)).alloc (.cells #[.int .u64 0] 62) = w1 := ⟨_, rfl⟩
    have hsz : w1.heap.size = w.heap.size + 4 := by rw [← hw1]; simp
    have hR : RowAt w A0 c0 l0 m up 0 w1 := by
      rw [← hw1]
      have b1 := Boxed.new w 29 (.slice A0 l0.length c0)
      have b2 := Boxed.new (w.alloc (.cells #[.slice A0 l0.length c0] 29)) 88 (.int .u32 (m : Int))
      have b3 := Boxed.new ((w.alloc (.cells #[.slice A0 l0.length c0] 29)).alloc (.cells #[.int .u32 (m : Int)] 88)) 3 (.int .i64 (up : Int))
      have b4 := Boxed.new (((w.alloc (.cells #[.slice A0 l0.length c0] 29)).alloc (.cells #[.int .u32 (m : Int)] 88)).alloc (.cells #[.int .i64 (up : Int)] 3)) 62 (.int .u64 0)
      simp only [World.size_alloc] at b2 b3 b4
      exact ⟨by repeat (first | exact Below.refl _ _ | apply bA9), ((b1.alloc _).alloc _).alloc _, (b2.alloc _).alloc _, b3.alloc _, b4⟩
    have hB : Below w.heap.size w w1 := hR.bel
    have hat : AtOk 138 #[.pointer (some ⟨w.heap.size + 2, 0, none⟩), .pointer (some ⟨w.heap.size, 0, none⟩), .pointer (some ⟨w.heap.size + 1, 0, none⟩), .pointer (some ⟨w.heap.size + 3, 0, none⟩)] (l0.length + up + 1) w1.heap.size (rowF 4294967296 l0 m up) (fun i W => RowAt w A0 c0 l0 m up (rowC 4294967296 l0 m up i) W) :=
      { eg := enters_of Tryz.func138 (by kernel_rfl) rfl
        call := fun i W hi hJ hs => by
          rw [hsz]
          exact (row1_calls i A0 c0 l0 m up _ w W d0 hr0 hc0 hm (rowC_lt (by decide) d0 hm up i) (by omega) (by omega) hJ)
        keep := fun i W W' hJ hb => hJ.below (by omega) hb
        small := rowF_small up }
    have hG := gather_calls 138 _ _ _ _ w1 hat hR (by omega)
    rw [row_val (by decide) d0 hm, show ((l0.length + up + 1 : Nat) : Int) = (l0.length : Int) + (up : Int) + 1 by omega] at hG
    have HG := Aside0.mk hG
    have HS := Aside0.mk hsz
    have HW := Aside0.mk hw1
    clear hG hB h hg hr0 hat hR hsz hw1
    go_enter Tryz.func114, Tryz.ntmps114
    go_wp2_with (go_at_call 65; go_loud (rw [HW.out]; refine HG.out.mono ?_); rintro e w2 ⟨v, rfl, hr1, hb1⟩)
    go_ret
    refine ⟨_, rfl, Kd.rL9 hr1 (by rw [HS.out]; omega), hb1.bel⟩
  · rw [if_neg hg] at h; cases h
end Go.Proofs.YtibaoacjjcgjlaaGreatDoor.Print

namespace Go.Proofs.YtibaoacjjcgjlaaGreatDoor.Print
open Go.RowKit Go.Proofs.YtibaoacjjcgjlaaGreatDoorW.PrintWords Go.Proofs.YtibaoacjjcgjlaaGreatDoorW.PrintLast Go.Proofs.YtibaoacjjcgjlaaGreatDoorW.PrintMore
attribute [local go_sem] max2_int min2_int max_two min_two max_three min_three max_four min_four   -- for this text's walks alone
set_option linter.unusedVariables false
set_option linter.unusedSimpArgs false
def nat_Mul.l0 : Nat → List Int → List Int → List Int → Int → Int → Option (List Int)
 | 0, _, _, _, _, _ => none
 | k + 1, x0, x5, x8, x9, x10 => if x10 < x9 then (if 0 ≤ x10 then (if x10 < (x8.length : Int) then ((nat_row.f x0 (rd x8 x10) x10).bind fun t117 => ((nat_Add.f x5 t117).bind fun t120 => (nat_Mul.l0 k x0 t120 x8 x9 (wrap64 (x10 + 1))))) else (none)) else (none)) else (some x5)
def nat_Mul.f (k : Nat) (l0 : List Int) (l1 : List Int) : Option (List Int) := nat_Mul.l0 k l0 ([] : List Int) l1 (l1.length : Int) 0
set_option maxHeartbeats 8000000 in
set_option maxRecDepth 100000 in
theorem nat_Mul.calls (k : Nat) (A0 : Option Addr) (c0 : Nat) (l0 : List Int) (A1 : Option Addr) (c1 : Nat) (l1 : List Int) (r : List Int) (w : World) (hr0 : Kd.C (Kd.int .u32) w A0 l0.length l0) (hc0 : l0.length ≤ c0) (hr1 : Kd.C (Kd.int .u32) w A1 l1.length l1) (hc1 : l1.length ≤ c1) (h : nat_Mul.f k l0 l1 = some r) :
  Calls Tryz.prog 76 #[.slice A0 l0.length c0, .slice A1 l1.length c1] w fun e w' => ∃ v0_ : Value, e = .returned (v0_) ∧ Kd.R (Kd.int .u32) 88 w' w.heap.size (fun _ => True) v0_ r ∧ Below w.heap.size w w' := by
 have HR0 := Aside0.mk hr0
 have HC0 := Aside0.mk hc0
 clear hr0 hc0
 have HR1 := Aside0.mk hr1
 have HC1 := Aside0.mk hc1
 clear hr1 hc1
 have HB := Aside0.mk (Below.refl w.heap.size w)
 have H : (nat_Mul.l0 k l0 ([] : List Int) l1 (l1.length : Int) 0) = some r := h
 clear h
 have H' := Aside0.mk H
 clear H
 go_enter Tryz.func76, Tryz.ntmps76
 go_wp2
 go_loopg [5, 10] k (fun kq v5 v10 w' => ∃ (x5_1 : List Int) (x10_1 : Int), v10 = .int .i64 x10_1 ∧ Aside0 (nat_Mul.l0 kq l0 x5_1 l1 (l1.length : Int) x10_1 = some r) ∧ Aside0 (kq ≤ k) ∧ Aside0 (Kd.R (Kd.int .u32) 88 w' w.heap.size (fun _ => True) v5 x5_1) ∧ Aside0 (Below w.heap.size w w'))
 case atStart => exact ⟨(([] : List Int)), (0), (by first | rfl | (simp; done) | (simp [*]; done)), H', ⟨Nat.le_refl _⟩, ⟨by first | exact Kd.R_nil _ _ _ _ _ | exact Kd.N_nil _ _ _ _ _ | exact Kd.V_nil _ _ _ _ _ | exact Kd.Q_nil _ _ _ _ _ | exact Kd.S_nil _ _ _ _ _⟩, ⟨by repeat (first | (with_reducible first | exact HB.out | apply bA9 | apply bN9 | apply bD9) | exact HB.out)⟩⟩
 case round =>
  clear H'
  try clear c1
  try clear p2
  obtain ⟨x5_1, x10_1, rfl, HA, HK1, HO_5, HB⟩ := hrel
  cases gk with
  | zero => exact absurd HA.out (by simp [nat_Mul.l0])
  | succ k1 =>
   have H := HA.out
   clear HA
   simp only [nat_Mul.l0] at H
   by_cases c3 : x10_1 < (l1.length : Int)
   ·rw [if_pos c3] at H
    have c3b0 : decide (x10_1 < (l1.length : Int)) = true := decide_eq_true c3
    clear c3
    by_cases c4 : 0 ≤ x10_1
    ·rw [if_pos c4] at H
     have c4b0 : decide (0 ≤ x10_1) = true := decide_eq_true c4
     clear c4
     by_cases c5 : x10_1 < (l1.length : Int)
     ·rw [if_pos c5] at H
      have c5b0 : decide (x10_1 < (l1.length : Int)) = true := decide_eq_true c5
      clear c5
      replace H := Option.bind_eq_some_iff.mp H
      obtain ⟨t117, A60, H⟩ := H
      (try dsimp only at H)
      have A6 := Aside0.mk A60
      clear A60
      replace H := Option.bind_eq_some_iff.mp H
      obtain ⟨t120, A70, H⟩ := H
      (try dsimp only at H)
      have A7 := Aside0.mk A70
      clear A70
      have H' := Aside0.mk H
      clear H
      have p116 : 0 ≤ (x10_1 : Int) := of_decide_eq_true (by first | (with_reducible assumption) | assumption)
      have q116 : x10_1 < (l1.length : Int) := of_decide_eq_true (by first | (with_reducible assumption) | assumption)
      obtain ⟨ad116, e116, hx116_0⟩ := Kd.at_int HR1.out x10_1 p116 q116
      cases e116
      replace hx116_0 := (HB.out.cell (World.block_lt_of_cell? w _ hx116_0)).trans hx116_0
      replace p116 := eq_true p116
      replace q116 := eq_true q116
      go_wp2_with (first | ((with_reducible refine gC9 (f := 114) rfl ?_); refine goesL_ (some 19) rfl rfl Tryz.func114 (by kernel_rfl) rfl #[.slice A0 l0.length c0, .int .u32 (rd l1 x10_1), .int .i64 x10_1] rfl (by (try simp only [List.map_toArray, List.map_cons, List.map_nil]); first | done | rfl | (simp only [List.length_drop, List.length_take]; rfl)) ?_; (with_reducible refine (nat_row.calls _ _ l0 (rd l1 x10_1) x10_1 t117 _ ?side1 ?side2 A6.out).mono ?_); (case side1 => repeat (first | exact (Kd.cB9 HR0.out HB.out) | (with_reducible refine Kd.cA9 ?_ _) | (with_reducible refine Kd.cN9 ?_ _) | (with_reducible refine Kd.cD9 ?_))); (case side2 => exact HC0.out); rintro e w8 ⟨v118, rfl, ho0, hb⟩; refine ⟨_, rfl, ?_⟩; have n0_ := Aside0.mk (Kd.R_elder' (by (with_reducible repeat (first | apply Kd.rA9 | apply Kd.rN9 | apply Kd.rD9)); exact HO_5.out) (Kd.R_base ho0) hb); have n1_ := Aside0.mk (Kd.rL9 (Kd.R_new' ho0 (Kd.R_lt (by (with_reducible repeat (first | apply Kd.rA9 | apply Kd.rN9 | apply Kd.rD9)); exact HO_5.out))) (bZ9 (by repeat (first | (with_reducible first | exact HB.out | apply bA9 | apply bN9 | apply bD9) | exact HB.out)))); have n2_ := Aside0.mk (bT9 (by repeat (first | (with_reducible first | exact HB.out | apply bA9 | apply bN9 | apply bD9) | exact HB.out)) hb); clear HO_5; clear HB; have HO_5 := n0_; have HO119 := n1_; have HB := n2_; clear n0_ n1_ n2_; (try clear hb); (try clear hb2); (try clear hk); (try clear hi); (try clear ho0); obtain ⟨Ao9, co9, eo9⟩ := Kd.rS9 HO_5.out; subst eo9; obtain ⟨Ao10, co10, eo10⟩ := Kd.rS9 HO119.out; subst eo10) | ((with_reducible refine gC9 (f := 75) rfl ?_); refine goesL_ (some 20) rfl rfl Tryz.func75 (by kernel_rfl) rfl #[.slice Ao9 x5_1.length co9, .slice Ao10 t117.length co10] rfl (by (try simp only [List.map_toArray, List.map_cons, List.map_nil]); first | done | rfl | (simp only [List.length_drop, List.length_take]; rfl)) ?_; (with_reducible refine (nat_Add.calls _ _ x5_1 _ _ t117 t120 _ ?side1 ?side2 ?side3 ?side4 A7.out).mono ?_); (case side1 => repeat (first | exact (Kd.rR9 HO_5.out).2.2 | (with_reducible refine Kd.cA9 ?_ _) | (with_reducible refine Kd.cN9 ?_ _) | (with_reducible refine Kd.cD9 ?_))); (case side2 => exact (Kd.rR9 HO_5.out).2.1); (case side3 => repeat (first | exact (Kd.rR9 HO119.out).2.2 | (with_reducible refine Kd.cA9 ?_ _) | (with_reducible refine Kd.cN9 ?_ _) | (with_reducible refine Kd.cD9 ?_))); (case side4 => exact (Kd.rR9 HO119.out).2.1); rintro e w11 ⟨v121, rfl, ho0, hb⟩; refine ⟨_, rfl, ?_⟩; have n0_ := Aside0.mk (Kd.R_elder' (by (with_reducible repeat (first | apply Kd.rA9 | apply Kd.rN9 | apply Kd.rD9)); exact HO_5.out) (Kd.R_base ho0) hb); have n1_ := Aside0.mk (Kd.R_elder' (by (with_reducible repeat (first | apply Kd.rA9 | apply Kd.rN9 | apply Kd.rD9)); exact HO119.out) (Kd.R_base ho0) hb); have n2_ := Aside0.mk (Kd.rL9 (Kd.R_new' (Kd.R_new' ho0 (Kd.R_lt (by (with_reducible repeat (first | apply Kd.rA9 | apply Kd.rN9 | apply Kd.rD9)); exact HO_5.out))) (Kd.R_lt (by (with_reducible repeat (first | apply Kd.rA9 | apply Kd.rN9 | apply Kd.rD9)); exact HO119.out))) (bZ9 (by repeat (first | (with_reducible first | exact HB.out | apply bA9 | apply bN9 | apply bD9) | exact HB.out)))); have n3_ := Aside0.mk (bT9 (by repeat (first | (with_reducible first | exact HB.out | apply bA9 | apply bN9 | apply bD9) | exact HB.out)) hb); clear HO_5; clear HO119; clear HB; have HO_5 := n0_; have HO119 := n1_; have HO122 := n2_; have HB := n3_; clear n0_ n1_ n2_ n3_; (try clear hb); (try clear hb2); (try clear hk); (try clear hi); (try clear ho0)))
      go_roundg k1
      case measure => have := HK1.out; omega
      case rel => exact ⟨(t120), (wrap64 (x10_1 + 1)), (by first | rfl | (simp; done) | (simp [*]; done)), H', ⟨by have := HK1.out; omega⟩, ⟨by (with_reducible repeat (first | apply Kd.rA9 | apply Kd.rN9 | apply Kd.rD9)); exact Kd.R_mono HO122.out (fun _ hk => trivial)⟩, ⟨by repeat (first | (with_reducible first | exact HB.out | apply bA9 | apply bN9 | apply bD9) | exact HB.out)⟩⟩
     ·rw [if_neg c5] at H
      exact absurd H (by simp)
    ·rw [if_neg c4] at H
     exact absurd H (by simp)
   ·rw [if_neg c3] at H
    have c3b0 : decide (x10_1 < (l1.length : Int)) = false := decide_eq_false c3
    clear c3
    obtain rfl := Option.some.inj H
    go_wp2
    go_ret
    exact ⟨_, by first | rfl | (simp [eN9, eS9] <;> rfl) | (simp [*, eN9, eS9] <;> rfl), by (with_reducible repeat (first | apply Kd.rA9 | apply Kd.rN9 | apply Kd.rD9)); exact HO_5.out, by repeat (first | (with_reducible first | exact HB.out | apply bA9 | apply bN9 | apply bD9) | exact HB.out)⟩
end Go.Proofs.YtibaoacjjcgjlaaGreatDoor.Print

namespace Go.Proofs.YtibaoacjjcgjlaaGreatDoor.Base
set_option linter.unusedVariables false
theorem guess_high {B q v1 v2 t0 t1 t2 r P vl ul : Nat} (h1 : q * v1 + r = t0 * B + t1) (h2 : r * B + t2 < q * v2) (hu : ul < P) :
    ul + P * (t2 + B * (t1 + B * t0)) < q * (vl + P * (v2 + B * v1)) := by
  have e1 : q * (v2 + B * v1) = q * v2 + B * (q * v1) := by rw [Nat.mul_add, Nat.mul_left_comm]
  have e2 : B * (q * v1) + B * r = B * (t1 + B * t0) := by rw [← Nat.mul_add, h1, Nat.add_comm, Nat.mul_comm t0 B]
  have e3 : t2 + B * (t1 + B * t0) + 1 ≤ q * (v2 + B * v1) := by rw [e1, Nat.mul_comm r B] at *; omega
  have e4 := Nat.mul_le_mul_left P e3
  have e5 : P * (q * (v2 + B * v1)) ≤ q * (vl + P * (v2 + B * v1)) := by
    rw [Nat.mul_left_comm]; exact Nat.mul_le_mul_left _ (Nat.le_add_left _ _)
  rw [Nat.mul_add, Nat.mul_one] at e4
  omega
theorem guess_near {q V2 U3 P vl ul : Nat} (h1 : q * V2 ≤ U3) (hq : q ≤ V2 + 1) (hv : vl < P) : (q - 1) * (vl + P * V2) ≤ ul + P * U3 := by
  rcases Nat.eq_zero_or_pos q with rfl | h0
  · simp
  · obtain ⟨k, rfl⟩ : ∃ k, q = k + 1 := ⟨q - 1, by omega⟩
    rw [Nat.add_sub_cancel, Nat.mul_add, Nat.mul_left_comm]
    have e1 : k * vl ≤ P * k := by rw [Nat.mul_comm P k]; exact Nat.mul_le_mul_left _ (Nat.le_of_lt hv)
    have e2 : P * k ≤ P * V2 := Nat.mul_le_mul_left _ (by omega)
    have e3 := Nat.mul_le_mul_left P h1
    rw [Nat.add_mul, Nat.one_mul, Nat.mul_add] at e3
    omega
structure GuessOk (B U V q : Nat) : Prop where
  lt : q < B
  up : U < (q + 1) * V
  dn : (q - 1) * V ≤ U
theorem guess_first {B v1 v2 t0 t1 t2 P vl ul : Nat} (hv1 : 1 ≤ v1) (hP : ul < P) (hB : t2 < B) :
    ul + P * (t2 + B * (t1 + B * t0)) < ((t0 * B + t1) / v1 + 1) * (vl + P * (v2 + B * v1)) := by
  have h := Nat.lt_div_mul_add (a := t0 * B + t1) hv1
  generalize hq : (t0 * B + t1) / v1 = q at h ⊢
  have e1 : t1 + B * t0 + 1 ≤ (q + 1) * v1 := by rw [Nat.add_mul, Nat.one_mul, Nat.mul_comm B t0]; omega
  have e2 := Nat.mul_le_mul_left B e1
  rw [Nat.mul_add B (t1 + B * t0), Nat.mul_one] at e2
  have e6 : (q + 1) * (v2 + B * v1) = (q + 1) * v2 + B * ((q + 1) * v1) := by rw [Nat.mul_add (q + 1), Nat.mul_left_comm (q + 1) B v1]
  have e3 : t2 + B * (t1 + B * t0) + 1 ≤ (q + 1) * (v2 + B * v1) := by rw [e6]; omega
  have e4 := Nat.mul_le_mul_left P e3
  rw [Nat.mul_add P _ 1, Nat.mul_one] at e4
  have e5 : P * ((q + 1) * (v2 + B * v1)) ≤ (q + 1) * (vl + P * (v2 + B * v1)) := by
    rw [Nat.mul_left_comm]; exact Nat.mul_le_mul_left _ (Nat.le_add_left _ _)
  omega
theorem lead_le {B v1 v2 t0 t1 t2 P vl ul : Nat} (hv : vl < P) (hv2 : v2 < B) (h : ul + P * (t2 + B * (t1 + B * t0)) < B * (vl + P * (v2 + B * v1))) : t0 ≤ v1 := by
  rcases Nat.lt_or_ge v1 t0 with c | c
  · exfalso
    have e1 : vl + P * (v2 + B * v1) < P * (B * t0) := by
      have a1 : v2 + B * v1 + 1 ≤ B * t0 := by
        have := Nat.mul_le_mul_left B c
        rw [Nat.mul_succ] at this; omega
      have a2 := Nat.mul_le_mul_left P a1
      rw [Nat.mul_add, Nat.mul_one] at a2; omega
    have e2 : B * (vl + P * (v2 + B * v1)) ≤ B * (P * (B * t0)) := Nat.mul_le_mul_left _ (Nat.le_of_lt e1)
    have e3 : B * (P * (B * t0)) = P * (B * (B * t0)) := by rw [Nat.mul_left_comm]
    have e4 : P * (B * (B * t0)) ≤ P * (t2 + B * (t1 + B * t0)) := Nat.mul_le_mul_left _ (by rw [Nat.mul_add]; omega)
    omega
  · exact c
theorem guess_done {B q v1 v2 t0 t1 t2 r P vl ul : Nat} (hv1 : 1 ≤ v1) (hv2 : v2 < B) (hvl : vl < P) (ht1 : t1 < B) (h1 : q * v1 + r = t0 * B + t1)
    (hU : ul + P * (t2 + B * (t1 + B * t0)) < B * (vl + P * (v2 + B * v1)))
    (hup : ul + P * (t2 + B * (t1 + B * t0)) < (q + 1) * (vl + P * (v2 + B * v1)))
    (hex : q < B ∧ q * v2 ≤ r * B + t2 ∨ B ≤ r) : GuessOk B (ul + P * (t2 + B * (t1 + B * t0))) (vl + P * (v2 + B * v1)) q := by
  have hle : t0 ≤ v1 := lead_le hvl hv2 hU
  have hq : q < B := by
    rcases hex with ⟨a, _⟩ | hr
    · exact a
    · rcases Nat.lt_or_ge q B with c | c
      · exact c
      · exfalso
        have e1 : B * v1 ≤ q * v1 := Nat.mul_le_mul_right _ c
        have e2 : t0 * B ≤ v1 * B := Nat.mul_le_mul_right _ hle
        rw [Nat.mul_comm v1 B] at e2
        omega
  have h2 : q * v2 ≤ r * B + t2 := by
    rcases hex with ⟨_, a⟩ | hr
    · exact a
    · have e1 : q * v2 ≤ B * B := Nat.mul_le_mul (Nat.le_of_lt hq) (Nat.le_of_lt hv2)
      have e2 : B * B ≤ r * B := Nat.mul_le_mul_right _ hr
      omega
  refine ⟨hq, hup, guess_near ?_ ?_ hvl⟩
  · rw [Nat.mul_add, Nat.mul_left_comm, Nat.mul_comm r B] at *
    have e2 : B * (q * v1) + B * r = B * (t1 + B * t0) := by rw [← Nat.mul_add, h1, Nat.add_comm, Nat.mul_comm t0 B]
    omega
  · have : B * 1 ≤ B * v1 := Nat.mul_le_mul_left _ hv1
    omega
def takeB (B q : Nat) : List Int → List Int → Nat → Nat → List Int × Nat × Nat
  | u :: us, v :: vs, c, b =>
    let p := q * v.toNat + c
    let d := u.toNat + B - p % B - b
    let n := takeB B q us vs (p / B) (if u.toNat < p % B + b then 1 else 0)
    (((d % B : Nat) : Int) :: n.1, n.2)
  | us, [], c, b => (us, c, b)
  | [], _ :: _, c, b => ([], c, b)
theorem sub_digit {B u x b : Nat} (hu : u < B) (hx : x < B) (hb : b ≤ 1) : (u + B - x - b) % B + x + b = u + B * (if u < x + b then 1 else 0) := by
  by_cases h : u < x + b
  · rw [if_pos h, Nat.mod_eq_of_lt (by omega)]; omega
  · rw [if_neg h, show u + B - x - b = (u - x - b) + B by omega, Nat.add_mod_right, Nat.mod_eq_of_lt (by omega)]; omega
theorem takeB_spec (B q : Nat) (hq : q < B) : ∀ (us vs : List Int) (c b : Nat), us.length = vs.length → DigB B us → DigB B vs → c < B → b ≤ 1 →
    valB B (takeB B q us vs c b).1 + q * valB B vs + c + b = valB B us + B ^ us.length * ((takeB B q us vs c b).2.1 + (takeB B q us vs c b).2.2) ∧
    DigB B (takeB B q us vs c b).1 ∧ (takeB B q us vs c b).2.1 < B ∧ (takeB B q us vs c b).2.2 ≤ 1 ∧ (takeB B q us vs c b).1.length = us.length
  | [], [], c, b, _, _, _, hc, hb => by simp [takeB, valB, hc, hb]; exact DigB.nil B
  | u :: us, v :: vs, c, b, hl, hu, hv, hc, hb => by
    have hu0 := hu u (by simp)
    have hv0 := hv v (by simp)
    have hB : 0 < B := by omega
    generalize hp : q * v.toNat + c = p
    have hp1 : p / B < B := by
      refine Nat.div_lt_of_lt_mul ?_
      have : q * v.toNat ≤ (B - 1) * (B - 1) := Nat.mul_le_mul (by omega) (by omega)
      have e : (B - 1) * (B - 1) + (B - 1) < B * B := by
        obtain ⟨k, rfl⟩ : ∃ k, B = k + 1 := ⟨B - 1, by omega⟩
        simp only [Nat.add_sub_cancel, Nat.mul_add, Nat.add_mul, Nat.mul_one, Nat.one_mul]; omega
      omega
    have hb1 : (if u.toNat < p % B + b then 1 else 0) ≤ 1 := by split <;> omega
    obtain ⟨i1, i2, i3, i4, i5⟩ := takeB_spec B q hq us vs (p / B) (if u.toNat < p % B + b then 1 else 0) (by simpa using hl) hu.tail hv.tail hp1 hb1
    have ed := sub_digit (B := B) (u := u.toNat) (x := p % B) (b := b) (by omega) (Nat.mod_lt _ hB) hb
    have hm : (u.toNat + B - p % B - b) % B < B := Nat.mod_lt _ hB
    have hpm := Nat.mod_add_div p B
    unfold takeB
    simp only [hp]
    generalize hN : takeB B q us vs (p / B) (if u.toNat < p % B + b then 1 else 0) = N at i1 i2 i3 i4 i5 ⊢
    generalize hbb : (if u.toNat < p % B + b then 1 else 0) = bb at *
    generalize hdd : (u.toNat + B - p % B - b) % B = dd at *
    refine ⟨?_, DigB.cons (by omega) (by omega) i2, i3, i4, by simp [i5]⟩
    rw [valB_cons, valB_cons, valB_cons, Int.toNat_natCast, List.length_cons, Nat.pow_succ, Nat.mul_comm (B ^ us.length) B, Nat.mul_assoc, Nat.mul_add q, Nat.mul_left_comm q B]
    have i6 := congrArg (B * ·) i1
    simp only [Nat.mul_add] at i6
    simp only [Nat.mul_add]
    omega
  | [], v :: vs, c, b, hl, _, _, _, _ => by simp at hl
  | u :: us, [], c, b, hl, _, _, _, _ => by simp at hl
def backB (B : Nat) : List Int → List Int → Nat → List Int × Nat
  | u :: us, v :: vs, c =>
    let s := u.toNat + v.toNat + c
    let n := backB B us vs (s / B)
    (((s % B : Nat) : Int) :: n.1, n.2)
  | us, [], c => (us, c)
  | [], _ :: _, c => ([], c)
theorem backB_spec (B : Nat) : ∀ (us vs : List Int) (c : Nat), us.length = vs.length → DigB B us → DigB B vs → c ≤ 1 →
    valB B (backB B us vs c).1 + B ^ us.length * (backB B us vs c).2 = valB B us + valB B vs + c ∧ DigB B (backB B us vs c).1 ∧ (backB B us vs c).2 ≤ 1 ∧ (backB B us vs c).1.length = us.length
  | [], [], c, _, _, _, hc => by simp [backB, valB, hc]; exact DigB.nil B
  | u :: us, v :: vs, c, hl, hu, hv, hc => by
    have hu0 := hu u (by simp)
    have hv0 := hv v (by simp)
    have hB : 0 < B := by omega
    generalize hs : u.toNat + v.toNat + c = s
    have hs1 : s / B ≤ 1 := by
      have : s / B < 2 := Nat.div_lt_of_lt_mul (by omega)
      omega
    obtain ⟨i1, i2, i3, i4⟩ := backB_spec B us vs (s / B) (by simpa using hl) hu.tail hv.tail hs1
    have hm := Nat.mod_lt s hB
    have hsm := Nat.mod_add_div s B
    unfold backB
    simp only [hs]
    generalize hN : backB B us vs (s / B) = N at i1 i2 i3 i4 ⊢
    refine ⟨?_, DigB.cons (by omega) (by omega) i2, i3, by simp [i4]⟩
    rw [valB_cons, valB_cons, valB_cons, Int.toNat_natCast, List.length_cons, Nat.pow_succ, Nat.mul_comm (B ^ us.length) B, Nat.mul_assoc]
    have i6 := congrArg (B * ·) i1
    simp only [Nat.mul_add] at i6
    omega
  | [], v :: vs, c, hl, _, _, _ => by simp at hl
  | u :: us, [], c, hl, _, _, _ => by simp at hl
end Go.Proofs.YtibaoacjjcgjlaaGreatDoor.Base

namespace Go.Proofs.YtibaoacjjcgjlaaGreatDoor.Base
set_option linter.unusedVariables false
theorem DigB.take {B : Nat} {l : List Int} (h : DigB B l) (n : Nat) : DigB B (l.take n) := fun x hx => h x (List.mem_of_mem_take hx)
theorem DigB.drop {B : Nat} {l : List Int} (h : DigB B l) (n : Nat) : DigB B (l.drop n) := fun x hx => h x (List.mem_of_mem_drop hx)
theorem valB_split {B : Nat} (l : List Int) (n : Nat) (h : n ≤ l.length) : valB B l = valB B (l.take n) + B ^ n * valB B (l.drop n) := by
  conv => lhs; rw [← List.take_append_drop n l]
  rw [valB_append, List.length_take, Nat.min_eq_left h]
theorem valB_set {B : Nat} (l : List Int) (j : Nat) (h : j < l.length) (d : Int) : valB B (l.set j d) + B ^ j * (l.getD j 0).toNat = valB B l + B ^ j * d.toNat := by
  induction l generalizing j with
  | nil => simp at h
  | cons x r ih =>
    cases j with
    | zero => simp [valB]; omega
    | succ j =>
      have := ih j (by simpa using h)
      rw [List.set_cons_succ, valB_cons, valB_cons, Nat.pow_succ, Nat.mul_comm (B ^ j) B, Nat.mul_assoc, Nat.mul_assoc]
      have e : (x :: r).getD (j + 1) 0 = r.getD j 0 := by simp
      rw [e]
      have h2 := congrArg (B * ·) this
      simp only [Nat.mul_add] at h2
      omega
theorem part_down {B q : Nat} {us vs : List Int} {t : Int} {U V : Nat} (hB : 0 < B) (hl : us.length = vs.length) (hu : DigB B us) (hv : DigB B vs) (ht : 0 ≤ t ∧ t < (B : Int))
    (eU : U = valB B us + B ^ us.length * t.toNat) (eV : V = valB B vs) (g : GuessOk B U V q) (hV : 0 < V)
    {d : Int} {b : Nat} (hd : d = (((t.toNat + B - (takeB B q us vs 0 0).2.1 - (takeB B q us vs 0 0).2.2) % B : Nat) : Int))
    (hb : b = (if t.toNat < (takeB B q us vs 0 0).2.1 + (takeB B q us vs 0 0).2.2 then 1 else 0)) :
    (b = 0 → valB B ((takeB B q us vs 0 0).1 ++ [d]) = U % V ∧ q = U / V) ∧
    (b = 1 → 1 ≤ q ∧ valB B ((backB B (takeB B q us vs 0 0).1 vs 0).1 ++ [(d + ((backB B (takeB B q us vs 0 0).1 vs 0).2 : Int)) % (B : Int)]) = U % V ∧ q - 1 = U / V) := by
  obtain ⟨h1, h2, h3, h4, h5⟩ := takeB_spec B q g.lt us vs 0 0 hl hu hv hB (by omega)
  generalize hN : takeB B q us vs 0 0 = N at h1 h2 h3 h4 h5 hd hb ⊢
  obtain ⟨N1, c, bb⟩ := N
  dsimp only at h1 h2 h3 h4 h5 hd hb ⊢
  have ed := sub_digit (B := B) (u := t.toNat) (x := c) (b := bb) (by omega) h3 h4
  have hm := Nat.mod_lt (t.toNat + B - c - bb) hB
  generalize hx : (t.toNat + B - c - bb) % B = x at ed hm hd
  subst hd
  have hP : 0 < B ^ us.length := Nat.pow_pos hB
  have hvl : V < B ^ us.length := by rw [eV, hl]; exact valB_lt B vs hv
  have eT : valB B N1 + B ^ us.length * x + q * V = U + B ^ us.length * (B * b) := by
    have : B ^ us.length * (x + c + bb) = B ^ us.length * (t.toNat + B * b) := by rw [ed, hb]
    simp only [Nat.mul_add] at this h1
    rw [eU, eV]; omega
  have hN1 := valB_lt B N1 h2
  rw [h5] at hN1
  have hval : ∀ y : Nat, valB B (N1 ++ [((y : Nat) : Int)]) = valB B N1 + B ^ us.length * y := fun y => by rw [valB_append, h5, valB_cons, valB_nil]; simp
  refine ⟨fun hb0 => ?_, fun hb1 => ?_⟩
  · rw [hb0, Nat.mul_zero, Nat.mul_zero, Nat.add_zero] at eT
    rw [hval]
    have e1 := g.up
    rw [Nat.add_mul, Nat.one_mul] at e1
    have hlt : valB B N1 + B ^ us.length * x < V := by omega
    have eU2 : U = (valB B N1 + B ^ us.length * x) + V * q := by rw [Nat.mul_comm V q]; omega
    refine ⟨?_, ?_⟩
    · rw [eU2, Nat.add_mul_mod_self_left, Nat.mod_eq_of_lt hlt]
    · rw [eU2, Nat.add_mul_div_left _ _ hV, Nat.div_eq_of_lt hlt, Nat.zero_add]
  · rw [hb1, Nat.mul_one] at eT
    have hlow : valB B N1 + B ^ us.length * x < B ^ us.length * B := by
      have : B ^ us.length * (x + 1) ≤ B ^ us.length * B := Nat.mul_le_mul_left _ hm
      rw [Nat.mul_add] at this; omega
    have hq : U < q * V := by omega
    have hq1 : 1 ≤ q := by
      rcases Nat.eq_zero_or_pos q with h0 | h0
      · rw [h0] at hq; simp at hq
      · exact h0
    obtain ⟨k, rfl⟩ : ∃ k, q = k + 1 := ⟨q - 1, by omega⟩
    have e1 := g.dn
    rw [Nat.add_sub_cancel] at e1 ⊢
    rw [Nat.add_mul, Nat.one_mul] at eT hq
    obtain ⟨k1, k2, k3, k4⟩ := backB_spec B N1 vs 0 (by rw [h5, hl]) h2 hv (by omega)
    generalize hM : backB B N1 vs 0 = M at k1 k2 k3 k4 ⊢
    obtain ⟨M1, cc⟩ := M
    dsimp only at k1 k2 k3 k4 ⊢
    have hM1 := valB_lt B M1 k2
    rw [k4, h5] at hM1
    rw [h5] at k1
    have ey : ((x : Int) + (cc : Int)) % (B : Int) = (((x + cc) % B : Nat) : Int) := by rw [Int.natCast_emod, Int.natCast_add]
    rw [ey]
    have hy := Nat.mod_lt (x + cc) hB
    have hy2 := Nat.mod_add_div (x + cc) B
    generalize (x + cc) % B = y at hy hy2 ⊢
    generalize (x + cc) / B = z at hy2
    have eM : valB B (M1 ++ [((y : Nat) : Int)]) = valB B M1 + B ^ us.length * y := by rw [valB_append, k4, h5, valB_cons, valB_nil]; simp
    rw [eM]
    have e3 : valB B M1 + B ^ us.length * y + B ^ us.length * (B * z) = valB B N1 + B ^ us.length * x + V := by
      have : B ^ us.length * (y + B * z) = B ^ us.length * (x + cc) := by rw [hy2]
      simp only [Nat.mul_add] at this
      rw [← eV] at k1; omega
    have hlow2 : valB B M1 + B ^ us.length * y < B ^ us.length * B := by
      have : B ^ us.length * (y + 1) ≤ B ^ us.length * B := Nat.mul_le_mul_left _ hy
      rw [Nat.mul_add] at this; omega
    have hz : z = 1 := by
      have h6 : valB B M1 + B ^ us.length * y + B ^ us.length * (B * z) + (k * V) = U + B ^ us.length * B := by omega
      rcases Nat.lt_or_ge z 1 with c1 | c1
      · obtain rfl : z = 0 := by omega
        simp only [Nat.mul_zero, Nat.add_zero] at h6
        omega
      · rcases Nat.lt_or_ge 1 z with c2 | c2
        · exfalso
          have : B ^ us.length * (B * 2) ≤ B ^ us.length * (B * z) := Nat.mul_le_mul_left _ (Nat.mul_le_mul_left _ c2)
          have h7 : B ^ us.length * (B * 2) = B ^ us.length * B + B ^ us.length * B := by rw [← Nat.mul_add]; congr 1; omega
          have h8 : V ≤ B ^ us.length * B := by
            have : B ^ us.length * 1 ≤ B ^ us.length * B := Nat.mul_le_mul_left _ hB
            omega
          omega
        · omega
    rw [hz, Nat.mul_one] at e3
    have eU3 : U = (valB B M1 + B ^ us.length * y) + V * k := by rw [Nat.mul_comm V k]; omega
    have hlt : valB B M1 + B ^ us.length * y < V := by omega
    refine ⟨by omega, ?_, ?_⟩
    · rw [eU3, Nat.add_mul_mod_self_left, Nat.mod_eq_of_lt hlt]
    · rw [eU3, Nat.add_mul_div_left _ _ hV, Nat.div_eq_of_lt hlt, Nat.zero_add]
structure DivAt (B A V n : Nat) (L : Nat) (us qs : List Int) (j : Nat) : Prop where
  dig : DigB B us
  len : us.length = L
  qdig : DigB B qs
  rest : valB B (us.drop j) < V
  val : valB B us + V * (B ^ j * valB B (qs.drop j)) = A
theorem DivAt.part {B A V n L : Nat} {us qs : List Int} {j : Nat} (h : DivAt B A V n L us qs (j + 1)) (hB : 0 < B) (hV : V < B ^ n) (hj : j + n < L) :
    valB B ((us.drop j).take (n + 1)) = valB B (us.drop j) ∧ valB B (us.drop j) < B * V ∧ valB B (us.drop (j + n + 1)) = 0 := by
  have hd : us.drop j = us[j]'(by rw [h.len]; omega) :: us.drop (j + 1) := List.drop_eq_getElem_cons (by rw [h.len]; omega)
  have hdj := h.dig _ (List.getElem_mem (l := us) (show j < us.length by rw [h.len]; omega))
  have e1 := valB_split (B := B) (us.drop (j + 1)) n (by rw [List.length_drop, h.len]; omega)
  rw [List.drop_drop, show j + 1 + n = j + n + 1 by omega] at e1
  have hr := h.rest
  have e2 : valB B (us.drop (j + n + 1)) = 0 := by
    rcases Nat.eq_zero_or_pos (valB B (us.drop (j + n + 1))) with c | c
    · exact c
    · have : B ^ n * 1 ≤ B ^ n * valB B (us.drop (j + n + 1)) := Nat.mul_le_mul_left _ c
      omega
  refine ⟨?_, ?_, e2⟩
  · have e3 := valB_split (B := B) (us.drop j) (n + 1) (by rw [List.length_drop, h.len]; omega)
    rw [List.drop_drop, show j + (n + 1) = j + n + 1 by omega, e2, Nat.mul_zero, Nat.add_zero] at e3
    exact e3.symm
  · rw [hd, valB_cons]
    have : B * (valB B (us.drop (j + 1)) + 1) ≤ B * V := Nat.mul_le_mul_left _ hr
    rw [Nat.mul_add] at this
    omega
theorem DivAt.next {B A V n L : Nat} {us qs : List Int} {j : Nat} (h : DivAt B A V n L us qs (j + 1)) (hB : 0 < B) (hV : V < B ^ n) (hV0 : 0 < V) (hj : j + n < L) (hq : j < qs.length)
    {p : List Int} (hp : DigB B p) (hpl : p.length = n + 1) (hpv : valB B p = valB B (us.drop j) % V) {d : Int} (hd : d = ((valB B (us.drop j) / V : Nat) : Int)) :
    DivAt B A V n L (us.take j ++ p ++ us.drop (j + n + 1)) (qs.set j d) j := by
  obtain ⟨h1, h2, h3⟩ := h.part hB hV hj
  have hjl : j ≤ us.length := by rw [h.len]; omega
  have hdl : (us.take j).length = j := by rw [List.length_take, Nat.min_eq_left hjl]
  have hdB : valB B (us.drop j) / V < B := Nat.div_lt_of_lt_mul (by rw [Nat.mul_comm]; exact h2)
  have eD : valB B (us.take j ++ p ++ us.drop (j + n + 1)) = valB B (us.take j) + B ^ j * (valB B (us.drop j) % V) := by
    rw [List.append_assoc, valB_append, hdl, valB_append, h3, Nat.mul_zero, Nat.add_zero, hpv]
  refine ⟨((h.dig.take j).append hp).append (h.dig.drop _), ?_, ?_, ?_, ?_⟩
  · simp only [List.length_append, hdl, hpl, List.length_drop, h.len]; omega
  · intro x hx
    rcases List.mem_or_eq_of_mem_set hx with hx | rfl
    · exact h.qdig x hx
    · rw [hd]; exact ⟨Int.natCast_nonneg _, Int.ofNat_lt.2 hdB⟩
  · rw [List.append_assoc, List.drop_append_of_le_length (by omega), show (us.take j).drop j = [] from List.drop_eq_nil_of_le (by omega), List.nil_append, valB_append, h3, Nat.mul_zero, Nat.add_zero, hpv]
    exact Nat.mod_lt _ hV0
  · have hql : (qs.set j d).drop j = d :: qs.drop (j + 1) := by
      rw [List.drop_eq_getElem_cons (by simpa using hq), List.getElem_set_self, List.drop_set_of_lt (by omega)]
    rw [eD, hql, valB_cons, hd, Int.toNat_natCast, ← h.val]
    have e1 := valB_split (B := B) us j hjl
    rw [e1]
    have e2 := Nat.mod_add_div (valB B (us.drop j)) V
    generalize valB B (us.drop j) % V = r at e2 ⊢
    generalize valB B (us.drop j) / V = q at e2 ⊢
    rw [← e2, Nat.pow_succ]
    simp only [Nat.mul_add]
    have e4 : V * (B ^ j * q) = B ^ j * (V * q) := Nat.mul_left_comm _ _ _
    have e5 : B ^ j * B * valB B (qs.drop (j + 1)) = B ^ j * (B * valB B (qs.drop (j + 1))) := Nat.mul_assoc _ _ _
    rw [e4, e5]; omega
theorem DivAt.done {B A V n L : Nat} {us qs : List Int} (h : DivAt B A V n L us qs 0) (hV0 : 0 < V) : valB B qs = A / V ∧ valB B us = A % V := by
  have h1 := h.val
  have h2 := h.rest
  simp only [Nat.pow_zero, Nat.one_mul, List.drop_zero] at h1 h2
  refine ⟨?_, ?_⟩
  · rw [← h1, Nat.add_mul_div_left _ _ hV0, Nat.div_eq_of_lt h2, Nat.zero_add]
  · rw [← h1, Nat.add_mul_mod_self_left, Nat.mod_eq_of_lt h2]
theorem valB_zeros (B : Nat) : ∀ n, valB B (List.replicate n 0) = 0
  | 0 => rfl
  | n + 1 => by rw [List.replicate_succ, valB_cons, valB_zeros B n]; simp
theorem DigB.zeros (B : Nat) (hB : 0 < B) (n : Nat) : DigB B (List.replicate n 0) := fun x hx => by rw [List.eq_of_mem_replicate hx]; omega
end Go.Proofs.YtibaoacjjcgjlaaGreatDoor.Base

namespace Go.Proofs.YtibaoacjjcgjlaaGreatDoor.Base
set_option linter.unusedVariables false
theorem digB_zero (B : Nat) (hB : 2 ≤ B) : digB B 0 = [] := (digB_good B hB 0).zero (digB_val B hB 0)
theorem digB_small {B d : Nat} (hB : 2 ≤ B) (h0 : 0 < d) (h : d < B) : digB B d = [((d : Nat) : Int)] := by
  refine (GoodB.inj (digB_good B hB d) ⟨DigB.cons (by omega) (by omega) (DigB.nil B), ?_⟩ ?_)
  · intro c
    have : ((d : Nat) : Int) = 0 := by simpa using c
    omega
  · rw [digB_val B hB, valB_cons, valB_nil]; simp
theorem digB_len {B : Nat} (hB : 2 ≤ B) {v n : Nat} (h : v < B ^ n) : (digB B v).length ≤ n := by
  rcases Nat.lt_or_ge n (digB B v).length with c | c
  · exfalso
    have hne : digB B v ≠ [] := fun e => by rw [e] at c; simp at c
    have := (digB_good B hB v).len_lt hne
    rw [digB_val B hB] at this
    have h2 : B ^ n ≤ B ^ ((digB B v).length - 1) := Nat.pow_le_pow_right (by omega) (by omega)
    omega
  · exact c
theorem digB_len_ge {B : Nat} (hB : 2 ≤ B) {v n : Nat} (h : B ^ n ≤ v) : n < (digB B v).length := by
  rcases Nat.lt_or_ge n (digB B v).length with c | c
  · exact c
  · exfalso
    have := valB_lt B (digB B v) (digB_good B hB v).dig
    rw [digB_val B hB] at this
    have h2 : B ^ (digB B v).length ≤ B ^ n := Nat.pow_le_pow_right (by omega) c
    omega
theorem divAt_start {B A0 V0 S n la : Nat} (hB : 2 ≤ B) (hS : 0 < S) (hA : A0 < B ^ la) (hV : B ^ (n - 1) ≤ V0) (hn : 1 ≤ n) (hnl : n ≤ la) {us : List Int} (hu : DigB B us) (hl : us.length = la + 1) (hv : valB B us = S * A0) :
    DivAt B (S * A0) (S * V0) n (la + 1) us (List.replicate (la - n + 1) 0) (la - n + 1) := by
  refine ⟨hu, hl, DigB.zeros B (by omega) _, ?_, ?_⟩
  · have e1 := valB_split (B := B) us (la - n + 1) (by omega)
    rw [hv] at e1
    have e2 : S * A0 < S * B ^ la := Nat.mul_lt_mul_of_pos_left hA hS
    have e3 : B ^ la = B ^ (la - n + 1) * B ^ (n - 1) := by rw [← Nat.pow_add]; congr 1; omega
    have e4 : B ^ (la - n + 1) * (S * B ^ (n - 1)) ≤ B ^ (la - n + 1) * (S * V0) := Nat.mul_le_mul_left _ (Nat.mul_le_mul_left _ hV)
    have e5 : S * B ^ la = B ^ (la - n + 1) * (S * B ^ (n - 1)) := by rw [e3, Nat.mul_left_comm]
    have e6 : B ^ (la - n + 1) * valB B (us.drop (la - n + 1)) < B ^ (la - n + 1) * (S * V0) := by omega
    exact Nat.lt_of_mul_lt_mul_left e6
  · rw [List.drop_eq_nil_of_le (by simp), valB_nil, Nat.mul_zero, Nat.mul_zero, Nat.add_zero, hv]
theorem div_shifted {A V S : Nat} (hS : 0 < S) : S * A / (S * V) = A / V ∧ S * A % (S * V) / S = A % V := by
  refine ⟨Nat.mul_div_mul_left _ _ hS, ?_⟩
  rw [Nat.mul_mod_mul_left, Nat.mul_div_cancel_left _ hS]
theorem gcd_rests (a b : Nat) (hb : 0 < b) : Nat.gcd a b = Nat.gcd b (a % b) := by rw [Nat.gcd_comm a b, Nat.gcd_rec b a, Nat.gcd_comm]
theorem takeB_snoc (B q : Nat) : ∀ (us vs : List Int) (c b : Nat) (u v : Int), us.length = vs.length →
    takeB B q (us ++ [u]) (vs ++ [v]) c b = ((takeB B q us vs c b).1 ++ [(((u.toNat + B - (q * v.toNat + (takeB B q us vs c b).2.1) % B - (takeB B q us vs c b).2.2) % B : Nat) : Int)], (q * v.toNat + (takeB B q us vs c b).2.1) / B, if u.toNat < (q * v.toNat + (takeB B q us vs c b).2.1) % B + (takeB B q us vs c b).2.2 then 1 else 0)
  | [], [], c, b, u, v, _ => rfl
  | x :: us, y :: vs, c, b, u, v, h => by
    have ih := takeB_snoc B q us vs ((q * y.toNat + c) / B) (if x.toNat < (q * y.toNat + c) % B + b then 1 else 0) u v (by simpa using h)
    rw [List.cons_append, List.cons_append]
    unfold takeB
    dsimp only
    rw [ih]
    rfl
  | [], _ :: _, _, _, _, _, h => by simp at h
  | _ :: _, [], _, _, _, _, h => by simp at h
theorem backB_snoc (B : Nat) : ∀ (us vs : List Int) (c : Nat) (u v : Int), us.length = vs.length →
    backB B (us ++ [u]) (vs ++ [v]) c = ((backB B us vs c).1 ++ [(((u.toNat + v.toNat + (backB B us vs c).2) % B : Nat) : Int)], (u.toNat + v.toNat + (backB B us vs c).2) / B)
  | [], [], c, u, v, _ => rfl
  | x :: us, y :: vs, c, u, v, h => by
    have ih := backB_snoc B us vs ((x.toNat + y.toNat + c) / B) u v (by simpa using h)
    rw [List.cons_append, List.cons_append]
    unfold backB
    dsimp only
    rw [ih]
    rfl
  | [], _ :: _, _, _, _, h => by simp at h
  | _ :: _, [], _, _, _, h => by simp at h
theorem lead_bit (x : BitVec 32) : x.getLsbD 31 = decide (2147483648 ≤ x.toNat) := by
  have := BitVec.msb_eq_decide x
  rw [BitVec.msb_eq_getLsbD_last] at this
  simpa using this
theorem lead_shift (x : BitVec 32) : x.toNat / 2147483648 = if x.getLsbD 31 = true then 1 else 0 := by
  rw [lead_bit]
  have := x.isLt
  by_cases h : 2147483648 ≤ x.toNat
  · rw [if_pos (decide_eq_true h)]; omega
  · rw [if_neg (by simpa using h)]; omega
theorem borrow_bits {x y b : Nat} (hx : x < 4294967296) (hy : y < 4294967296) (hb : b ≤ 1) :
    (((~~~(BitVec.ofNat 32 x) &&& BitVec.ofNat 32 y) ||| (~~~(BitVec.ofNat 32 x ^^^ BitVec.ofNat 32 y) &&& BitVec.ofNat 32 ((x + 4294967296 - y + 4294967296 - b) % 4294967296))).toNat / 2147483648) = if x < y + b then 1 else 0 := by
  rw [lead_shift]
  have e : ((~~~(BitVec.ofNat 32 x) &&& BitVec.ofNat 32 y) ||| (~~~(BitVec.ofNat 32 x ^^^ BitVec.ofNat 32 y) &&& BitVec.ofNat 32 ((x + 4294967296 - y + 4294967296 - b) % 4294967296))).getLsbD 31 = decide (x < y + b) := by
    rw [BitVec.getLsbD_or, BitVec.getLsbD_and, BitVec.getLsbD_and, BitVec.getLsbD_not, BitVec.getLsbD_not, BitVec.getLsbD_xor, lead_bit, lead_bit, lead_bit]
    simp only [BitVec.toNat_ofNat]
    rw [Nat.mod_eq_of_lt (show x < 2 ^ 32 from hx), Nat.mod_eq_of_lt (show y < 2 ^ 32 from hy), Nat.mod_eq_of_lt (show (x + 4294967296 - y + 4294967296 - b) % 4294967296 < 2 ^ 32 from Nat.mod_lt _ (by decide))]
    by_cases c1 : 2147483648 ≤ x <;> by_cases c2 : 2147483648 ≤ y <;> simp [c1, c2] <;> omega
  rw [e]
  by_cases h : x < y + b
  · rw [if_pos (decide_eq_true h), if_pos h]
  · rw [if_neg (by simpa using h), if_neg h]
end Go.Proofs.YtibaoacjjcgjlaaGreatDoor.Base

namespace Go.Proofs.YtibaoacjjcgjlaaGreatDoor.Print
open Go.RowKit Go.Proofs.YtibaoacjjcgjlaaGreatDoorW.PrintWords Go.Proofs.YtibaoacjjcgjlaaGreatDoorW.PrintLast Go.Proofs.YtibaoacjjcgjlaaGreatDoorW.PrintMore Go.Proofs.YtibaoacjjcgjlaaGreatDoor.Base
attribute [local go_sem] max2_int min2_int max_two min_two   -- for this text's walks alone
set_option linter.unusedVariables false
set_option linter.unusedSimpArgs false
theorem or_add (h lo : Nat) (hh : h < 4294967296) (hl : lo < 4294967296) : bits .or .u64 ((h * 4294967296 : Nat) : Int) (lo : Int) = ((h * 4294967296 + lo : Nat) : Int) := by
  rw [u64_or_nat _ _ (by omega) (by omega)]
  have := Nat.shiftLeft_add_eq_or_of_lt (i := 32) (show lo < 2 ^ 32 from hl) h
  rw [Nat.shiftLeft_eq] at this
  rw [← this]
theorem two_pow_split (s : Nat) (hs : s < 32) : 4294967296 = 2 ^ s * 2 ^ (32 - s) := by rw [← Nat.pow_add, show s + (32 - s) = 32 by omega]
theorem shr_digit {S T hi lo : Nat} (hST : 4294967296 = S * T) (hS : 0 < S) (hT : 0 < T) (hl : lo < 4294967296) : (hi * 4294967296 + lo) / S % 4294967296 = lo / S + hi % S * T := by
  have e1 : (hi * 4294967296 + lo) / S = hi * T + lo / S := by
    rw [hST, Nat.mul_left_comm, Nat.add_comm, Nat.add_mul_div_left _ _ hS, Nat.add_comm]
  have e2 : lo / S < T := Nat.div_lt_of_lt_mul (by rw [← hST]; exact hl)
  have e3 : hi * T = S * T * (hi / S) + hi % S * T := by
    conv => lhs; rw [← Nat.div_add_mod hi S]
    rw [Nat.add_mul, Nat.mul_right_comm]
  have e4 : hi % S * T + lo / S < S * T := by
    have h1 : hi % S + 1 ≤ S := Nat.mod_lt _ hS
    have h2 := Nat.mul_le_mul_right T h1
    rw [Nat.add_mul, Nat.one_mul] at h2
    omega
  rw [e1, e3, hST, Nat.add_assoc, Nat.mul_add_mod, Nat.mod_eq_of_lt e4, Nat.add_comm]
theorem shl_digit {S T hi lo : Nat} (hST : 4294967296 = S * T) (hS : 0 < S) (hT : 0 < T) (hl : lo < 4294967296) : (hi * 4294967296 + lo) * S % 18446744073709551616 / 4294967296 % 4294967296 = hi * S % 4294967296 + lo / T := by
  have e1 : (hi * 4294967296 + lo) * S % 18446744073709551616 / 4294967296 = (hi * 4294967296 + lo) * S / 4294967296 % 4294967296 := by
    rw [show (18446744073709551616 : Nat) = 4294967296 * 4294967296 by decide, Nat.mod_mul_right_div_self]
  have e2 : (hi * 4294967296 + lo) * S / 4294967296 = hi * S + lo / T := by
    rw [Nat.add_mul, Nat.mul_right_comm, Nat.mul_comm (hi * S), Nat.add_comm, Nat.add_mul_div_left _ _ (by decide), Nat.add_comm]
    congr 1
    rw [hST, Nat.mul_comm lo S, Nat.mul_div_mul_left _ _ hS]
  have e3 : hi * S % 4294967296 = S * (hi % T) := by rw [hST, Nat.mul_comm hi S, Nat.mul_mod_mul_left]
  have e4 : lo / T < S := Nat.div_lt_of_lt_mul (by rw [Nat.mul_comm, ← hST]; exact hl)
  have e5 : S * (hi % T) + lo / T < 4294967296 := by
    have h1 : hi % T + 1 ≤ T := Nat.mod_lt _ hT
    have h2 := Nat.mul_le_mul_left S h1
    rw [Nat.mul_add, Nat.mul_one, ← hST] at h2
    omega
  rw [e1, Nat.mod_mod, e2, ← Nat.mod_add_mod, e3, Nat.mod_eq_of_lt e5]
set_option maxRecDepth 100000 in
set_option maxHeartbeats 8000000 in
theorem shr1_calls (i : Nat) (A : Option Addr) (ca : Nat) (a : List Int) (s : Nat) (Bn Ba : Nat) (W : World) (ha : DigB 4294967296 a) (ra : Kd.C (Kd.int .u32) W A a.length a) (la : a.length ≤ ca) (hs : s < 32) (hi : i < 1073741824)
    (hN : Boxed W Bn 3 (.int .i64 (s : Int))) (hA : Boxed W Ba 29 (.slice A a.length ca)) :
    Calls Tryz.prog 158 #[.int .i64 (i : Int), .pointer (some ⟨Bn, 0, none⟩), .pointer (some ⟨Ba, 0, none⟩)] W fun e W' =>
      e = .returned (.int .u64 ((shrF (2 ^ s) (2 ^ (32 - s)) a i : Nat) : Int)) ∧ Drawn0 W W' := by
  have h1 := hN.cell
  have h2 := hA.cell
  have cA := fun W h => limb_calls A ca a (i : Int) W h la ha
  have cB := fun W h => limb_calls A ca a ((i : Int) + 1) W h la ha
  rw [if_neg (by omega), Int.toNat_natCast] at cA
  rw [if_neg (by omega), show ((i : Int) + 1).toNat = i + 1 by omega] at cB
  have l0 := limbN_lt (by decide) ha i
  have l1 := limbN_lt (by decide) ha (i + 1)
  unfold shrF
  generalize limbN a i = lo at cA l0 ⊢
  generalize limbN a (i + 1) = hi at cB l1 ⊢
  have q1 : ((s : Int)).tdiv 32 = 0 := by rw [Int.tdiv_eq_ediv_of_nonneg (by omega)]; omega
  have q2 : ((s : Int)).tmod 32 = (s : Int) := by rw [Int.tmod_eq_emod_of_nonneg (by omega)]; omega
  have q3 : (s : Int) / 32 = 0 := by omega
  have q4 : (s : Int) % 32 = (s : Int) := by omega
  obtain ⟨i1, hi1⟩ : ∃ j : Nat, i + 1 = j := ⟨_, rfl⟩
  have e0 : IntKind.i64.wrap ((i : Int) + 1) = (i1 : Int) := by rw [i64_w]; unfold wrap64; omega
  rw [show (i : Int) + 1 = (i1 : Int) by omega] at cB
  obtain ⟨h2', hh2⟩ : ∃ y, hi * 4294967296 = y := ⟨_, rfl⟩
  obtain ⟨x, hx⟩ : ∃ x, h2' + lo = x := ⟨_, rfl⟩
  have e1 : IntKind.u64.wrap ((hi : Int) * 4294967296) = (h2' : Int) := by rw [IntKind.wrap_u64]; omega
  have e2 : bits .or .u64 (h2' : Int) (lo : Int) = (x : Int) := by rw [← hx, ← hh2]; exact or_add hi lo l1 l0
  have e3 : bits .and .u64 ((x : Int) / 2 ^ s) 4294967295 = ((lo / 2 ^ s + hi % 2 ^ s * 2 ^ (32 - s) : Nat) : Int) := by
    have e : (x : Int) / 2 ^ s = ((x / 2 ^ s : Nat) : Int) := by rw [Int.natCast_ediv, Int.natCast_pow]; rfl
    have hle : x / 2 ^ s ≤ x := Nat.div_le_self _ _
    rw [e, and_mask _ (by omega), ← hx, ← hh2, shr_digit (two_pow_split s hs) (Nat.two_pow_pos _) (Nat.two_pow_pos _) l0]
  have E3 := Aside0.mk e3
  clear e3
  have RA := Aside0.mk ra
  clear ra
  go_enter Tryz.func158, Tryz.ntmps158
  go_wp2
  go_region_held3 (fun w' => w'.cell? ⟨Bn, 0, none⟩ = some (.int .i64 (s : Int)) ∧ w'.cell? ⟨Ba, 0, none⟩ = some (.slice A a.length ca)) (first | assumption | go_keep) (first | (go_at_call 64; (with_reducible refine (cA _ ?_).mono ?_); (repeat (first | (with_reducible exact RA.out) | (with_reducible refine Kd.cN9 ?_ _) | (with_reducible refine Kd.cD9 ?_))); rintro e w' ⟨rfl, ⟨qa, rfl⟩⟩) | (go_at_call 64; (with_reducible refine (cB _ ?_).mono ?_); (repeat (first | (with_reducible exact RA.out) | (with_reducible refine Kd.cN9 ?_ _) | (with_reducible refine Kd.cD9 ?_))); rintro e w' ⟨rfl, ⟨qb, rfl⟩⟩))
  all_goals
    go_wp2
    go_ret
    exact ⟨by rw [← E3.out]; rfl, ⟨_, rfl⟩⟩
set_option maxRecDepth 100000 in
set_option maxHeartbeats 8000000 in
theorem shl1_calls (i : Nat) (A : Option Addr) (ca : Nat) (a : List Int) (s : Nat) (Bn Ba : Nat) (W : World) (ha : DigB 4294967296 a) (ra : Kd.C (Kd.int .u32) W A a.length a) (la : a.length ≤ ca) (hs : s < 32) (hi : i < 1073741824)
    (hN : Boxed W Bn 3 (.int .i64 (s : Int))) (hA : Boxed W Ba 29 (.slice A a.length ca)) :
    Calls Tryz.prog 155 #[.int .i64 (i : Int), .pointer (some ⟨Bn, 0, none⟩), .pointer (some ⟨Ba, 0, none⟩)] W fun e W' =>
      e = .returned (.int .u64 ((shlF 4294967296 (2 ^ s) (2 ^ (32 - s)) a i : Nat) : Int)) ∧ Drawn0 W W' := by
  have h1 := hN.cell
  have h2 := hA.cell
  have cA := fun W h => limb_calls A ca a (i : Int) W h la ha
  have cB := fun W h => limb_calls A ca a ((i : Int) - 1) W h la ha
  rw [if_neg (by omega), Int.toNat_natCast] at cA
  rw [show (if (i : Int) - 1 < 0 then (0 : Int) else (limbN a ((i : Int) - 1).toNat : Int)) = ((if i = 0 then 0 else limbN a (i - 1) : Nat) : Int) by
    by_cases h0 : i = 0
    · rw [if_pos (by omega), if_pos h0]; rfl
    · rw [if_neg (by omega), if_neg h0, show ((i : Int) - 1).toNat = i - 1 by omega]] at cB
  have l1 := limbN_lt (by decide) ha i
  have l0 : (if i = 0 then 0 else limbN a (i - 1)) < 4294967296 := by
    split
    · decide
    · exact limbN_lt (by decide) ha (i - 1)
  have hF : shlF 4294967296 (2 ^ s) (2 ^ (32 - s)) a i = limbN a i * 2 ^ s % 4294967296 + (if i = 0 then 0 else limbN a (i - 1)) / 2 ^ (32 - s) := by
    unfold shlF
    by_cases h0 : i = 0
    · rw [if_pos h0, if_pos h0, Nat.zero_div]
    · rw [if_neg h0, if_neg h0]
  rw [hF]
  clear hF
  generalize (if i = 0 then 0 else limbN a (i - 1)) = lo at cB l0 ⊢
  generalize limbN a i = hi at cA l1 ⊢
  have q1 : ((s : Int)).tdiv 32 = 0 := by rw [Int.tdiv_eq_ediv_of_nonneg (by omega)]; omega
  have q2 : ((s : Int)).tmod 32 = (s : Int) := by rw [Int.tmod_eq_emod_of_nonneg (by omega)]; omega
  have q3 : (s : Int) / 32 = 0 := by omega
  have q4 : (s : Int) % 32 = (s : Int) := by omega
  obtain ⟨i1, hi1⟩ : ∃ j : Int, (i : Int) - 1 = j := ⟨_, rfl⟩
  have e0 : IntKind.i64.wrap ((i : Int) - 1) = i1 := by rw [i64_w]; unfold wrap64; omega
  rw [hi1] at cB
  clear hi1
  obtain ⟨h2', hh2⟩ : ∃ y, hi * 4294967296 = y := ⟨_, rfl⟩
  obtain ⟨x, hx⟩ : ∃ x, h2' + lo = x := ⟨_, rfl⟩
  obtain ⟨y, hy⟩ : ∃ y, x * 2 ^ s % 18446744073709551616 = y := ⟨_, rfl⟩
  have e1 : IntKind.u64.wrap ((hi : Int) * 4294967296) = (h2' : Int) := by rw [IntKind.wrap_u64]; omega
  have e2 : bits .or .u64 (h2' : Int) (lo : Int) = (x : Int) := by rw [← hx, ← hh2]; exact or_add hi lo l1 l0
  have e4 : IntKind.u64.wrap ((x : Int) * 2 ^ s) = (y : Int) := by
    rw [IntKind.wrap_u64, ← hy, Int.natCast_emod, Int.natCast_mul, Int.natCast_pow]; rfl
  have e3 : bits .and .u64 ((y : Int) / 4294967296) 4294967295 = ((hi * 2 ^ s % 4294967296 + lo / 2 ^ (32 - s) : Nat) : Int) := by
    have hlt : y < 18446744073709551616 := by rw [← hy]; exact Nat.mod_lt _ (by decide)
    have e : (y : Int) / 4294967296 = ((y / 4294967296 : Nat) : Int) := by omega
    rw [e, and_mask _ (by omega), ← hy, ← hx, ← hh2, shl_digit (two_pow_split s hs) (Nat.two_pow_pos _) (Nat.two_pow_pos _) l0]
  have E3 := Aside0.mk e3
  have RA := Aside0.mk ra
  clear ra e3 hy hx hh2
  have hd0 : decide ((i : Int) < 0) = false := decide_eq_false (by omega)
  go_enter Tryz.func155, Tryz.ntmps155
  go_wp2
  go_region_held3 (fun w' => w'.cell? ⟨Bn, 0, none⟩ = some (.int .i64 (s : Int)) ∧ w'.cell? ⟨Ba, 0, none⟩ = some (.slice A a.length ca)) (first | assumption | go_keep) (first | (go_at_call 64; (with_reducible refine (cA _ ?_).mono ?_); (repeat (first | (with_reducible exact RA.out) | (with_reducible refine Kd.cN9 ?_ _) | (with_reducible refine Kd.cD9 ?_))); rintro e w' ⟨rfl, ⟨qa, rfl⟩⟩) | (go_at_call 64; (with_reducible refine (cB _ ?_).mono ?_); (repeat (first | (with_reducible exact RA.out) | (with_reducible refine Kd.cN9 ?_ _) | (with_reducible refine Kd.cD9 ?_))); rintro e w' ⟨rfl, ⟨qb, rfl⟩⟩))
  all_goals
    go_wp2
    go_ret
    exact ⟨by rw [← E3.out]; rfl, ⟨_, rfl⟩⟩
theorem shrF_small {a : List Int} (ha : DigB 4294967296 a) {s : Nat} (hs : s < 32) (i : Nat) : shrF (2 ^ s) (2 ^ (32 - s)) a i ≤ 4 * (4294967296 - 1) := by
  unfold shrF
  have h1 := limbN_lt (by decide) ha i
  have h2 : limbN a i / 2 ^ s ≤ limbN a i := Nat.div_le_self _ _
  have h3 : limbN a (i + 1) % 2 ^ s * 2 ^ (32 - s) ≤ 2 ^ s * 2 ^ (32 - s) := Nat.mul_le_mul_right _ (Nat.le_of_lt (Nat.mod_lt _ (Nat.two_pow_pos _)))
  rw [← two_pow_split s hs] at h3
  omega
theorem shlF_small {a : List Int} (ha : DigB 4294967296 a) {s : Nat} (i : Nat) : shlF 4294967296 (2 ^ s) (2 ^ (32 - s)) a i ≤ 4 * (4294967296 - 1) := by
  unfold shlF
  have h1 := Nat.mod_lt (limbN a i * 2 ^ s) (show 0 < 4294967296 by decide)
  split
  · omega
  · have h2 := limbN_lt (by decide) ha (i - 1)
    have h3 : limbN a (i - 1) / 2 ^ (32 - s) ≤ limbN a (i - 1) := Nat.div_le_self _ _
    omega
def nat_Shr.f (l0 : List Int) (a1 : Int) : Option (List Int) := if okN l0 = true ∧ 0 ≤ a1 ∧ a1 < 32 then some (digB 4294967296 (valB 4294967296 l0 / 2 ^ a1.toNat)) else none
set_option maxRecDepth 100000 in
set_option maxHeartbeats 4000000 in
theorem nat_Shr.calls (A0 : Option Addr) (c0 : Nat) (l0 : List Int) (a1 : Int) (r : List Int) (w : World) (hr0 : Kd.C (Kd.int .u32) w A0 l0.length l0) (hc0 : l0.length ≤ c0) (h : nat_Shr.f l0 a1 = some r) :
    Calls Tryz.prog 144 #[.slice A0 l0.length c0, .int .i64 a1] w fun e w' => ∃ v0_ : Value, e = .returned (v0_) ∧ Kd.R (Kd.int .u32) 88 w' w.heap.size (fun _ => True) v0_ r ∧ Below w.heap.size w w' := by
  unfold nat_Shr.f at h
  by_cases hg : okN l0 = true ∧ 0 ≤ a1 ∧ a1 < 32
  · rw [if_pos hg] at h
    obtain rfl := Option.some.inj h
    obtain ⟨n0, d0⟩ := okN_iff.1 hg.1
    obtain ⟨s, rfl⟩ : ∃ s : Nat, a1 = s := ⟨a1.toNat, by omega⟩
    have hs : s < 32 := by omega
    simp only [Int.toNat_natCast]
    obtain ⟨w0, hw0⟩ : ∃ w0, (w.alloc (.cells #[.slice A0 l0.length c0] 29)).alloc (.cells #[.int .i64 (s : Int)] 3) = w0 := ⟨_, rfl⟩
    have hsz0 : w0.heap.size = w.heap.size + 2 := by rw [← hw0]; simp
    have b1 : Boxed w0 w.heap.size 29 (.slice A0 l0.length c0) := by rw [← hw0]; exact (Boxed.new _ _ _).alloc _
    have b2 : Boxed w0 (w.heap.size + 1) 3 (.int .i64 (s : Int)) := by
      have h := Boxed.new (w.alloc (.cells #[.slice A0 l0.length c0] 29)) 3 (.int .i64 (s : Int))
      rw [World.size_alloc] at h
      rw [← hw0]; exact h
    have hB0 : Below w.heap.size w w0 := by rw [← hw0]; repeat (first | exact Below.refl _ _ | apply bA9)
    have hG := gather_calls 158 #[.pointer (some ⟨w.heap.size + 1, 0, none⟩), .pointer (some ⟨w.heap.size, 0, none⟩)] l0.length (shrF (2 ^ s) (2 ^ (32 - s)) l0) _ w0 (atOk_quiet _ _ _ _ w w0 hB0 (enters_of Tryz.func158 (by kernel_rfl) rfl)
      (fun i W hi hW => shr1_calls i A0 c0 l0 s (w.heap.size + 1) w.heap.size W d0 (Kd.cB9 hr0 (hB0.trans (hW.mono hB0.size))) hc0 hs (by omega) ((hW.block _ (by omega)).trans b2) ((hW.block _ (by omega)).trans b1)) (shrF_small d0 hs)) (Below.refl _ _) (by omega)
    rw [shr_val (two_pow_split s hs) (Nat.two_pow_pos _)] at hG
    have HG := Aside0.mk hG
    have HB := Aside0.mk hB0
    have HS := Aside0.mk hsz0
    have HW0 := Aside0.mk hw0
    have k1 := b1.cell
    have k2 := b2.cell
    have k3 := b2.frozen
    have q1 : ((s : Int)).tdiv 32 = 0 := by rw [Int.tdiv_eq_ediv_of_nonneg (by omega)]; omega
    have q3 : (s : Int) / 32 = 0 := by omega
    clear hG hw0 hg h hr0 b1 b2 hB0 hsz0
    by_cases hn : l0.length = 0
    · have e : l0 = [] := List.eq_nil_of_length_eq_zero hn
      subst e
      go_enter Tryz.func144, Tryz.ntmps144
      go_wp2
      go_ret
      refine ⟨_, rfl, ?_, by repeat (first | exact Below.refl _ _ | apply bA9)⟩
      rw [valB_nil, Nat.zero_div, digB_zero _ (by decide)]
      exact Kd.R_nil _ _ _ _ _
    · have hd : decide ((0 : Int) ≥ (l0.length : Int)) = false := decide_eq_false (by omega)
      have hd2 : decide ((l0.length : Int) ≤ 0) = false := decide_eq_false (by omega)
      go_enter Tryz.func144, Tryz.ntmps144
      go_wp2_with (go_at_call 65; go_loud (rw [HW0.out]; refine HG.out.mono ?_); rintro e w2 ⟨v, rfl, hr1, hb1⟩)
      go_ret
      exact ⟨_, rfl, Kd.rL9 hr1 (by rw [HS.out]; omega), HB.out.trans (hb1.mono (by rw [HS.out]; omega))⟩
  · rw [if_neg hg] at h; cases h
def nat_Shl.f (l0 : List Int) (a1 : Int) : Option (List Int) := if okN l0 = true ∧ 0 ≤ a1 ∧ a1 < 32 then some (digB 4294967296 (2 ^ a1.toNat * valB 4294967296 l0)) else none
set_option maxRecDepth 100000 in
set_option maxHeartbeats 4000000 in
theorem nat_Shl.calls (A0 : Option Addr) (c0 : Nat) (l0 : List Int) (a1 : Int) (r : List Int) (w : World) (hr0 : Kd.C (Kd.int .u32) w A0 l0.length l0) (hc0 : l0.length ≤ c0) (h : nat_Shl.f l0 a1 = some r) :
    Calls Tryz.prog 140 #[.slice A0 l0.length c0, .int .i64 a1] w fun e w' => ∃ v0_ : Value, e = .returned (v0_) ∧ Kd.R (Kd.int .u32) 88 w' w.heap.size (fun _ => True) v0_ r ∧ Below w.heap.size w w' := by
  unfold nat_Shl.f at h
  by_cases hg : okN l0 = true ∧ 0 ≤ a1 ∧ a1 < 32
  · rw [if_pos hg] at h
    obtain rfl := Option.some.inj h
    obtain ⟨n0, d0⟩ := okN_iff.1 hg.1
    obtain ⟨s, rfl⟩ : ∃ s : Nat, a1 = s := ⟨a1.toNat, by omega⟩
    have hs : s < 32 := by omega
    simp only [Int.toNat_natCast]
    obtain ⟨w0, hw0⟩ : ∃ w0, (w.alloc (.cells #[.slice A0 l0.length c0] 29)).alloc (.cells #[.int .i64 (s : Int)] 3) = w0 := ⟨_, rfl⟩
    have hsz0 : w0.heap.size = w.heap.size + 2 := by rw [← hw0]; simp
    have b1 : Boxed w0 w.heap.size 29 (.slice A0 l0.length c0) := by rw [← hw0]; exact (Boxed.new _ _ _).alloc _
    have b2 : Boxed w0 (w.heap.size + 1) 3 (.int .i64 (s : Int)) := by
      have h := Boxed.new (w.alloc (.cells #[.slice A0 l0.length c0] 29)) 3 (.int .i64 (s : Int))
      rw [World.size_alloc] at h
      rw [← hw0]; exact h
    have hB0 : Below w.heap.size w w0 := by rw [← hw0]; repeat (first | exact Below.refl _ _ | apply bA9)
    have hv : 2 ^ s * valB 4294967296 l0 = sumB 4294967296 (shlF 4294967296 (2 ^ s) (2 ^ (32 - s)) l0) (l0.length + 1) := (shl_val (two_pow_split s hs) (Nat.two_pow_pos _) (Nat.two_pow_pos _) l0).symm
    have hG := gather_calls 155 #[.pointer (some ⟨w.heap.size + 1, 0, none⟩), .pointer (some ⟨w.heap.size, 0, none⟩)] (l0.length + 1) (shlF 4294967296 (2 ^ s) (2 ^ (32 - s)) l0)
    have hT := fun W h => top_calls A0 c0 l0 W h hc0 (by omega)
    have hAt : ∀ q, AtOk 155 #[.pointer (some ⟨w.heap.size + 1, 0, none⟩), .pointer (some ⟨w.heap.size, 0, none⟩)] (l0.length + 1) (w0.drewN q).heap.size (shlF 4294967296 (2 ^ s) (2 ^ (32 - s)) l0) (fun _ W => Below (w0.drewN q).heap.size (w0.drewN q) W) := fun q =>
      atOk_quiet _ _ _ _ w (w0.drewN q) (bN9 hB0 q) (enters_of Tryz.func155 (by kernel_rfl) rfl)
        (fun i W hi hW => shl1_calls i A0 c0 l0 s (w.heap.size + 1) w.heap.size W d0 (Kd.cB9 hr0 ((bN9 hB0 q).trans (hW.mono hB0.size))) hc0 hs (by omega) ((hW.block _ (by show w.heap.size + 1 < w0.heap.size; omega)).trans b2) ((hW.block _ (by show w.heap.size < w0.heap.size; omega)).trans b1)) (shlF_small d0)
    have HG : Aside0 (∀ q, Calls Tryz.prog 65 #[.int .i64 ((l0.length + 1 : Nat) : Int), .func (.func 155) #[] #[.pointer (some ⟨w.heap.size + 1, 0, none⟩), .pointer (some ⟨w.heap.size, 0, none⟩)]] (w0.drewN q) fun e W' => ∃ v, e = .returned v ∧ Kd.R (Kd.int .u32) 88 W' (w0.drewN q).heap.size (fun _ => True) v (digB 4294967296 (sumB 4294967296 (shlF 4294967296 (2 ^ s) (2 ^ (32 - s)) l0) (l0.length + 1))) ∧ Below (w0.drewN q).heap.size (w0.drewN q) W') :=
      ⟨fun q => hG _ (w0.drewN q) (hAt q) (Below.refl _ _) (by omega)⟩
    have HB := Aside0.mk hB0
    have HS := Aside0.mk hsz0
    have HC := Aside0.mk (Kd.cB9 hr0 hB0)
    have HW0 := Aside0.mk hw0
    have q1 : ((s : Int)).tdiv 32 = 0 := by rw [Int.tdiv_eq_ediv_of_nonneg (by omega)]; omega
    have q3 : (s : Int) / 32 = 0 := by omega
    have k1 := b1.cell
    have k2 := b2.cell
    clear hG hAt hw0 hg h hr0 b1 b2 hB0 hsz0
    obtain ⟨t, ht⟩ : ∃ t, (trimL l0).length = t := ⟨_, rfl⟩
    rw [ht] at hT
    have HT := Aside0.mk ht
    clear ht
    by_cases hn : t = 0
    · subst hn
      go_enter Tryz.func140, Tryz.ntmps140
      go_wp2_with (go_at_call 93; rw [HW0.out]; refine (hT _ HC.out).mono ?_; rintro e w' ⟨rfl, ⟨q, rfl⟩⟩)
      go_ret
      refine ⟨_, rfl, ?_, bN9 HB.out _⟩
      have e0 : trimL l0 = [] := List.eq_nil_of_length_eq_zero HT.out
      have e1 := trimL_val 4294967296 l0
      rw [e0, valB_nil] at e1
      rw [← e1, Nat.mul_zero, digB_zero _ (by decide)]
      exact Kd.R_nil _ _ _ _ _
    · have hd : ((t : Int) == 0) = false := beq_eq_false_iff_ne.mpr (by omega)
      rw [hv]
      clear hv
      go_enter Tryz.func140, Tryz.ntmps140
      go_wp2_with (first | (go_at_call 93; rw [HW0.out]; refine (hT _ HC.out).mono ?_; rintro e w' ⟨rfl, ⟨q, rfl⟩⟩) | (go_at_call 65; go_loud (refine (HG.out _).mono ?_); rintro e w2 ⟨v, rfl, hr1, hb1⟩))
      go_ret
      exact ⟨_, rfl, Kd.rL9 hr1 (by show _ ≤ w0.heap.size; rw [HS.out]; omega), (bN9 HB.out q).trans (hb1.mono (by show _ ≤ w0.heap.size; rw [HS.out]; omega))⟩
  · rw [if_neg hg] at h; cases h
end Go.Proofs.YtibaoacjjcgjlaaGreatDoor.Print
