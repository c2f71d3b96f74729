/- The contract of the program's shape.Index: what it returns for any shape and place, in the printer's form; no condition beyond those written. -/
import Derived.Test.YtfkohjngogjmkaaA2
import Derived.Test.YtfkohjngogjmkaaA1
import Derived.RangeFuncNested
import Derived.RangeFuncBound
import Derived.RangeFuncCalls
import Derived.RangeFuncLeaves
import Derived.RangeFuncBox
import Derived.Shelf.Abstract
import Derived.Shelf.RegionOpen
import Derived.WalkKit
import Derived.OwnWalkIn
import Derived.TacticsInMore
import Derived.LoopNIn
import Derived.LoopIn
import Derived.Deep.QuietTactic
import Derived.BigQuiet
import Derived.Lib.Hide
import Derived.Outline
namespace Go.Proofs.Ytfkohjngogjmkaa.Print
open Go.RowKit Go.Shelf Go.Proofs.YtfkohjngogjmkaaW.PrintWords Go.Proofs.YtfkohjngogjmkaaW.PrintLast
attribute [local go_sem] Oper.semAt_some
set_option linter.unusedVariables false

/-- The places from the back. -/
def backs (n : Nat) : List (Fin n) := (List.finRange n).reverse
theorem backs_length (n : Nat) : (backs n).length = n := by simp [backs]
theorem backs_take (n j : Nat) (h : j < n) : (backs n).take (n - j) = (backs n).take (n - 1 - j) ++ [⟨j, h⟩] := by
  rw [show n - j = n - 1 - j + 1 by omega, List.take_succ_eq_append_getElem (by rw [backs_length]; omega)]
  congr 2
  apply Fin.ext
  simp [backs]
  omega

/-- What an iterator over a slice needs of a round: what lay below n₀ lies as it lay; its own box, too. -/
def BackKeeps (n₀ Bs : Nat) (W W' : World) : Prop := Below n₀ W W' ∧ ∀ t v, Boxed W Bs t v → Boxed W' Bs t v
theorem BackKeeps.refl (n₀ Bs : Nat) (W : World) : BackKeeps n₀ Bs W W := ⟨Below.refl _ _, fun _ _ h => h⟩
theorem BackKeeps.trans {n₀ Bs : Nat} {A B C : World} (h : BackKeeps n₀ Bs A B) (k : BackKeeps n₀ Bs B C) : BackKeeps n₀ Bs A C := ⟨h.1.trans k.1, fun t v hv => k.2 t v (h.2 t v hv)⟩
theorem backKeeps_b {n₀ Bs : Nat} {w : World} (hn : n₀ ≤ w.heap.size) (W : World) (l : Nat) (o o' : Obj) (hl : w.heap.size ≤ l) (h : W.heap[l]? = some o) (hc : o.isCells = false) (hk : o.isWalk = false) : BackKeeps n₀ Bs W (W.putObj l o') :=
  ⟨belowK_b hn W l o o' hl h hc hk, fun t v hv => hv.kept (grownBy_putObj' W l o') (fun e => by
    obtain rfl : Bs = l := by simpa using e
    rw [show W.heap[Bs]? = _ from hv] at h; cases h; cases hc)⟩

set_option maxRecDepth 100000 in
set_option maxHeartbeats 2000000 in
/-- slices.Backward's closure: the pairs (i, s[i]) from the last one on, for every round that keeps what it reads. -/
theorem back1_in (F : Fence) (n : Nat) (h7 : F.fn 51) (hro : F.round = none) (hn : 1 ≤ n) (l Bs : Nat) (A : Option Addr) (c : Nat) (xs : List Int) (w0 : World) (hr : Kd.C (Kd.int .i64) w0 A xs.length xs) (J Jx : List (Fin xs.length) → World → Prop)
    (hY : ∀ (pre : List (Fin xs.length)) (x : Fin xs.length) (W : World), J pre W → pre.length < xs.length → YieldAt F (n - 1) Try.prog l #[.int .i64 (x.1 : Int), .int .i64 (rd xs (x.1 : Int))] W fun e W' =>
      (e = .returned (.bool true) ∧ J (pre ++ [x]) W' ∧ BackKeeps w0.heap.size Bs W W') ∨ (e = .returned (.bool false) ∧ Jx (pre ++ [x]) W'))
    (W : World) (hB : Below w0.heap.size w0 W) (hBs : Boxed W Bs 23 (.slice A xs.length c)) (h0 : J [] W) :
    CallsIn F n Try.prog 51 #[.func (.yield l) #[] #[], .pointer (some ⟨Bs, 0, none⟩)] W fun e W' => (∃ v, e = .returned v) ∧
      ((∃ ys, ys = backs xs.length ∧ J ys W') ∨ (∃ pre, True ∧ Jx pre W')) := by
  have hmax : xs.length ≤ 9223372036854775807 := Kd.C_max hr
  refine callsIn_of_wp Try.func51 rfl h7 ?_ hro
  simp only [Try.ntmps51, List.size_toArray, List.length_cons, List.length_nil, Nat.reduceAdd, Nat.reduceSub, Array.replicate_succ, Array.replicate_zero, List.push_toArray, List.append_toArray, List.nil_append, List.cons_append]
  have hc0 := hBs.cell
  gi_wp2
  gi_loopw [3] (fun v wr => ∃ i : Int, -1 ≤ i ∧ i < xs.length ∧ v = .int .i64 i ∧ J ((backs xs.length).take (((xs.length : Int) - 1 - i).toNat)) wr ∧ BackKeeps w0.heap.size Bs W wr)
    (fun v _ => ((intOf v) + 1).toNat)
  case atStart => exact ⟨(xs.length : Int) - 1, by omega, by omega, rfl, by rw [show ((xs.length : Int) - 1 - ((xs.length : Int) - 1)).toNat = 0 by omega]; exact h0, BackKeeps.refl _ _ _⟩
  case round =>
    obtain ⟨i, hi0, hi1, rfl, hJs, hkp⟩ := hrel
    by_cases hlt : 0 ≤ i
    · have hbx := (hkp.2 _ _ hBs).cell
      obtain ⟨ad, hA, hcell⟩ := Kd.at_int (Kd.C_below hr (hB.trans hkp.1)) i hlt hi1
      obtain ⟨j, rfl⟩ : ∃ j : Nat, i = j := ⟨i.toNat, by omega⟩
      have hj : j < xs.length := by omega
      obtain ⟨fn, tmps, assign, body, hy, hR⟩ := hY _ (⟨j, hj⟩ : Fin xs.length) wr hJs (by rw [List.length_take, backs_length]; omega)
      dsimp only at hy
      cases hA
      rw [Int.toNat_natCast] at hcell
      gi_wp2
      refine hR.mono ?_
      rintro e W3 (⟨rfl, hJ3, hk3⟩ | ⟨rfl, hJx3⟩)
      · gi_wp2
        go_roundw
        case rel => exact ⟨(j : Int) - 1, by omega, by omega, rfl, by rw [show ((xs.length : Int) - 1 - ((j : Int) - 1)).toNat = xs.length - j by omega, backs_take _ _ hj]; rw [show ((xs.length : Int) - 1 - (j : Int)).toNat = xs.length - 1 - j by omega] at hJ3; exact hJ3, hkp.trans hk3⟩
        case measure => simp [intOf]
      · gi_wp2
        refine bodyPost_ret (results_none rfl _ _ _) rfl ?_
        exact ⟨⟨_, rfl⟩, .inr ⟨_, trivial, hJx3⟩⟩
    · obtain rfl : i = -1 := by omega
      have hd : decide ((0 : Int) ≤ -1) = false := by decide
      gi_wp2
      go_end0
      rw [show ((xs.length : Int) - 1 - (-1)).toNat = xs.length by omega, List.take_of_length_le (by rw [backs_length]; omega)] at hJs
      exact ⟨⟨_, rfl⟩, .inl hJs⟩


set_option maxHeartbeats 1000000 in
/-- slices.Backward(s): the slice is boxed; the function value has the box. -/
theorem back_in (F : Fence) (n : Nat) (h5 : F.fn 41) (hro : F.round = none) (a : Option Addr) (len cap : Nat) (w : World) :
    CallsIn F n Try.prog 41 #[.slice a len cap] w fun e w' => e = .returned (.func (.func 51) #[] #[.pointer (some ⟨w.heap.size, 0, none⟩)]) ∧ w' = w.alloc (.cells #[.slice a len cap] 23) := by
  refine callsIn_of_wp Try.func41 rfl h5 ?_ hro
  simp only [Try.ntmps41, List.size_toArray, List.length_cons, List.length_nil, Nat.reduceAdd, Nat.reduceSub, Array.replicate_succ, Array.replicate_zero, List.push_toArray, List.append_toArray, List.nil_append, List.cons_append]
  gi_wp2
  go_ret
  exact ⟨rfl, rfl⟩

/-- Its value, as an iterator: all the pairs from the last one on, or the first ones of them. -/
theorem back_stops (F : Fence) (n : Nat) (h7 : F.fn 51) (hro : F.round = none) (hn : 1 ≤ n) (Bs : Nat) (A : Option Addr) (c : Nat) (xs : List Int) (w0 w : World) (hr : Kd.C (Kd.int .i64) w0 A xs.length xs) (h0 : Below w0.heap.size w0 w) (hBs : Boxed w Bs 23 (.slice A xs.length c)) :
    SeqStopsK F n Try.prog 51 #[.pointer (some ⟨Bs, 0, none⟩)] (fun x : Fin xs.length => #[Value.int .i64 (x.1 : Int), Value.int .i64 (rd xs (x.1 : Int))]) (BackKeeps w0.heap.size Bs) (fun ys => ys = backs xs.length) (fun _ => True) xs.length w := fun l J Jx W hW _ _ hY hj => by
  have hb : Boxed W Bs 23 (.slice A xs.length c) := (hW.block Bs hBs.lt).trans hBs
  exact back1_in F n h7 hro hn l Bs A c xs w0 hr J Jx hY W (h0.trans (hW.mono h0.size)) hb hj

/-- A round of Index: the place's digit is stored, the place divided. -/
def ixStep (xs : List Int) (st : List Int × Int) (x : Fin xs.length) : List Int × Int := (st.1.set x.1 (st.2 % rd xs (x.1 : Int)), st.2 / rd xs (x.1 : Int))
def ixRun (xs : List Int) (p : Int) (l : List (Fin xs.length)) : List Int × Int := l.foldl (ixStep xs) (List.replicate xs.length 0, p)
theorem ixRun_snoc (xs : List Int) (p : Int) (l : List (Fin xs.length)) (x : Fin xs.length) : ixRun xs p (l ++ [x]) = ixStep xs (ixRun xs p l) x := by simp [ixRun]

/-- A row of the call's own lies as it lay where a block that is no cells turns. -/
theorem own_rowR {β α : Type} (d : Kd α) (e base : Nat) (ok : Nat → Prop) (v : β → Value) (xs : β → List α) : Own (fun s W => d.R e W base ok (v s) (xs s)) := fun s X Y row h hg hr =>
  Kd.R_mono (Kd.R_move (Kd.R_bound h) (fun k hk => hg.block k hk.2.2.1 (fun ek => by
    obtain ⟨o, ho, hc⟩ := hr k ek.symm
    obtain ⟨_, _, _, q, _, cells, hcs⟩ := hk
    rw [hcs] at ho; cases ho; cases hc))) (fun k hk => hk.1)

/-- What a round leaves: the digit in the row, the place divided. -/
theorem ix_round {w W : World} {n x : Nat} {q v q' : Int} {os : List Int} {T : TypeId} {u : Value} (hP : Boxed W w.heap.size 3 (.int .i64 q)) (hO : Boxed W (w.heap.size + 1 + 1) T u)
    (hRow : Kd.R (Kd.int .i64) 3 W w.heap.size (fun k_ => k_ = w.heap.size + 1) (.slice (some ⟨w.heap.size + 1, 0, none⟩) n n) os) (hB : Below w.heap.size w W) :
    Boxed (((W.setCell ⟨w.heap.size + 1, x, none⟩ (.int .i64 v)).setCell ⟨w.heap.size, 0, none⟩ (.int .i64 q')).drew) w.heap.size 3 (.int .i64 q') ∧
    Boxed (((W.setCell ⟨w.heap.size + 1, x, none⟩ (.int .i64 v)).setCell ⟨w.heap.size, 0, none⟩ (.int .i64 q')).drew) (w.heap.size + 1 + 1) T u ∧
    Kd.R (Kd.int .i64) 3 (((W.setCell ⟨w.heap.size + 1, x, none⟩ (.int .i64 v)).setCell ⟨w.heap.size, 0, none⟩ (.int .i64 q')).drew) w.heap.size (fun k_ => k_ = w.heap.size + 1) (.slice (some ⟨w.heap.size + 1, 0, none⟩) n n) (os.set x v) ∧
    Below w.heap.size w (((W.setCell ⟨w.heap.size + 1, x, none⟩ (.int .i64 v)).setCell ⟨w.heap.size, 0, none⟩ (.int .i64 q')).drew) ∧
    BackKeeps w.heap.size (w.heap.size + 1 + 1 + 1) W (((W.setCell ⟨w.heap.size + 1, x, none⟩ (.int .i64 v)).setCell ⟨w.heap.size, 0, none⟩ (.int .i64 q')).drew) ∧
    KeepsOthers W (((W.setCell ⟨w.heap.size + 1, x, none⟩ (.int .i64 v)).setCell ⟨w.heap.size, 0, none⟩ (.int .i64 q')).drew) := by
  have b1 : Boxed (W.setCell ⟨w.heap.size + 1, x, none⟩ (.int .i64 v)) w.heap.size 3 (.int .i64 q) := blk_far hP (by show w.heap.size ≠ w.heap.size + 1; omega) _
  have r1 := Kd.R_putn hRow (x : Int) v
  rw [Int.toNat_natCast] at r1
  refine ⟨b1.set _, ?_, Kd.R_drew (Kd.R_far r1 (fun k hk => by show k ≠ w.heap.size; omega) _), ?_, ⟨?_, fun t u h => ?_⟩, ?_⟩
  · exact blk_far (blk_far hO (by show w.heap.size + 1 + 1 ≠ w.heap.size + 1; omega) _) (by show w.heap.size + 1 + 1 ≠ w.heap.size; omega) _
  · exact ((hB.setCell (p := ⟨w.heap.size + 1, x, none⟩) (by show w.heap.size ≤ w.heap.size + 1; omega) _).setCell (p := ⟨w.heap.size, 0, none⟩) (Nat.le_refl _) _).drew
  · exact (((Below.refl w.heap.size W).setCell (p := ⟨w.heap.size + 1, x, none⟩) (by show w.heap.size ≤ w.heap.size + 1; omega) _).setCell (p := ⟨w.heap.size, 0, none⟩) (Nat.le_refl _) _).drew
  · exact blk_far (blk_far h (by show w.heap.size + 1 + 1 + 1 ≠ w.heap.size + 1; omega) _) (by show w.heap.size + 1 + 1 + 1 ≠ w.heap.size; omega) _
  · exact ((KeepsOthers.setCell _ _ _).trans (KeepsOthers.setCell _ _ _)).trans (KeepsOthers.drew _)

/-- What shape.Index returns. -/
def shape_Index.f (k : Nat) (l0 : List Int) (a1 : Int) : Option (List Int × Int) :=
  (shape_May.f k l0).bind fun e => if e = 0 then (if a1 < 0 then some ([], 21) else (shape_product.f k l0).bind fun p => if a1 ≥ p then some ([], 21) else
    if l0.all (fun d => decide (1 ≤ d)) = true then (if a1 ≤ 9223372036854775807 then (if l0.length ≤ 35184372088832 then some ((ixRun l0 a1 (backs l0.length)).1, 0) else none) else none) else none) else some ([], e)
theorem shape_Index.mono : ∀ a0 a1 k, LeO (shape_Index.f k a0 a1) (shape_Index.f (k + 1) a0 a1) := by
  intro a0 a1 k
  unfold shape_Index.f
  refine LeO.bind (shape_May.mono _ _) (fun e => ?_)
  refine LeO.ite ?_ (LeO.refl _)
  refine LeO.ite (LeO.refl _) ?_
  exact LeO.bind (shape_product.mono _ _) (fun p => LeO.refl _)

/-- A call that only draws, in a region that is walked quietly. -/
theorem quiet_drawn {P : Program} {f : FuncId} {args : Array Value} {W : World} {a x : Nat} {v : Value} (h : Calls P f args (W.drewN (a + x)) fun e w' => e = .returned v ∧ Drawn0 (W.drewN (a + x)) w') :
    Calls P f args (W.drewN (a + x)) fun e w' => e = .returned v ∧ ∃ n, w' = W.drewN (a + n) :=
  h.mono fun e w' ⟨he, ⟨m, hw⟩⟩ => ⟨he, x + m, by rw [hw, World.drewN_drewN, Nat.add_assoc]⟩

set_option maxRecDepth 100000 in
set_option maxHeartbeats 4000000 in
theorem shape_Index.calls (k : Nat) (A0 : Option Addr) (c0 : Nat) (l0 : List Int) (a1 : Int) (r1 : List Int) (r2 : Int) (w : World) (hr0 : Kd.C (Kd.int .i64) w A0 l0.length l0) (hc0 : l0.length ≤ c0) (h : shape_Index.f k l0 a1 = some (r1, r2)) :
    Calls Try.prog 17 #[.slice A0 l0.length c0, .int .i64 a1] w fun e w' => ∃ v0_ : Value, e = .returned (.tuple #[v0_, .int .i64 r2]) ∧ Kd.R (Kd.int .i64) 3 w' w.heap.size (fun _ => True) v0_ r1 ∧ Below w.heap.size w w' := by
  unfold shape_Index.f at h
  replace h := Option.bind_eq_some_iff.1 h
  obtain ⟨e0, he0, h⟩ := h
  have HM := Aside0.mk he0
  have HR := Aside0.mk hr0
  have HC := Aside0.mk hc0
  clear he0 hr0 hc0
  refine callsIn_wide (n := 8).1 ?_
  refine callsIn_of_wp_marks Try.func17 rfl trivial ?_ rfl
  refine wpIn_wide.2 ?_
  simp only [Try.ntmps17, List.size_toArray, List.length_cons, List.length_nil, Nat.reduceAdd, Nat.reduceSub, Array.replicate_succ, Array.replicate_zero, List.push_toArray, List.append_toArray, List.nil_append, List.cons_append]
  by_cases c1 : e0 = 0
  · subst c1
    rw [if_pos rfl] at h
    by_cases c2 : a1 < 0
    · rw [if_pos c2] at h
      obtain ⟨rfl, rfl⟩ : [] = r1 ∧ 21 = r2 := by simpa using h
      clear h
      have c2b : decide (a1 < 0) = true := decide_eq_true c2
      go_wp2_with (go_at_call 26; refine (shape_May.calls k _ _ l0 0 _ (Kd.C_alloc HR.out _) HC.out HM.out).mono ?_; rintro e w' ⟨rfl, ⟨nd, rfl⟩⟩)
      go_quiet (fail)
      go_wp2
      exact ⟨_, results_tmp2 rfl _ _ _, _, rfl, Kd.R_nil _ _ _ _ _, pw_below_drewN (pw_below_drewN (below_alloc (Below.refl _ _) _) _) _⟩
    · rw [if_neg c2] at h
      replace h := Option.bind_eq_some_iff.1 h
      obtain ⟨p, hp, h⟩ := h
      have HP := Aside0.mk hp
      clear hp
      have c2b : decide (a1 < 0) = false := decide_eq_false c2
      by_cases c3 : a1 ≥ p
      · rw [if_pos c3] at h
        obtain ⟨rfl, rfl⟩ : [] = r1 ∧ 21 = r2 := by simpa using h
        clear h
        have c3b : decide (p ≤ a1) = true := decide_eq_true c3
        go_wp2_with (go_at_call 26; refine (shape_May.calls k _ _ l0 0 _ (Kd.C_alloc HR.out _) HC.out HM.out).mono ?_; rintro e w' ⟨rfl, ⟨nd, rfl⟩⟩)
        go_quiet ((go_at_call 40; exact quiet_drawn (shape_product.calls k _ _ l0 p _ (Kd.C_drewN (Kd.C_alloc HR.out _) _) HC.out HP.out)))
        go_wp2
        exact ⟨_, results_tmp2 rfl _ _ _, _, rfl, Kd.R_nil _ _ _ _ _, pw_below_drewN (pw_below_drewN (below_alloc (Below.refl _ _) _) _) _⟩
      · rw [if_neg c3] at h
        have c3b : decide (p ≤ a1) = false := decide_eq_false c3
        by_cases c4 : l0.all (fun d => decide (1 ≤ d)) = true
        · rw [if_pos c4] at h
          by_cases c5 : a1 ≤ 9223372036854775807
          · rw [if_pos c5] at h
            by_cases c6 : l0.length ≤ 35184372088832
            · rw [if_pos c6] at h
              have hmk := print_make (P := Try.prog) 22 3 .i64 8 Try.underlying22 info3 (by decide) l0.length (by omega)
              go_wp2_with (go_at_call 26; refine (shape_May.calls k _ _ l0 0 _ (Kd.C_alloc HR.out _) HC.out HM.out).mono ?_; rintro e w' ⟨rfl, ⟨nd, rfl⟩⟩)
              go_quiet ((go_at_call 40; exact quiet_drawn (shape_product.calls k _ _ l0 p _ (Kd.C_drewN (Kd.C_alloc HR.out _) _) HC.out HP.out)))
              go_wp2_with (go_at_call 41; refine (callsIn_wide.1 (back_in Fence.wide 8 trivial rfl A0 l0.length c0 _)).mono ?_; rintro e w' ⟨rfl, rfl⟩)
              obtain ⟨rfl, rfl⟩ : (ixRun l0 a1 (backs l0.length)).1 = r1 ∧ 0 = r2 := by simpa using h
              clear h
              have hall : ∀ x : Fin l0.length, 1 ≤ rd l0 (x.1 : Int) := fun x => by
                have := List.all_eq_true.1 c4 l0[x.1] (List.getElem_mem x.2)
                simpa [rd, x.2] using this
              have bP0 := Boxed.new w 3 (.int .i64 a1)
              have rR0 := own_made ((w.alloc (.cells #[.int .i64 a1] 3)).drewN (nd + nq)) w.heap.size 3 .i64 l0.length (by simp) (by omega)
              have bO0 := Boxed.new ((((w.alloc (.cells #[.int .i64 a1] 3)).drewN (nd + nq)).alloc (.cells (madeCells #[.int .i64 0] l0.length) 3))) 22 (.slice (some ⟨w.heap.size + 1, 0, none⟩) l0.length l0.length)
              have bS0 := Boxed.new ((((w.alloc (.cells #[.int .i64 a1] 3)).drewN (nd + nq)).alloc (.cells (madeCells #[.int .i64 0] l0.length) 3)).alloc (.cells #[.slice (some ⟨w.heap.size + 1, 0, none⟩) l0.length l0.length] 22)) 23 (.slice A0 l0.length c0)
              have hB0 : Below w.heap.size w ((((((w.alloc (.cells #[.int .i64 a1] 3)).drewN (nd + nq)).alloc (.cells (madeCells #[.int .i64 0] l0.length) 3)).alloc (.cells #[.slice (some ⟨w.heap.size + 1, 0, none⟩) l0.length l0.length] 22)).alloc (.cells #[.slice A0 l0.length c0] 23))) := by
                repeat (first | exact Below.refl _ _ | apply below_alloc | apply pw_below_drewN)
              have bP := ((Boxed.alloc (Boxed.alloc (Boxed.alloc (W := (w.alloc (.cells #[.int .i64 a1] 3)).drewN (nd + nq)) bP0 (.cells (madeCells #[.int .i64 0] l0.length) 3)) (.cells #[.slice (some ⟨w.heap.size + 1, 0, none⟩) l0.length l0.length] 22)) (.cells #[.slice A0 l0.length c0] 23)))
              have bO := bO0.alloc (.cells #[.slice A0 l0.length c0] 23)
              have rR := (rR0.alloc (.cells #[.slice (some ⟨w.heap.size + 1, 0, none⟩) l0.length l0.length] 22)).alloc (.cells #[.slice A0 l0.length c0] 23)
              simp only [World.size_alloc, World.heap_drewN] at bP bO bS0 rR
              obtain ⟨W0, hW0⟩ : ∃ W0, (((((w.alloc (.cells #[.int .i64 a1] 3)).drewN (nd + nq)).alloc (.cells (madeCells #[.int .i64 0] l0.length) 3)).alloc (.cells #[.slice (some ⟨w.heap.size + 1, 0, none⟩) l0.length l0.length] 22)).alloc (.cells #[.slice A0 l0.length c0] 23)) = W0 := ⟨_, rfl⟩
              have hsz : W0.heap.size = w.heap.size + 4 := by rw [← hW0]; simp
              rw [hW0] at bP bO bS0 rR hB0 ⊢
              clear bP0 rR0 bO0 hW0 hmk
              have rR1 : Kd.R (Kd.int .i64) 3 W0 w.heap.size (fun k_ => k_ = w.heap.size + 1) (.slice (some ⟨w.heap.size + 1, 0, none⟩) l0.length l0.length) (List.replicate l0.length 0) :=
                Kd.R_of_own (by simpa [nums, encs] using rR) (fun k hk => by simpa [Value.ownBlock, eq_comm] using hk)
              refine (wpIn_wide (n := 8)).1 ?_
              refine wpIn_rangeFunc_ownG rfl (by omega) (gf := 51) (lb := #[.pointer (some ⟨w.heap.size + 1 + 1 + 1, 0, none⟩)]) rfl trivial (enters_of Try.func51 (by kernel_rfl) rfl)
                (back_stops Fence.wide 7 trivial rfl (by omega) (w.heap.size + 1 + 1 + 1) A0 c0 l0 w W0 HR.out hB0 bS0) BackKeeps.trans (backKeeps_b hB0.size) (Below.refl _ _) (fun _ => rfl)
                (fun pre W => (((Boxed W w.heap.size 3 (.int .i64 (ixRun l0 a1 pre).2) ∧ Boxed W (w.heap.size + 1 + 1) 22 (.slice (some ⟨w.heap.size + 1, 0, none⟩) l0.length l0.length)) ∧
                  Kd.R (Kd.int .i64) 3 W w.heap.size (fun k_ => k_ = w.heap.size + 1) (.slice (some ⟨w.heap.size + 1, 0, none⟩) l0.length l0.length) (ixRun l0 a1 pre).1) ∧ (0 ≤ (ixRun l0 a1 pre).2 ∧ (ixRun l0 a1 pre).2 ≤ a1)) ∧ Below w.heap.size w W)
                (fun _ _ _ => False)
                (OwnFrom.and (OwnFrom.and (OwnFrom.and (OwnFrom.and ((boxed_own _ _ _).from _) ((boxed_own _ _ _).from _)) ((own_rowR _ _ _ _ _ _).from _)) (ownFrom_pure _ _)) (ownFrom_below (Nat.le_refl _) hB0.size))
                (fun _ _ _ _ _ hs _ _ => hs)
                ⟨⟨⟨⟨bP, bO⟩, rR1⟩, ⟨c2, Int.le_refl _⟩⟩, hB0⟩
                (fun x => { tmps := #[.slice A0 l0.length c0, .int .i64 a1, undef, .pointer (some ⟨w.heap.size, 0, none⟩), .slice none 0 0, .int .i64 0, .int .i64 0, .pointer (some ⟨w.heap.size + 1 + 1, 0, none⟩), .int .i64 (x.1 : Int), .int .i64 (rd l0 (x.1 : Int)), .slice A0 l0.length c0, .int .i64 0, .int .i64 0, .bool false, undef, .int .i64 a1, .bool false, .bool false, .int .i64 a1, .slice A0 l0.length c0, .int .i64 p, .bool false, .bool false, .slice A0 l0.length c0, .int .i64 l0.length, .slice (some ⟨w.heap.size + 1, 0, none⟩) l0.length l0.length, .slice A0 l0.length c0, .func (.func 51) #[] #[.pointer (some ⟨w.heap.size + 1 + 1 + 1, 0, none⟩)], .int .i64 (x.1 : Int), .int .i64 (rd l0 (x.1 : Int)), undef, undef, undef, undef, undef, undef, undef, undef, undef, undef], defers := [] }) ?assign ?body ?done ?stop
              case assign =>
                intro l x W K hK
                gi_wp2
                exact hK
              case body =>
                rintro l pre x W ⟨⟨⟨⟨hP, hO⟩, hRow⟩, ⟨h0, h1⟩⟩, hB⟩ _
                have hx0 : (0 : Int) ≤ (x.1 : Int) := by omega
                have hx1 : (x.1 : Int) < (l0.length : Int) := by have := x.2; omega
                have hd : 1 ≤ rd l0 (x.1 : Int) := hall x
                obtain ⟨hrc, hrf⟩ := Kd.R_celln 0 hRow (x.1 : Int) hx0 hx1
                rw [Int.toNat_natCast] at hrc hrf
                have hcP := hP.cell
                have hfP := hP.frozen
                have hcO := hO.cell
                have hmix : Try.prog.follows .mixedOrders = true := by kernel_rfl
                gi_wp2
                gi_region_with_o (fail)
                all_goals
                  gi_wp2
                  obtain ⟨f1, f2, f3, f4, f5, f6⟩ := ix_round (x := x.1) (v := (ixRun l0 a1 pre).2 % rd l0 (x.1 : Int)) (q' := (ixRun l0 a1 pre).2 / rd l0 (x.1 : Int)) hP hO hRow hB
                  exact ⟨f6.from _, f5, ⟨⟨⟨by rw [ixRun_snoc]; exact f1, f2⟩, by rw [ixRun_snoc]; exact f3⟩, by rw [ixRun_snoc]; exact ⟨Int.ediv_nonneg h0 (by omega), Int.le_trans (Int.ediv_le_self _ h0) h1⟩⟩, f4⟩
              case done =>
                rintro D ys W hD rfl ⟨⟨⟨⟨hP, hO⟩, hRow⟩, _⟩, hB⟩ hK
                have hcO := hO.cell
                go_wp2
                refine ⟨by simp, .inl ⟨_, _, rfl, run_takeDeferred hK, ?_⟩⟩
                refine ⟨_, results_tmp2 rfl _ _ _, _, rfl, ?_, hB.trans (belowK_b (w := w) (Nat.le_refl _) W D _ _ (by omega) hK rfl rfl)⟩
                exact Kd.R_mono (own_rowR (Kd.int .i64) 3 w.heap.size (fun k_ => k_ = w.heap.size + 1) (fun _ : Unit => .slice (some ⟨w.heap.size + 1, 0, none⟩) l0.length l0.length) (fun _ => (ixRun l0 a1 (backs l0.length)).1) () W _ _ hRow (grownBy_putObj' W D (.deferred none)) (fun r e => by cases e; exact ⟨_, hK, rfl⟩)) (fun _ _ => trivial)
              case stop =>
                rintro D c pre W _ _ h _
                exact h.elim
            · rw [if_neg c6] at h; exact absurd h (by simp)
          · rw [if_neg c5] at h; exact absurd h (by simp)
        · rw [if_neg c4] at h; exact absurd h (by simp)
  · have c1b : (e0 != 0) = true := bne_iff_ne.mpr c1
    rw [if_neg c1] at h
    obtain ⟨rfl, rfl⟩ : [] = r1 ∧ e0 = r2 := by simpa using h
    clear h
    go_wp2_with (go_at_call 26; refine (shape_May.calls k _ _ l0 e0 _ (Kd.C_alloc HR.out _) HC.out HM.out).mono ?_; rintro e w' ⟨rfl, ⟨nd, rfl⟩⟩)
    exact ⟨_, results_tmp2 rfl _ _ _, _, rfl, Kd.R_nil _ _ _ _ _, pw_below_drewN (below_alloc (Below.refl _ _) _) _⟩

end Go.Proofs.Ytfkohjngogjmkaa.Print
