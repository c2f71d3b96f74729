/- The contract of the program's op.Check, in the printer's form: why a node may not be in a version; no condition beyond those written. -/
import Derived.Test.YtbefcdidlfkmnaaHMay
namespace Go.Proofs.Ytbefcdidlfkmnaa.Print
open Go.RowKit Go.Shelf Go.Proofs.YtbefcdidlfkmnaaW.PrintWords Go.Proofs.YtbefcdidlfkmnaaW.PrintLast Go.Proofs.YtbefcdidlfkmnaaW.PrintMore
set_option linter.unusedVariables false
set_option linter.unusedSimpArgs false

/-- Is a number too far from 0? -/
def farB (x : Int) : Bool := decide (x > 2147483647) || decide (x < -2147483647)
theorem far_calls (x : Int) (w : World) : Calls Try.prog 25 #[.int .i64 x] w fun e w' => e = .returned (.bool (farB x)) ∧ Drawn0 w w' := by
  refine op_Check_1.calls x _ w ?_
  unfold op_Check_1.f farB
  by_cases h : x > 2147483647
  · rw [if_pos h, decide_eq_true h]; rfl
  · rw [if_neg h, decide_eq_false h, Bool.false_or]
theorem MayBoxes.stored {n : Nat} {W W' : World} (h : MayBoxes n W) (o : Obj) (ho : ∀ k, k ≠ W.heap.size → W'.heap[k]? = (W.alloc o).heap[k]?) : MayBoxes n W' := by
  have l0 := h.1.lt
  have l1 := h.2.1.lt
  have l2 := h.2.2.1.lt
  have l3 := h.2.2.2.lt
  exact ⟨(ho _ (by omega)).trans (h.1.alloc o), (ho _ (by omega)).trans (h.2.1.alloc o), (ho _ (by omega)).trans (h.2.2.1.alloc o), (ho _ (by omega)).trans (h.2.2.2.alloc o)⟩

set_option maxRecDepth 100000 in
set_option maxHeartbeats 8000000 in
theorem indexfar_calls (A : Option Addr) (c : Nat) (l : List Int) (w : World) (hC : Kd.C (Kd.int .i64) w A l.length l) :
    Calls Try.prog 37 #[.slice A l.length c, .func (.func 25) #[] #[]] w fun e w' => ∃ r : Int, e = .returned (.int .i64 r) ∧ decide (0 ≤ r) = l.any farB ∧ Drawn0 w w' := by
  have hmax := Kd.C_max hC
  have HC := Aside0.mk hC
  clear hC
  go_enter Try.func37, Try.ntmps37
  go_wp2
  go_loopw [8] (fun v wr => ∃ i : Nat, i ≤ l.length ∧ v = .int .i64 (i : Int) ∧ Aside0 (l.any farB = (l.drop i).any farB) ∧ Aside0 (∃ m, wr = w.drewN m)) (fun v _ => l.length - (intOf v).toNat)
  case atStart => exact ⟨0, by omega, rfl, ⟨rfl⟩, ⟨0, rfl⟩⟩
  case round =>
    obtain ⟨i, hi, rfl, HE, HM⟩ := hrel
    obtain ⟨m, rfl⟩ := HM.out
    clear HM
    by_cases hlt : i < l.length
    · have hd : decide ((i : Int) < (l.length : Int)) = true := by simp; omega
      obtain ⟨ad, hA, k0⟩ := Kd.at_int HC.out (i : Int) (by omega) (by omega)
      cases hA
      rw [Int.toNat_natCast] at k0
      have hd2 : l.drop i = rd l (i : Int) :: l.drop (i + 1) := by
        rw [List.drop_eq_getElem_cons hlt]; simp [rd, hlt]
      have HE2 := HE.out
      rw [hd2, List.any_cons] at HE2
      have HE3 := Aside0.mk HE2
      clear HE HE2 hd2
      generalize rd l (i : Int) = x0 at k0 HE3
      have HCall := Aside0.mk (far_calls x0 (w.drewN m))
      cases hp : farB x0 with
      | true =>
        rw [hp] at HE3 HCall
        go_wp2_with (go_at_call 25; refine HCall.out.mono ?_; rintro e w' ⟨rfl, ⟨m', rfl⟩⟩)
        go_ret
        exact ⟨_, rfl, by rw [HE3.out]; simp, ⟨_, by first | rfl | (rw [World.drewN_drewN])⟩⟩
      | false =>
        rw [hp] at HE3 HCall
        go_wp2_with (go_at_call 25; refine HCall.out.mono ?_; rintro e w' ⟨rfl, ⟨m', rfl⟩⟩)
        go_roundw
        case rel => exact ⟨i + 1, by omega, by simp, ⟨by rw [HE3.out, Bool.false_or]⟩, ⟨_, by first | rfl | (rw [World.drewN_drewN])⟩⟩
        case measure => simp [intOf]; omega
    · obtain rfl : i = l.length := by omega
      have hd : decide ((l.length : Int) < (l.length : Int)) = false := by simp
      go_wp2
      go_ret
      exact ⟨_, rfl, by rw [HE.out, List.drop_length]; rfl, ⟨_, rfl⟩⟩
theorem containsfar_calls (A : Option Addr) (c : Nat) (l : List Int) (w : World) (hC : Kd.C (Kd.int .i64) w A l.length l) :
    Calls Try.prog 27 #[.slice A l.length c, .func (.func 25) #[] #[]] w fun e w' => e = .returned (.bool (l.any farB)) ∧ Drawn0 w w' := by
  go_enter Try.func27, Try.ntmps27
  go_wp2_with (go_at_call 37; refine (indexfar_calls A c l _ hC).mono ?_; rintro e w' ⟨r, rfl, hr, hm⟩)
  go_ret
  exact ⟨by rw [← hr]; rfl, hm⟩

/-- Why a node may not be in a version. -/
def op_Check.f (k : Nat) (a0 : Int) (a1_0 : Int) (l1_1 l1_2 : List Int) : Option Int :=
  if a0 < 1 ∨ 3 < a0 then some 8 else match rowOf a1_0 with
  | none => some 9
  | some i => if firstI i ≤ a0 ∧ a0 ≤ lastI i then (if (l1_1.length : Int) < leastI i ∨ mostI i < (l1_1.length : Int) then some 10 else if l1_2.length = 0 ∧ a0 ≤ noneI i then some 0 else if l1_2.any farB = true then some 11 else (mayF k l1_2 i).bind fun b => if b = true then some 0 else some 11) else some 9
theorem mayF.mono (l : List Int) (i : Nat) : ∀ k, LeO (mayF k l i) (mayF (k + 1) l i) := by
  intro k
  unfold mayF
  split <;> first | exact LeO.refl _ | exact op_reduced.mono _ _ | exact op_dims.mono _ _ | exact op_rising.mono _ _
theorem op_Check.mono : ∀ a0 a1 a2 a3 k, LeO (op_Check.f k a0 a1 a2 a3) (op_Check.f (k + 1) a0 a1 a2 a3) := by
  intro a0 a1 a2 a3 k
  unfold op_Check.f
  refine LeO.ite (LeO.refl _) ?_
  split
  · exact LeO.refl _
  · refine LeO.ite (LeO.ite (LeO.refl _) (LeO.ite (LeO.refl _) (LeO.ite (LeO.refl _) ?_))) (LeO.refl _)
    exact LeO.bind (mayF.mono _ _ _) (fun _ => LeO.refl _)

set_option maxRecDepth 100000 in
set_option maxHeartbeats 16000000 in
theorem op_Check.calls (k : Nat) (a0 : Int) (a1_0 : Int) (A1_1 : Option Addr) (c1_1 : Nat) (l1_1 : List Int) (A1_2 : Option Addr) (c1_2 : Nat) (l1_2 : List Int) (r : Int) (w : World) (hr1_1 : Kd.C (Kd.int .i64) w A1_1 l1_1.length l1_1) (hc1_1 : l1_1.length ≤ c1_1) (hr1_2 : Kd.C (Kd.int .i64) w A1_2 l1_2.length l1_2) (hc1_2 : l1_2.length ≤ c1_2) (h : op_Check.f k a0 a1_0 l1_1 l1_2 = some r) :
    Calls Try.prog 9 #[.int .i64 a0, .agg #[.int .i64 a1_0, .slice A1_1 l1_1.length c1_1, .slice A1_2 l1_2.length c1_2]] w fun e w' => e = .returned (.int .i64 r) ∧ Below w.heap.size w w' := by
  have HR2 := Aside0.mk hr1_2
  have HC2 := Aside0.mk hc1_2
  clear hr1_1 hc1_1 hr1_2 hc1_2
  have hnd := World.alloc_heap_new w (.cells #[.int .i64 a1_0, .slice A1_1 l1_1.length c1_1, .slice A1_2 l1_2.length c1_2] 25)
  have h0 : Below w.heap.size w (w.alloc (.cells #[.int .i64 a1_0, .slice A1_1 l1_1.length c1_1, .slice A1_2 l1_2.length c1_2] 25)) := below_alloc (Below.refl _ _) _
  have e8 : (a0 < 1 ∨ 3 < a0) ∨ ¬ (a0 < 1 ∨ 3 < a0) := Classical.em _
  unfold op_Check.f at h
  cases hf : rowOf a1_0 with
  | none =>
    by_cases v1 : a0 < 1
    · have d1 : decide (a0 < 1) = true := decide_eq_true v1
      rw [if_pos (Or.inl v1)] at h
      obtain rfl := Option.some.inj h
      go_enter Try.func9, Try.ntmps9
      go_wp2_with (first
        | (go_at_call 24; refine (of_calls a1_0 _).mono ?_; rintro e w4 ⟨n4, he, hn4, hm4, hb4⟩; obtain rfl : e = .returned (.tuple #[.agg zeroCells, .bool false]) := by rw [he, hf]; rfl
           have hblk := World.alloc_heap_new w4 (.cells zeroCells 49); have hnd4 := (hb4.block w.heap.size (by simp)).trans hnd; have hlt4 : w.heap.size < w4.heap.size := by have := hb4.size; simp at this; omega
           have HN4 := Aside0.mk hn4; have HM4 := Aside0.mk hm4; have HB4 := Aside0.mk (h0.trans (hb4.mono h0.size)); clear he hn4 hm4 hb4)
        | ((with_reducible refine gate_store (t := 49) (p := 5) rfl ?_); refine store_row_any rfl 49 _ _ rfl w4.heap.size zeroCells rfl rfl 49 zeroCells hblk rowSize rfl zero_one ?_; intro W5 hblk5 hoth hbel; have hnd5 := (hoth w.heap.size (by omega)).trans ((Below.heap_alloc w4 _ w.heap.size hlt4).trans hnd4)
           have rW5_0 : W5.cell? ⟨w4.heap.size, 0, none⟩ = some (.int .i64 0) := row_cell hblk5 0 _ rfl; have rW5_1 : W5.cell? ⟨w4.heap.size, 1, none⟩ = some (.string ⟨#[]⟩) := row_cell hblk5 1 _ rfl; have rW5_2 : W5.cell? ⟨w4.heap.size, 2, none⟩ = some (.int .i64 0) := row_cell hblk5 2 _ rfl; have rW5_3 : W5.cell? ⟨w4.heap.size, 3, none⟩ = some (.int .i64 0) := row_cell hblk5 3 _ rfl; have rW5_4 : W5.cell? ⟨w4.heap.size, 4, none⟩ = some (.int .i64 0) := row_cell hblk5 4 _ rfl; have rW5_5 : W5.cell? ⟨w4.heap.size, 5, none⟩ = some (.int .i64 0) := row_cell hblk5 5 _ rfl; have rW5_6 : W5.cell? ⟨w4.heap.size, 6, none⟩ = some (.nilFunc) := row_cell hblk5 6 _ rfl; have rW5_7 : W5.cell? ⟨w4.heap.size, 7, none⟩ = some (.int .i64 0) := row_cell hblk5 7 _ rfl; have nW5_0 : W5.cell? ⟨w.heap.size, 0, none⟩ = some (.int .i64 a1_0) := row_cell hnd5 0 _ rfl; have nW5_1 : W5.cell? ⟨w.heap.size, 1, none⟩ = some (.slice A1_1 l1_1.length c1_1) := row_cell hnd5 1 _ rfl; have nW5_2 : W5.cell? ⟨w.heap.size, 2, none⟩ = some (.slice A1_2 l1_2.length c1_2) := row_cell hnd5 2 _ rfl; have HB5 := Aside0.mk ((below_alloc HB4.out (.cells zeroCells 49)).trans (hbel _ HB4.out.size)); have HM5 := Aside0.mk (HM4.out.stored (.cells zeroCells 49) hoth); clear hbel hoth))
      go_ret
      exact ⟨rfl, HB5.out⟩
    · have d1 : decide (a0 < 1) = false := decide_eq_false v1
      by_cases v2 : 3 < a0
      · have d2 : decide (3 < a0) = true := decide_eq_true v2
        rw [if_pos (Or.inr v2)] at h
        obtain rfl := Option.some.inj h
        go_enter Try.func9, Try.ntmps9
        go_wp2_with (first
          | (go_at_call 24; refine (of_calls a1_0 _).mono ?_; rintro e w4 ⟨n4, he, hn4, hm4, hb4⟩; obtain rfl : e = .returned (.tuple #[.agg zeroCells, .bool false]) := by rw [he, hf]; rfl
             have hblk := World.alloc_heap_new w4 (.cells zeroCells 49); have hnd4 := (hb4.block w.heap.size (by simp)).trans hnd; have hlt4 : w.heap.size < w4.heap.size := by have := hb4.size; simp at this; omega
             have HN4 := Aside0.mk hn4; have HM4 := Aside0.mk hm4; have HB4 := Aside0.mk (h0.trans (hb4.mono h0.size)); clear he hn4 hm4 hb4)
          | ((with_reducible refine gate_store (t := 49) (p := 5) rfl ?_); refine store_row_any rfl 49 _ _ rfl w4.heap.size zeroCells rfl rfl 49 zeroCells hblk rowSize rfl zero_one ?_; intro W5 hblk5 hoth hbel; have hnd5 := (hoth w.heap.size (by omega)).trans ((Below.heap_alloc w4 _ w.heap.size hlt4).trans hnd4)
             have rW5_0 : W5.cell? ⟨w4.heap.size, 0, none⟩ = some (.int .i64 0) := row_cell hblk5 0 _ rfl; have rW5_1 : W5.cell? ⟨w4.heap.size, 1, none⟩ = some (.string ⟨#[]⟩) := row_cell hblk5 1 _ rfl; have rW5_2 : W5.cell? ⟨w4.heap.size, 2, none⟩ = some (.int .i64 0) := row_cell hblk5 2 _ rfl; have rW5_3 : W5.cell? ⟨w4.heap.size, 3, none⟩ = some (.int .i64 0) := row_cell hblk5 3 _ rfl; have rW5_4 : W5.cell? ⟨w4.heap.size, 4, none⟩ = some (.int .i64 0) := row_cell hblk5 4 _ rfl; have rW5_5 : W5.cell? ⟨w4.heap.size, 5, none⟩ = some (.int .i64 0) := row_cell hblk5 5 _ rfl; have rW5_6 : W5.cell? ⟨w4.heap.size, 6, none⟩ = some (.nilFunc) := row_cell hblk5 6 _ rfl; have rW5_7 : W5.cell? ⟨w4.heap.size, 7, none⟩ = some (.int .i64 0) := row_cell hblk5 7 _ rfl; have nW5_0 : W5.cell? ⟨w.heap.size, 0, none⟩ = some (.int .i64 a1_0) := row_cell hnd5 0 _ rfl; have nW5_1 : W5.cell? ⟨w.heap.size, 1, none⟩ = some (.slice A1_1 l1_1.length c1_1) := row_cell hnd5 1 _ rfl; have nW5_2 : W5.cell? ⟨w.heap.size, 2, none⟩ = some (.slice A1_2 l1_2.length c1_2) := row_cell hnd5 2 _ rfl; have HB5 := Aside0.mk ((below_alloc HB4.out (.cells zeroCells 49)).trans (hbel _ HB4.out.size)); have HM5 := Aside0.mk (HM4.out.stored (.cells zeroCells 49) hoth); clear hbel hoth))
        go_ret
        exact ⟨rfl, HB5.out⟩
      · have d2 : decide (3 < a0) = false := decide_eq_false v2
        rw [if_neg (by omega), hf] at h
        obtain rfl := Option.some.inj h
        go_enter Try.func9, Try.ntmps9
        go_wp2_with (first
          | (go_at_call 24; refine (of_calls a1_0 _).mono ?_; rintro e w4 ⟨n4, he, hn4, hm4, hb4⟩; obtain rfl : e = .returned (.tuple #[.agg zeroCells, .bool false]) := by rw [he, hf]; rfl
             have hblk := World.alloc_heap_new w4 (.cells zeroCells 49); have hnd4 := (hb4.block w.heap.size (by simp)).trans hnd; have hlt4 : w.heap.size < w4.heap.size := by have := hb4.size; simp at this; omega
             have HN4 := Aside0.mk hn4; have HM4 := Aside0.mk hm4; have HB4 := Aside0.mk (h0.trans (hb4.mono h0.size)); clear he hn4 hm4 hb4)
          | ((with_reducible refine gate_store (t := 49) (p := 5) rfl ?_); refine store_row_any rfl 49 _ _ rfl w4.heap.size zeroCells rfl rfl 49 zeroCells hblk rowSize rfl zero_one ?_; intro W5 hblk5 hoth hbel; have hnd5 := (hoth w.heap.size (by omega)).trans ((Below.heap_alloc w4 _ w.heap.size hlt4).trans hnd4)
             have rW5_0 : W5.cell? ⟨w4.heap.size, 0, none⟩ = some (.int .i64 0) := row_cell hblk5 0 _ rfl; have rW5_1 : W5.cell? ⟨w4.heap.size, 1, none⟩ = some (.string ⟨#[]⟩) := row_cell hblk5 1 _ rfl; have rW5_2 : W5.cell? ⟨w4.heap.size, 2, none⟩ = some (.int .i64 0) := row_cell hblk5 2 _ rfl; have rW5_3 : W5.cell? ⟨w4.heap.size, 3, none⟩ = some (.int .i64 0) := row_cell hblk5 3 _ rfl; have rW5_4 : W5.cell? ⟨w4.heap.size, 4, none⟩ = some (.int .i64 0) := row_cell hblk5 4 _ rfl; have rW5_5 : W5.cell? ⟨w4.heap.size, 5, none⟩ = some (.int .i64 0) := row_cell hblk5 5 _ rfl; have rW5_6 : W5.cell? ⟨w4.heap.size, 6, none⟩ = some (.nilFunc) := row_cell hblk5 6 _ rfl; have rW5_7 : W5.cell? ⟨w4.heap.size, 7, none⟩ = some (.int .i64 0) := row_cell hblk5 7 _ rfl; have nW5_0 : W5.cell? ⟨w.heap.size, 0, none⟩ = some (.int .i64 a1_0) := row_cell hnd5 0 _ rfl; have nW5_1 : W5.cell? ⟨w.heap.size, 1, none⟩ = some (.slice A1_1 l1_1.length c1_1) := row_cell hnd5 1 _ rfl; have nW5_2 : W5.cell? ⟨w.heap.size, 2, none⟩ = some (.slice A1_2 l1_2.length c1_2) := row_cell hnd5 2 _ rfl; have HB5 := Aside0.mk ((below_alloc HB4.out (.cells zeroCells 49)).trans (hbel _ HB4.out.size)); have HM5 := Aside0.mk (HM4.out.stored (.cells zeroCells 49) hoth); clear hbel hoth))
        go_ret
        exact ⟨rfl, HB5.out⟩
  | some i =>
    have hi := (firstOf_some hf).1
    by_cases v1 : a0 < 1
    · have d1 : decide (a0 < 1) = true := decide_eq_true v1
      rw [if_pos (Or.inl v1)] at h
      obtain rfl := Option.some.inj h
      go_enter Try.func9, Try.ntmps9
      go_wp2_with (first
        | (go_at_call 24; refine (of_calls a1_0 _).mono ?_; rintro e w4 ⟨n4, he, hn4, hm4, hb4⟩; obtain rfl : e = .returned (.tuple #[.agg #[.int .i64 (opI i), .string (nameI i), .int .i64 (firstI i), .int .i64 (lastI i), .int .i64 (leastI i), .int .i64 (mostI i), mayI n4 i, .int .i64 (noneI i)], .bool true]) := by rw [he, hf]; rfl
           have hblk := World.alloc_heap_new w4 (.cells zeroCells 49); have hnd4 := (hb4.block w.heap.size (by simp)).trans hnd; have hlt4 : w.heap.size < w4.heap.size := by have := hb4.size; simp at this; omega
           have HN4 := Aside0.mk hn4; have HM4 := Aside0.mk hm4; have HB4 := Aside0.mk (h0.trans (hb4.mono h0.size)); clear he hn4 hm4 hb4)
        | ((with_reducible refine gate_store (t := 49) (p := 5) rfl ?_); refine store_row_any rfl 49 _ _ rfl w4.heap.size _ rfl rfl 49 zeroCells hblk rowSize rfl (agg_one n4 i) ?_; intro W5 hblk5 hoth hbel; have hnd5 := (hoth w.heap.size (by omega)).trans ((Below.heap_alloc w4 _ w.heap.size hlt4).trans hnd4)
           have rW5_0 : W5.cell? ⟨w4.heap.size, 0, none⟩ = some (.int .i64 (opI i)) := row_cell hblk5 0 _ rfl; have rW5_1 : W5.cell? ⟨w4.heap.size, 1, none⟩ = some (.string (nameI i)) := row_cell hblk5 1 _ rfl; have rW5_2 : W5.cell? ⟨w4.heap.size, 2, none⟩ = some (.int .i64 (firstI i)) := row_cell hblk5 2 _ rfl; have rW5_3 : W5.cell? ⟨w4.heap.size, 3, none⟩ = some (.int .i64 (lastI i)) := row_cell hblk5 3 _ rfl; have rW5_4 : W5.cell? ⟨w4.heap.size, 4, none⟩ = some (.int .i64 (leastI i)) := row_cell hblk5 4 _ rfl; have rW5_5 : W5.cell? ⟨w4.heap.size, 5, none⟩ = some (.int .i64 (mostI i)) := row_cell hblk5 5 _ rfl; have rW5_6 : W5.cell? ⟨w4.heap.size, 6, none⟩ = some (mayI n4 i) := row_cell hblk5 6 _ rfl; have rW5_7 : W5.cell? ⟨w4.heap.size, 7, none⟩ = some (.int .i64 (noneI i)) := row_cell hblk5 7 _ rfl; have nW5_0 : W5.cell? ⟨w.heap.size, 0, none⟩ = some (.int .i64 a1_0) := row_cell hnd5 0 _ rfl; have nW5_1 : W5.cell? ⟨w.heap.size, 1, none⟩ = some (.slice A1_1 l1_1.length c1_1) := row_cell hnd5 1 _ rfl; have nW5_2 : W5.cell? ⟨w.heap.size, 2, none⟩ = some (.slice A1_2 l1_2.length c1_2) := row_cell hnd5 2 _ rfl; have HB5 := Aside0.mk ((below_alloc HB4.out (.cells zeroCells 49)).trans (hbel _ HB4.out.size)); have HM5 := Aside0.mk (HM4.out.stored (.cells zeroCells 49) hoth); clear hbel hoth))
      go_ret
      exact ⟨rfl, HB5.out⟩
    · have d1 : decide (a0 < 1) = false := decide_eq_false v1
      by_cases v2 : 3 < a0
      · have d2 : decide (3 < a0) = true := decide_eq_true v2
        rw [if_pos (Or.inr v2)] at h
        obtain rfl := Option.some.inj h
        go_enter Try.func9, Try.ntmps9
        go_wp2_with (first
          | (go_at_call 24; refine (of_calls a1_0 _).mono ?_; rintro e w4 ⟨n4, he, hn4, hm4, hb4⟩; obtain rfl : e = .returned (.tuple #[.agg #[.int .i64 (opI i), .string (nameI i), .int .i64 (firstI i), .int .i64 (lastI i), .int .i64 (leastI i), .int .i64 (mostI i), mayI n4 i, .int .i64 (noneI i)], .bool true]) := by rw [he, hf]; rfl
             have hblk := World.alloc_heap_new w4 (.cells zeroCells 49); have hnd4 := (hb4.block w.heap.size (by simp)).trans hnd; have hlt4 : w.heap.size < w4.heap.size := by have := hb4.size; simp at this; omega
             have HN4 := Aside0.mk hn4; have HM4 := Aside0.mk hm4; have HB4 := Aside0.mk (h0.trans (hb4.mono h0.size)); clear he hn4 hm4 hb4)
          | ((with_reducible refine gate_store (t := 49) (p := 5) rfl ?_); refine store_row_any rfl 49 _ _ rfl w4.heap.size _ rfl rfl 49 zeroCells hblk rowSize rfl (agg_one n4 i) ?_; intro W5 hblk5 hoth hbel; have hnd5 := (hoth w.heap.size (by omega)).trans ((Below.heap_alloc w4 _ w.heap.size hlt4).trans hnd4)
             have rW5_0 : W5.cell? ⟨w4.heap.size, 0, none⟩ = some (.int .i64 (opI i)) := row_cell hblk5 0 _ rfl; have rW5_1 : W5.cell? ⟨w4.heap.size, 1, none⟩ = some (.string (nameI i)) := row_cell hblk5 1 _ rfl; have rW5_2 : W5.cell? ⟨w4.heap.size, 2, none⟩ = some (.int .i64 (firstI i)) := row_cell hblk5 2 _ rfl; have rW5_3 : W5.cell? ⟨w4.heap.size, 3, none⟩ = some (.int .i64 (lastI i)) := row_cell hblk5 3 _ rfl; have rW5_4 : W5.cell? ⟨w4.heap.size, 4, none⟩ = some (.int .i64 (leastI i)) := row_cell hblk5 4 _ rfl; have rW5_5 : W5.cell? ⟨w4.heap.size, 5, none⟩ = some (.int .i64 (mostI i)) := row_cell hblk5 5 _ rfl; have rW5_6 : W5.cell? ⟨w4.heap.size, 6, none⟩ = some (mayI n4 i) := row_cell hblk5 6 _ rfl; have rW5_7 : W5.cell? ⟨w4.heap.size, 7, none⟩ = some (.int .i64 (noneI i)) := row_cell hblk5 7 _ rfl; have nW5_0 : W5.cell? ⟨w.heap.size, 0, none⟩ = some (.int .i64 a1_0) := row_cell hnd5 0 _ rfl; have nW5_1 : W5.cell? ⟨w.heap.size, 1, none⟩ = some (.slice A1_1 l1_1.length c1_1) := row_cell hnd5 1 _ rfl; have nW5_2 : W5.cell? ⟨w.heap.size, 2, none⟩ = some (.slice A1_2 l1_2.length c1_2) := row_cell hnd5 2 _ rfl; have HB5 := Aside0.mk ((below_alloc HB4.out (.cells zeroCells 49)).trans (hbel _ HB4.out.size)); have HM5 := Aside0.mk (HM4.out.stored (.cells zeroCells 49) hoth); clear hbel hoth))
        go_ret
        exact ⟨rfl, HB5.out⟩
      · have d2 : decide (3 < a0) = false := decide_eq_false v2
        rw [if_neg (by omega), hf] at h
        dsimp only at h
        by_cases v3 : firstI i ≤ a0 ∧ a0 ≤ lastI i
        · have d3 : (decide (firstI i ≤ a0) && decide (a0 ≤ lastI i)) = true := by rw [decide_eq_true v3.1, decide_eq_true v3.2]; rfl
          rw [if_pos v3] at h
          by_cases v4 : (l1_1.length : Int) < leastI i
          · have d4 : decide ((l1_1.length : Int) < leastI i) = true := decide_eq_true v4
            rw [if_pos (Or.inl v4)] at h
            obtain rfl := Option.some.inj h
            go_enter Try.func9, Try.ntmps9
            go_wp2_with (first
              | (go_at_call 24; refine (of_calls a1_0 _).mono ?_; rintro e w4 ⟨n4, he, hn4, hm4, hb4⟩; obtain rfl : e = .returned (.tuple #[.agg #[.int .i64 (opI i), .string (nameI i), .int .i64 (firstI i), .int .i64 (lastI i), .int .i64 (leastI i), .int .i64 (mostI i), mayI n4 i, .int .i64 (noneI i)], .bool true]) := by rw [he, hf]; rfl
                 have hblk := World.alloc_heap_new w4 (.cells zeroCells 49); have hnd4 := (hb4.block w.heap.size (by simp)).trans hnd; have hlt4 : w.heap.size < w4.heap.size := by have := hb4.size; simp at this; omega
                 have HN4 := Aside0.mk hn4; have HM4 := Aside0.mk hm4; have HB4 := Aside0.mk (h0.trans (hb4.mono h0.size)); clear he hn4 hm4 hb4)
              | ((with_reducible refine gate_store (t := 49) (p := 5) rfl ?_); refine store_row_any rfl 49 _ _ rfl w4.heap.size _ rfl rfl 49 zeroCells hblk rowSize rfl (agg_one n4 i) ?_; intro W5 hblk5 hoth hbel; have hnd5 := (hoth w.heap.size (by omega)).trans ((Below.heap_alloc w4 _ w.heap.size hlt4).trans hnd4)
                 have rW5_0 : W5.cell? ⟨w4.heap.size, 0, none⟩ = some (.int .i64 (opI i)) := row_cell hblk5 0 _ rfl; have rW5_1 : W5.cell? ⟨w4.heap.size, 1, none⟩ = some (.string (nameI i)) := row_cell hblk5 1 _ rfl; have rW5_2 : W5.cell? ⟨w4.heap.size, 2, none⟩ = some (.int .i64 (firstI i)) := row_cell hblk5 2 _ rfl; have rW5_3 : W5.cell? ⟨w4.heap.size, 3, none⟩ = some (.int .i64 (lastI i)) := row_cell hblk5 3 _ rfl; have rW5_4 : W5.cell? ⟨w4.heap.size, 4, none⟩ = some (.int .i64 (leastI i)) := row_cell hblk5 4 _ rfl; have rW5_5 : W5.cell? ⟨w4.heap.size, 5, none⟩ = some (.int .i64 (mostI i)) := row_cell hblk5 5 _ rfl; have rW5_6 : W5.cell? ⟨w4.heap.size, 6, none⟩ = some (mayI n4 i) := row_cell hblk5 6 _ rfl; have rW5_7 : W5.cell? ⟨w4.heap.size, 7, none⟩ = some (.int .i64 (noneI i)) := row_cell hblk5 7 _ rfl; have nW5_0 : W5.cell? ⟨w.heap.size, 0, none⟩ = some (.int .i64 a1_0) := row_cell hnd5 0 _ rfl; have nW5_1 : W5.cell? ⟨w.heap.size, 1, none⟩ = some (.slice A1_1 l1_1.length c1_1) := row_cell hnd5 1 _ rfl; have nW5_2 : W5.cell? ⟨w.heap.size, 2, none⟩ = some (.slice A1_2 l1_2.length c1_2) := row_cell hnd5 2 _ rfl; have HB5 := Aside0.mk ((below_alloc HB4.out (.cells zeroCells 49)).trans (hbel _ HB4.out.size)); have HM5 := Aside0.mk (HM4.out.stored (.cells zeroCells 49) hoth); clear hbel hoth)
              | (go_at_call 26; refine (rowin_calls n4 i a0 _).mono ?_; rw [d3]; rintro e w6 ⟨rfl, hb6⟩; have hlt5 := (Array.getElem?_eq_some_iff.1 hblk5).1; have hltn := (Array.getElem?_eq_some_iff.1 hnd5).1; have hblk6 := (hb6.block w4.heap.size hlt5).trans hblk5; have hnd6 := (hb6.block w.heap.size hltn).trans hnd5
                 have rw6_0 : w6.cell? ⟨w4.heap.size, 0, none⟩ = some (.int .i64 (opI i)) := row_cell hblk6 0 _ rfl; have rw6_1 : w6.cell? ⟨w4.heap.size, 1, none⟩ = some (.string (nameI i)) := row_cell hblk6 1 _ rfl; have rw6_2 : w6.cell? ⟨w4.heap.size, 2, none⟩ = some (.int .i64 (firstI i)) := row_cell hblk6 2 _ rfl; have rw6_3 : w6.cell? ⟨w4.heap.size, 3, none⟩ = some (.int .i64 (lastI i)) := row_cell hblk6 3 _ rfl; have rw6_4 : w6.cell? ⟨w4.heap.size, 4, none⟩ = some (.int .i64 (leastI i)) := row_cell hblk6 4 _ rfl; have rw6_5 : w6.cell? ⟨w4.heap.size, 5, none⟩ = some (.int .i64 (mostI i)) := row_cell hblk6 5 _ rfl; have rw6_6 : w6.cell? ⟨w4.heap.size, 6, none⟩ = some (mayI n4 i) := row_cell hblk6 6 _ rfl; have rw6_7 : w6.cell? ⟨w4.heap.size, 7, none⟩ = some (.int .i64 (noneI i)) := row_cell hblk6 7 _ rfl; have nw6_0 : w6.cell? ⟨w.heap.size, 0, none⟩ = some (.int .i64 a1_0) := row_cell hnd6 0 _ rfl; have nw6_1 : w6.cell? ⟨w.heap.size, 1, none⟩ = some (.slice A1_1 l1_1.length c1_1) := row_cell hnd6 1 _ rfl; have nw6_2 : w6.cell? ⟨w.heap.size, 2, none⟩ = some (.slice A1_2 l1_2.length c1_2) := row_cell hnd6 2 _ rfl; have HB6 := Aside0.mk (HB5.out.trans (hb6.mono HB5.out.size)); have HM6 := Aside0.mk (HM5.out.below hb6); clear hb6))
            go_ret
            exact ⟨rfl, HB6.out⟩
          · have d4 : decide ((l1_1.length : Int) < leastI i) = false := decide_eq_false v4
            by_cases v5 : mostI i < (l1_1.length : Int)
            · have d5 : decide (mostI i < (l1_1.length : Int)) = true := decide_eq_true v5
              rw [if_pos (Or.inr v5)] at h
              obtain rfl := Option.some.inj h
              go_enter Try.func9, Try.ntmps9
              go_wp2_with (first
                | (go_at_call 24; refine (of_calls a1_0 _).mono ?_; rintro e w4 ⟨n4, he, hn4, hm4, hb4⟩; obtain rfl : e = .returned (.tuple #[.agg #[.int .i64 (opI i), .string (nameI i), .int .i64 (firstI i), .int .i64 (lastI i), .int .i64 (leastI i), .int .i64 (mostI i), mayI n4 i, .int .i64 (noneI i)], .bool true]) := by rw [he, hf]; rfl
                   have hblk := World.alloc_heap_new w4 (.cells zeroCells 49); have hnd4 := (hb4.block w.heap.size (by simp)).trans hnd; have hlt4 : w.heap.size < w4.heap.size := by have := hb4.size; simp at this; omega
                   have HN4 := Aside0.mk hn4; have HM4 := Aside0.mk hm4; have HB4 := Aside0.mk (h0.trans (hb4.mono h0.size)); clear he hn4 hm4 hb4)
                | ((with_reducible refine gate_store (t := 49) (p := 5) rfl ?_); refine store_row_any rfl 49 _ _ rfl w4.heap.size _ rfl rfl 49 zeroCells hblk rowSize rfl (agg_one n4 i) ?_; intro W5 hblk5 hoth hbel; have hnd5 := (hoth w.heap.size (by omega)).trans ((Below.heap_alloc w4 _ w.heap.size hlt4).trans hnd4)
                   have rW5_0 : W5.cell? ⟨w4.heap.size, 0, none⟩ = some (.int .i64 (opI i)) := row_cell hblk5 0 _ rfl; have rW5_1 : W5.cell? ⟨w4.heap.size, 1, none⟩ = some (.string (nameI i)) := row_cell hblk5 1 _ rfl; have rW5_2 : W5.cell? ⟨w4.heap.size, 2, none⟩ = some (.int .i64 (firstI i)) := row_cell hblk5 2 _ rfl; have rW5_3 : W5.cell? ⟨w4.heap.size, 3, none⟩ = some (.int .i64 (lastI i)) := row_cell hblk5 3 _ rfl; have rW5_4 : W5.cell? ⟨w4.heap.size, 4, none⟩ = some (.int .i64 (leastI i)) := row_cell hblk5 4 _ rfl; have rW5_5 : W5.cell? ⟨w4.heap.size, 5, none⟩ = some (.int .i64 (mostI i)) := row_cell hblk5 5 _ rfl; have rW5_6 : W5.cell? ⟨w4.heap.size, 6, none⟩ = some (mayI n4 i) := row_cell hblk5 6 _ rfl; have rW5_7 : W5.cell? ⟨w4.heap.size, 7, none⟩ = some (.int .i64 (noneI i)) := row_cell hblk5 7 _ rfl; have nW5_0 : W5.cell? ⟨w.heap.size, 0, none⟩ = some (.int .i64 a1_0) := row_cell hnd5 0 _ rfl; have nW5_1 : W5.cell? ⟨w.heap.size, 1, none⟩ = some (.slice A1_1 l1_1.length c1_1) := row_cell hnd5 1 _ rfl; have nW5_2 : W5.cell? ⟨w.heap.size, 2, none⟩ = some (.slice A1_2 l1_2.length c1_2) := row_cell hnd5 2 _ rfl; have HB5 := Aside0.mk ((below_alloc HB4.out (.cells zeroCells 49)).trans (hbel _ HB4.out.size)); have HM5 := Aside0.mk (HM4.out.stored (.cells zeroCells 49) hoth); clear hbel hoth)
                | (go_at_call 26; refine (rowin_calls n4 i a0 _).mono ?_; rw [d3]; rintro e w6 ⟨rfl, hb6⟩; have hlt5 := (Array.getElem?_eq_some_iff.1 hblk5).1; have hltn := (Array.getElem?_eq_some_iff.1 hnd5).1; have hblk6 := (hb6.block w4.heap.size hlt5).trans hblk5; have hnd6 := (hb6.block w.heap.size hltn).trans hnd5
                   have rw6_0 : w6.cell? ⟨w4.heap.size, 0, none⟩ = some (.int .i64 (opI i)) := row_cell hblk6 0 _ rfl; have rw6_1 : w6.cell? ⟨w4.heap.size, 1, none⟩ = some (.string (nameI i)) := row_cell hblk6 1 _ rfl; have rw6_2 : w6.cell? ⟨w4.heap.size, 2, none⟩ = some (.int .i64 (firstI i)) := row_cell hblk6 2 _ rfl; have rw6_3 : w6.cell? ⟨w4.heap.size, 3, none⟩ = some (.int .i64 (lastI i)) := row_cell hblk6 3 _ rfl; have rw6_4 : w6.cell? ⟨w4.heap.size, 4, none⟩ = some (.int .i64 (leastI i)) := row_cell hblk6 4 _ rfl; have rw6_5 : w6.cell? ⟨w4.heap.size, 5, none⟩ = some (.int .i64 (mostI i)) := row_cell hblk6 5 _ rfl; have rw6_6 : w6.cell? ⟨w4.heap.size, 6, none⟩ = some (mayI n4 i) := row_cell hblk6 6 _ rfl; have rw6_7 : w6.cell? ⟨w4.heap.size, 7, none⟩ = some (.int .i64 (noneI i)) := row_cell hblk6 7 _ rfl; have nw6_0 : w6.cell? ⟨w.heap.size, 0, none⟩ = some (.int .i64 a1_0) := row_cell hnd6 0 _ rfl; have nw6_1 : w6.cell? ⟨w.heap.size, 1, none⟩ = some (.slice A1_1 l1_1.length c1_1) := row_cell hnd6 1 _ rfl; have nw6_2 : w6.cell? ⟨w.heap.size, 2, none⟩ = some (.slice A1_2 l1_2.length c1_2) := row_cell hnd6 2 _ rfl; have HB6 := Aside0.mk (HB5.out.trans (hb6.mono HB5.out.size)); have HM6 := Aside0.mk (HM5.out.below hb6); clear hb6))
              go_ret
              exact ⟨rfl, HB6.out⟩
            · have d5 : decide (mostI i < (l1_1.length : Int)) = false := decide_eq_false v5
              rw [if_neg (by omega)] at h
              by_cases v6 : l1_2.length = 0
              · have d6 : ((l1_2.length : Int) == 0) = true := by simp [v6]
                by_cases v7 : a0 ≤ noneI i
                · have d7 : decide (a0 ≤ noneI i) = true := decide_eq_true v7
                  rw [if_pos ⟨v6, v7⟩] at h
                  clear v6
                  obtain rfl := Option.some.inj h
                  go_enter Try.func9, Try.ntmps9
                  go_wp2_with (first
                    | (go_at_call 24; refine (of_calls a1_0 _).mono ?_; rintro e w4 ⟨n4, he, hn4, hm4, hb4⟩; obtain rfl : e = .returned (.tuple #[.agg #[.int .i64 (opI i), .string (nameI i), .int .i64 (firstI i), .int .i64 (lastI i), .int .i64 (leastI i), .int .i64 (mostI i), mayI n4 i, .int .i64 (noneI i)], .bool true]) := by rw [he, hf]; rfl
                       have hblk := World.alloc_heap_new w4 (.cells zeroCells 49); have hnd4 := (hb4.block w.heap.size (by simp)).trans hnd; have hlt4 : w.heap.size < w4.heap.size := by have := hb4.size; simp at this; omega
                       have HN4 := Aside0.mk hn4; have HM4 := Aside0.mk hm4; have HB4 := Aside0.mk (h0.trans (hb4.mono h0.size)); clear he hn4 hm4 hb4)
                    | ((with_reducible refine gate_store (t := 49) (p := 5) rfl ?_); refine store_row_any rfl 49 _ _ rfl w4.heap.size _ rfl rfl 49 zeroCells hblk rowSize rfl (agg_one n4 i) ?_; intro W5 hblk5 hoth hbel; have hnd5 := (hoth w.heap.size (by omega)).trans ((Below.heap_alloc w4 _ w.heap.size hlt4).trans hnd4)
                       have rW5_0 : W5.cell? ⟨w4.heap.size, 0, none⟩ = some (.int .i64 (opI i)) := row_cell hblk5 0 _ rfl; have rW5_1 : W5.cell? ⟨w4.heap.size, 1, none⟩ = some (.string (nameI i)) := row_cell hblk5 1 _ rfl; have rW5_2 : W5.cell? ⟨w4.heap.size, 2, none⟩ = some (.int .i64 (firstI i)) := row_cell hblk5 2 _ rfl; have rW5_3 : W5.cell? ⟨w4.heap.size, 3, none⟩ = some (.int .i64 (lastI i)) := row_cell hblk5 3 _ rfl; have rW5_4 : W5.cell? ⟨w4.heap.size, 4, none⟩ = some (.int .i64 (leastI i)) := row_cell hblk5 4 _ rfl; have rW5_5 : W5.cell? ⟨w4.heap.size, 5, none⟩ = some (.int .i64 (mostI i)) := row_cell hblk5 5 _ rfl; have rW5_6 : W5.cell? ⟨w4.heap.size, 6, none⟩ = some (mayI n4 i) := row_cell hblk5 6 _ rfl; have rW5_7 : W5.cell? ⟨w4.heap.size, 7, none⟩ = some (.int .i64 (noneI i)) := row_cell hblk5 7 _ rfl; have nW5_0 : W5.cell? ⟨w.heap.size, 0, none⟩ = some (.int .i64 a1_0) := row_cell hnd5 0 _ rfl; have nW5_1 : W5.cell? ⟨w.heap.size, 1, none⟩ = some (.slice A1_1 l1_1.length c1_1) := row_cell hnd5 1 _ rfl; have nW5_2 : W5.cell? ⟨w.heap.size, 2, none⟩ = some (.slice A1_2 l1_2.length c1_2) := row_cell hnd5 2 _ rfl; have HB5 := Aside0.mk ((below_alloc HB4.out (.cells zeroCells 49)).trans (hbel _ HB4.out.size)); have HM5 := Aside0.mk (HM4.out.stored (.cells zeroCells 49) hoth); clear hbel hoth)
                    | (go_at_call 26; refine (rowin_calls n4 i a0 _).mono ?_; rw [d3]; rintro e w6 ⟨rfl, hb6⟩; have hlt5 := (Array.getElem?_eq_some_iff.1 hblk5).1; have hltn := (Array.getElem?_eq_some_iff.1 hnd5).1; have hblk6 := (hb6.block w4.heap.size hlt5).trans hblk5; have hnd6 := (hb6.block w.heap.size hltn).trans hnd5
                       have rw6_0 : w6.cell? ⟨w4.heap.size, 0, none⟩ = some (.int .i64 (opI i)) := row_cell hblk6 0 _ rfl; have rw6_1 : w6.cell? ⟨w4.heap.size, 1, none⟩ = some (.string (nameI i)) := row_cell hblk6 1 _ rfl; have rw6_2 : w6.cell? ⟨w4.heap.size, 2, none⟩ = some (.int .i64 (firstI i)) := row_cell hblk6 2 _ rfl; have rw6_3 : w6.cell? ⟨w4.heap.size, 3, none⟩ = some (.int .i64 (lastI i)) := row_cell hblk6 3 _ rfl; have rw6_4 : w6.cell? ⟨w4.heap.size, 4, none⟩ = some (.int .i64 (leastI i)) := row_cell hblk6 4 _ rfl; have rw6_5 : w6.cell? ⟨w4.heap.size, 5, none⟩ = some (.int .i64 (mostI i)) := row_cell hblk6 5 _ rfl; have rw6_6 : w6.cell? ⟨w4.heap.size, 6, none⟩ = some (mayI n4 i) := row_cell hblk6 6 _ rfl; have rw6_7 : w6.cell? ⟨w4.heap.size, 7, none⟩ = some (.int .i64 (noneI i)) := row_cell hblk6 7 _ rfl; have nw6_0 : w6.cell? ⟨w.heap.size, 0, none⟩ = some (.int .i64 a1_0) := row_cell hnd6 0 _ rfl; have nw6_1 : w6.cell? ⟨w.heap.size, 1, none⟩ = some (.slice A1_1 l1_1.length c1_1) := row_cell hnd6 1 _ rfl; have nw6_2 : w6.cell? ⟨w.heap.size, 2, none⟩ = some (.slice A1_2 l1_2.length c1_2) := row_cell hnd6 2 _ rfl; have HB6 := Aside0.mk (HB5.out.trans (hb6.mono HB5.out.size)); have HM6 := Aside0.mk (HM5.out.below hb6); clear hb6))
                  go_ret
                  exact ⟨rfl, HB6.out⟩
                · have d7 : decide (a0 ≤ noneI i) = false := decide_eq_false v7
                  rw [if_neg (fun c => v7 c.2)] at h
                  clear v6
                  by_cases v8 : l1_2.any farB = true
                  · have d8 : l1_2.any farB = true := v8
                    rw [if_pos v8] at h
                    obtain rfl := Option.some.inj h
                    go_enter Try.func9, Try.ntmps9
                    go_wp2_with (first
                      | (go_at_call 24; refine (of_calls a1_0 _).mono ?_; rintro e w4 ⟨n4, he, hn4, hm4, hb4⟩; obtain rfl : e = .returned (.tuple #[.agg #[.int .i64 (opI i), .string (nameI i), .int .i64 (firstI i), .int .i64 (lastI i), .int .i64 (leastI i), .int .i64 (mostI i), mayI n4 i, .int .i64 (noneI i)], .bool true]) := by rw [he, hf]; rfl
                         have hblk := World.alloc_heap_new w4 (.cells zeroCells 49); have hnd4 := (hb4.block w.heap.size (by simp)).trans hnd; have hlt4 : w.heap.size < w4.heap.size := by have := hb4.size; simp at this; omega
                         have HN4 := Aside0.mk hn4; have HM4 := Aside0.mk hm4; have HB4 := Aside0.mk (h0.trans (hb4.mono h0.size)); clear he hn4 hm4 hb4)
                      | ((with_reducible refine gate_store (t := 49) (p := 5) rfl ?_); refine store_row_any rfl 49 _ _ rfl w4.heap.size _ rfl rfl 49 zeroCells hblk rowSize rfl (agg_one n4 i) ?_; intro W5 hblk5 hoth hbel; have hnd5 := (hoth w.heap.size (by omega)).trans ((Below.heap_alloc w4 _ w.heap.size hlt4).trans hnd4)
                         have rW5_0 : W5.cell? ⟨w4.heap.size, 0, none⟩ = some (.int .i64 (opI i)) := row_cell hblk5 0 _ rfl; have rW5_1 : W5.cell? ⟨w4.heap.size, 1, none⟩ = some (.string (nameI i)) := row_cell hblk5 1 _ rfl; have rW5_2 : W5.cell? ⟨w4.heap.size, 2, none⟩ = some (.int .i64 (firstI i)) := row_cell hblk5 2 _ rfl; have rW5_3 : W5.cell? ⟨w4.heap.size, 3, none⟩ = some (.int .i64 (lastI i)) := row_cell hblk5 3 _ rfl; have rW5_4 : W5.cell? ⟨w4.heap.size, 4, none⟩ = some (.int .i64 (leastI i)) := row_cell hblk5 4 _ rfl; have rW5_5 : W5.cell? ⟨w4.heap.size, 5, none⟩ = some (.int .i64 (mostI i)) := row_cell hblk5 5 _ rfl; have rW5_6 : W5.cell? ⟨w4.heap.size, 6, none⟩ = some (mayI n4 i) := row_cell hblk5 6 _ rfl; have rW5_7 : W5.cell? ⟨w4.heap.size, 7, none⟩ = some (.int .i64 (noneI i)) := row_cell hblk5 7 _ rfl; have nW5_0 : W5.cell? ⟨w.heap.size, 0, none⟩ = some (.int .i64 a1_0) := row_cell hnd5 0 _ rfl; have nW5_1 : W5.cell? ⟨w.heap.size, 1, none⟩ = some (.slice A1_1 l1_1.length c1_1) := row_cell hnd5 1 _ rfl; have nW5_2 : W5.cell? ⟨w.heap.size, 2, none⟩ = some (.slice A1_2 l1_2.length c1_2) := row_cell hnd5 2 _ rfl; have HB5 := Aside0.mk ((below_alloc HB4.out (.cells zeroCells 49)).trans (hbel _ HB4.out.size)); have HM5 := Aside0.mk (HM4.out.stored (.cells zeroCells 49) hoth); clear hbel hoth)
                      | (go_at_call 26; refine (rowin_calls n4 i a0 _).mono ?_; rw [d3]; rintro e w6 ⟨rfl, hb6⟩; have hlt5 := (Array.getElem?_eq_some_iff.1 hblk5).1; have hltn := (Array.getElem?_eq_some_iff.1 hnd5).1; have hblk6 := (hb6.block w4.heap.size hlt5).trans hblk5; have hnd6 := (hb6.block w.heap.size hltn).trans hnd5
                         have rw6_0 : w6.cell? ⟨w4.heap.size, 0, none⟩ = some (.int .i64 (opI i)) := row_cell hblk6 0 _ rfl; have rw6_1 : w6.cell? ⟨w4.heap.size, 1, none⟩ = some (.string (nameI i)) := row_cell hblk6 1 _ rfl; have rw6_2 : w6.cell? ⟨w4.heap.size, 2, none⟩ = some (.int .i64 (firstI i)) := row_cell hblk6 2 _ rfl; have rw6_3 : w6.cell? ⟨w4.heap.size, 3, none⟩ = some (.int .i64 (lastI i)) := row_cell hblk6 3 _ rfl; have rw6_4 : w6.cell? ⟨w4.heap.size, 4, none⟩ = some (.int .i64 (leastI i)) := row_cell hblk6 4 _ rfl; have rw6_5 : w6.cell? ⟨w4.heap.size, 5, none⟩ = some (.int .i64 (mostI i)) := row_cell hblk6 5 _ rfl; have rw6_6 : w6.cell? ⟨w4.heap.size, 6, none⟩ = some (mayI n4 i) := row_cell hblk6 6 _ rfl; have rw6_7 : w6.cell? ⟨w4.heap.size, 7, none⟩ = some (.int .i64 (noneI i)) := row_cell hblk6 7 _ rfl; have nw6_0 : w6.cell? ⟨w.heap.size, 0, none⟩ = some (.int .i64 a1_0) := row_cell hnd6 0 _ rfl; have nw6_1 : w6.cell? ⟨w.heap.size, 1, none⟩ = some (.slice A1_1 l1_1.length c1_1) := row_cell hnd6 1 _ rfl; have nw6_2 : w6.cell? ⟨w.heap.size, 2, none⟩ = some (.slice A1_2 l1_2.length c1_2) := row_cell hnd6 2 _ rfl; have HB6 := Aside0.mk (HB5.out.trans (hb6.mono HB5.out.size)); have HM6 := Aside0.mk (HM5.out.below hb6); clear hb6)
                      | (go_at_call 27; refine (containsfar_calls A1_2 c1_2 l1_2 _ (Kd.C_below HR2.out HB6.out)).mono ?_; rw [d8]; rintro e w7 ⟨rfl, ⟨m7, rfl⟩⟩))
                    go_ret
                    exact ⟨rfl, pw_below_drewN HB6.out _⟩
                  · have d8 : l1_2.any farB = false := by simpa using v8
                    rw [if_neg v8] at h
                    obtain ⟨b, hb, h⟩ := Option.bind_eq_some_iff.mp h
                    cases b with
                    | true =>
                      simp only [if_true, Bool.false_eq_true, if_false] at h
                      obtain rfl := Option.some.inj h
                      go_enter Try.func9, Try.ntmps9
                      go_wp2_with (first
                        | (go_at_call 24; refine (of_calls a1_0 _).mono ?_; rintro e w4 ⟨n4, he, hn4, hm4, hb4⟩; obtain rfl : e = .returned (.tuple #[.agg #[.int .i64 (opI i), .string (nameI i), .int .i64 (firstI i), .int .i64 (lastI i), .int .i64 (leastI i), .int .i64 (mostI i), mayI n4 i, .int .i64 (noneI i)], .bool true]) := by rw [he, hf]; rfl
                           have hblk := World.alloc_heap_new w4 (.cells zeroCells 49); have hnd4 := (hb4.block w.heap.size (by simp)).trans hnd; have hlt4 : w.heap.size < w4.heap.size := by have := hb4.size; simp at this; omega
                           have HN4 := Aside0.mk hn4; have HM4 := Aside0.mk hm4; have HB4 := Aside0.mk (h0.trans (hb4.mono h0.size)); clear he hn4 hm4 hb4)
                        | ((with_reducible refine gate_store (t := 49) (p := 5) rfl ?_); refine store_row_any rfl 49 _ _ rfl w4.heap.size _ rfl rfl 49 zeroCells hblk rowSize rfl (agg_one n4 i) ?_; intro W5 hblk5 hoth hbel; have hnd5 := (hoth w.heap.size (by omega)).trans ((Below.heap_alloc w4 _ w.heap.size hlt4).trans hnd4)
                           have rW5_0 : W5.cell? ⟨w4.heap.size, 0, none⟩ = some (.int .i64 (opI i)) := row_cell hblk5 0 _ rfl; have rW5_1 : W5.cell? ⟨w4.heap.size, 1, none⟩ = some (.string (nameI i)) := row_cell hblk5 1 _ rfl; have rW5_2 : W5.cell? ⟨w4.heap.size, 2, none⟩ = some (.int .i64 (firstI i)) := row_cell hblk5 2 _ rfl; have rW5_3 : W5.cell? ⟨w4.heap.size, 3, none⟩ = some (.int .i64 (lastI i)) := row_cell hblk5 3 _ rfl; have rW5_4 : W5.cell? ⟨w4.heap.size, 4, none⟩ = some (.int .i64 (leastI i)) := row_cell hblk5 4 _ rfl; have rW5_5 : W5.cell? ⟨w4.heap.size, 5, none⟩ = some (.int .i64 (mostI i)) := row_cell hblk5 5 _ rfl; have rW5_6 : W5.cell? ⟨w4.heap.size, 6, none⟩ = some (mayI n4 i) := row_cell hblk5 6 _ rfl; have rW5_7 : W5.cell? ⟨w4.heap.size, 7, none⟩ = some (.int .i64 (noneI i)) := row_cell hblk5 7 _ rfl; have nW5_0 : W5.cell? ⟨w.heap.size, 0, none⟩ = some (.int .i64 a1_0) := row_cell hnd5 0 _ rfl; have nW5_1 : W5.cell? ⟨w.heap.size, 1, none⟩ = some (.slice A1_1 l1_1.length c1_1) := row_cell hnd5 1 _ rfl; have nW5_2 : W5.cell? ⟨w.heap.size, 2, none⟩ = some (.slice A1_2 l1_2.length c1_2) := row_cell hnd5 2 _ rfl; have HB5 := Aside0.mk ((below_alloc HB4.out (.cells zeroCells 49)).trans (hbel _ HB4.out.size)); have HM5 := Aside0.mk (HM4.out.stored (.cells zeroCells 49) hoth); clear hbel hoth)
                        | (go_at_call 26; refine (rowin_calls n4 i a0 _).mono ?_; rw [d3]; rintro e w6 ⟨rfl, hb6⟩; have hlt5 := (Array.getElem?_eq_some_iff.1 hblk5).1; have hltn := (Array.getElem?_eq_some_iff.1 hnd5).1; have hblk6 := (hb6.block w4.heap.size hlt5).trans hblk5; have hnd6 := (hb6.block w.heap.size hltn).trans hnd5
                           have rw6_0 : w6.cell? ⟨w4.heap.size, 0, none⟩ = some (.int .i64 (opI i)) := row_cell hblk6 0 _ rfl; have rw6_1 : w6.cell? ⟨w4.heap.size, 1, none⟩ = some (.string (nameI i)) := row_cell hblk6 1 _ rfl; have rw6_2 : w6.cell? ⟨w4.heap.size, 2, none⟩ = some (.int .i64 (firstI i)) := row_cell hblk6 2 _ rfl; have rw6_3 : w6.cell? ⟨w4.heap.size, 3, none⟩ = some (.int .i64 (lastI i)) := row_cell hblk6 3 _ rfl; have rw6_4 : w6.cell? ⟨w4.heap.size, 4, none⟩ = some (.int .i64 (leastI i)) := row_cell hblk6 4 _ rfl; have rw6_5 : w6.cell? ⟨w4.heap.size, 5, none⟩ = some (.int .i64 (mostI i)) := row_cell hblk6 5 _ rfl; have rw6_6 : w6.cell? ⟨w4.heap.size, 6, none⟩ = some (mayI n4 i) := row_cell hblk6 6 _ rfl; have rw6_7 : w6.cell? ⟨w4.heap.size, 7, none⟩ = some (.int .i64 (noneI i)) := row_cell hblk6 7 _ rfl; have nw6_0 : w6.cell? ⟨w.heap.size, 0, none⟩ = some (.int .i64 a1_0) := row_cell hnd6 0 _ rfl; have nw6_1 : w6.cell? ⟨w.heap.size, 1, none⟩ = some (.slice A1_1 l1_1.length c1_1) := row_cell hnd6 1 _ rfl; have nw6_2 : w6.cell? ⟨w.heap.size, 2, none⟩ = some (.slice A1_2 l1_2.length c1_2) := row_cell hnd6 2 _ rfl; have HB6 := Aside0.mk (HB5.out.trans (hb6.mono HB5.out.size)); have HM6 := Aside0.mk (HM5.out.below hb6); clear hb6)
                        | (go_at_call 27; refine (containsfar_calls A1_2 c1_2 l1_2 _ (Kd.C_below HR2.out HB6.out)).mono ?_; rw [d8]; rintro e w7 ⟨rfl, ⟨m7, rfl⟩⟩; obtain ⟨g, lb, hg1, hg2, hg3⟩ := may_calls k n4 i hi l1_2 _ hb (w6.drewN m7) (HM6.out.below (pw_below_drewN (Below.refl _ _) _)) A1_2 c1_2 (Kd.C_drewN (Kd.C_below HR2.out HB6.out) _) HC2.out; rw [hg1] at rw6_6; have HG := Aside0.mk hg3; clear hg3)
                        | (go_at_fn g; refine HG.out.mono ?_; rintro e w8 ⟨rfl, hb8⟩; have HB8 := Aside0.mk ((pw_below_drewN HB6.out m7).trans (hb8.mono (by have := HB6.out.size; simpa using this))); clear hb8))
                      go_ret
                      exact ⟨rfl, HB8.out⟩
                    | false =>
                      simp only [if_true, Bool.false_eq_true, if_false] at h
                      obtain rfl := Option.some.inj h
                      go_enter Try.func9, Try.ntmps9
                      go_wp2_with (first
                        | (go_at_call 24; refine (of_calls a1_0 _).mono ?_; rintro e w4 ⟨n4, he, hn4, hm4, hb4⟩; obtain rfl : e = .returned (.tuple #[.agg #[.int .i64 (opI i), .string (nameI i), .int .i64 (firstI i), .int .i64 (lastI i), .int .i64 (leastI i), .int .i64 (mostI i), mayI n4 i, .int .i64 (noneI i)], .bool true]) := by rw [he, hf]; rfl
                           have hblk := World.alloc_heap_new w4 (.cells zeroCells 49); have hnd4 := (hb4.block w.heap.size (by simp)).trans hnd; have hlt4 : w.heap.size < w4.heap.size := by have := hb4.size; simp at this; omega
                           have HN4 := Aside0.mk hn4; have HM4 := Aside0.mk hm4; have HB4 := Aside0.mk (h0.trans (hb4.mono h0.size)); clear he hn4 hm4 hb4)
                        | ((with_reducible refine gate_store (t := 49) (p := 5) rfl ?_); refine store_row_any rfl 49 _ _ rfl w4.heap.size _ rfl rfl 49 zeroCells hblk rowSize rfl (agg_one n4 i) ?_; intro W5 hblk5 hoth hbel; have hnd5 := (hoth w.heap.size (by omega)).trans ((Below.heap_alloc w4 _ w.heap.size hlt4).trans hnd4)
                           have rW5_0 : W5.cell? ⟨w4.heap.size, 0, none⟩ = some (.int .i64 (opI i)) := row_cell hblk5 0 _ rfl; have rW5_1 : W5.cell? ⟨w4.heap.size, 1, none⟩ = some (.string (nameI i)) := row_cell hblk5 1 _ rfl; have rW5_2 : W5.cell? ⟨w4.heap.size, 2, none⟩ = some (.int .i64 (firstI i)) := row_cell hblk5 2 _ rfl; have rW5_3 : W5.cell? ⟨w4.heap.size, 3, none⟩ = some (.int .i64 (lastI i)) := row_cell hblk5 3 _ rfl; have rW5_4 : W5.cell? ⟨w4.heap.size, 4, none⟩ = some (.int .i64 (leastI i)) := row_cell hblk5 4 _ rfl; have rW5_5 : W5.cell? ⟨w4.heap.size, 5, none⟩ = some (.int .i64 (mostI i)) := row_cell hblk5 5 _ rfl; have rW5_6 : W5.cell? ⟨w4.heap.size, 6, none⟩ = some (mayI n4 i) := row_cell hblk5 6 _ rfl; have rW5_7 : W5.cell? ⟨w4.heap.size, 7, none⟩ = some (.int .i64 (noneI i)) := row_cell hblk5 7 _ rfl; have nW5_0 : W5.cell? ⟨w.heap.size, 0, none⟩ = some (.int .i64 a1_0) := row_cell hnd5 0 _ rfl; have nW5_1 : W5.cell? ⟨w.heap.size, 1, none⟩ = some (.slice A1_1 l1_1.length c1_1) := row_cell hnd5 1 _ rfl; have nW5_2 : W5.cell? ⟨w.heap.size, 2, none⟩ = some (.slice A1_2 l1_2.length c1_2) := row_cell hnd5 2 _ rfl; have HB5 := Aside0.mk ((below_alloc HB4.out (.cells zeroCells 49)).trans (hbel _ HB4.out.size)); have HM5 := Aside0.mk (HM4.out.stored (.cells zeroCells 49) hoth); clear hbel hoth)
                        | (go_at_call 26; refine (rowin_calls n4 i a0 _).mono ?_; rw [d3]; rintro e w6 ⟨rfl, hb6⟩; have hlt5 := (Array.getElem?_eq_some_iff.1 hblk5).1; have hltn := (Array.getElem?_eq_some_iff.1 hnd5).1; have hblk6 := (hb6.block w4.heap.size hlt5).trans hblk5; have hnd6 := (hb6.block w.heap.size hltn).trans hnd5
                           have rw6_0 : w6.cell? ⟨w4.heap.size, 0, none⟩ = some (.int .i64 (opI i)) := row_cell hblk6 0 _ rfl; have rw6_1 : w6.cell? ⟨w4.heap.size, 1, none⟩ = some (.string (nameI i)) := row_cell hblk6 1 _ rfl; have rw6_2 : w6.cell? ⟨w4.heap.size, 2, none⟩ = some (.int .i64 (firstI i)) := row_cell hblk6 2 _ rfl; have rw6_3 : w6.cell? ⟨w4.heap.size, 3, none⟩ = some (.int .i64 (lastI i)) := row_cell hblk6 3 _ rfl; have rw6_4 : w6.cell? ⟨w4.heap.size, 4, none⟩ = some (.int .i64 (leastI i)) := row_cell hblk6 4 _ rfl; have rw6_5 : w6.cell? ⟨w4.heap.size, 5, none⟩ = some (.int .i64 (mostI i)) := row_cell hblk6 5 _ rfl; have rw6_6 : w6.cell? ⟨w4.heap.size, 6, none⟩ = some (mayI n4 i) := row_cell hblk6 6 _ rfl; have rw6_7 : w6.cell? ⟨w4.heap.size, 7, none⟩ = some (.int .i64 (noneI i)) := row_cell hblk6 7 _ rfl; have nw6_0 : w6.cell? ⟨w.heap.size, 0, none⟩ = some (.int .i64 a1_0) := row_cell hnd6 0 _ rfl; have nw6_1 : w6.cell? ⟨w.heap.size, 1, none⟩ = some (.slice A1_1 l1_1.length c1_1) := row_cell hnd6 1 _ rfl; have nw6_2 : w6.cell? ⟨w.heap.size, 2, none⟩ = some (.slice A1_2 l1_2.length c1_2) := row_cell hnd6 2 _ rfl; have HB6 := Aside0.mk (HB5.out.trans (hb6.mono HB5.out.size)); have HM6 := Aside0.mk (HM5.out.below hb6); clear hb6)
                        | (go_at_call 27; refine (containsfar_calls A1_2 c1_2 l1_2 _ (Kd.C_below HR2.out HB6.out)).mono ?_; rw [d8]; rintro e w7 ⟨rfl, ⟨m7, rfl⟩⟩; obtain ⟨g, lb, hg1, hg2, hg3⟩ := may_calls k n4 i hi l1_2 _ hb (w6.drewN m7) (HM6.out.below (pw_below_drewN (Below.refl _ _) _)) A1_2 c1_2 (Kd.C_drewN (Kd.C_below HR2.out HB6.out) _) HC2.out; rw [hg1] at rw6_6; have HG := Aside0.mk hg3; clear hg3)
                        | (go_at_fn g; refine HG.out.mono ?_; rintro e w8 ⟨rfl, hb8⟩; have HB8 := Aside0.mk ((pw_below_drewN HB6.out m7).trans (hb8.mono (by have := HB6.out.size; simpa using this))); clear hb8))
                      go_ret
                      exact ⟨rfl, HB8.out⟩
              · have d6 : ((l1_2.length : Int) == 0) = false := by
                  rw [beq_eq_false_iff_ne]; omega
                rw [if_neg (fun c => v6 c.1)] at h
                clear v6
                by_cases v8 : l1_2.any farB = true
                · have d8 : l1_2.any farB = true := v8
                  rw [if_pos v8] at h
                  obtain rfl := Option.some.inj h
                  go_enter Try.func9, Try.ntmps9
                  go_wp2_with (first
                    | (go_at_call 24; refine (of_calls a1_0 _).mono ?_; rintro e w4 ⟨n4, he, hn4, hm4, hb4⟩; obtain rfl : e = .returned (.tuple #[.agg #[.int .i64 (opI i), .string (nameI i), .int .i64 (firstI i), .int .i64 (lastI i), .int .i64 (leastI i), .int .i64 (mostI i), mayI n4 i, .int .i64 (noneI i)], .bool true]) := by rw [he, hf]; rfl
                       have hblk := World.alloc_heap_new w4 (.cells zeroCells 49); have hnd4 := (hb4.block w.heap.size (by simp)).trans hnd; have hlt4 : w.heap.size < w4.heap.size := by have := hb4.size; simp at this; omega
                       have HN4 := Aside0.mk hn4; have HM4 := Aside0.mk hm4; have HB4 := Aside0.mk (h0.trans (hb4.mono h0.size)); clear he hn4 hm4 hb4)
                    | ((with_reducible refine gate_store (t := 49) (p := 5) rfl ?_); refine store_row_any rfl 49 _ _ rfl w4.heap.size _ rfl rfl 49 zeroCells hblk rowSize rfl (agg_one n4 i) ?_; intro W5 hblk5 hoth hbel; have hnd5 := (hoth w.heap.size (by omega)).trans ((Below.heap_alloc w4 _ w.heap.size hlt4).trans hnd4)
                       have rW5_0 : W5.cell? ⟨w4.heap.size, 0, none⟩ = some (.int .i64 (opI i)) := row_cell hblk5 0 _ rfl; have rW5_1 : W5.cell? ⟨w4.heap.size, 1, none⟩ = some (.string (nameI i)) := row_cell hblk5 1 _ rfl; have rW5_2 : W5.cell? ⟨w4.heap.size, 2, none⟩ = some (.int .i64 (firstI i)) := row_cell hblk5 2 _ rfl; have rW5_3 : W5.cell? ⟨w4.heap.size, 3, none⟩ = some (.int .i64 (lastI i)) := row_cell hblk5 3 _ rfl; have rW5_4 : W5.cell? ⟨w4.heap.size, 4, none⟩ = some (.int .i64 (leastI i)) := row_cell hblk5 4 _ rfl; have rW5_5 : W5.cell? ⟨w4.heap.size, 5, none⟩ = some (.int .i64 (mostI i)) := row_cell hblk5 5 _ rfl; have rW5_6 : W5.cell? ⟨w4.heap.size, 6, none⟩ = some (mayI n4 i) := row_cell hblk5 6 _ rfl; have rW5_7 : W5.cell? ⟨w4.heap.size, 7, none⟩ = some (.int .i64 (noneI i)) := row_cell hblk5 7 _ rfl; have nW5_0 : W5.cell? ⟨w.heap.size, 0, none⟩ = some (.int .i64 a1_0) := row_cell hnd5 0 _ rfl; have nW5_1 : W5.cell? ⟨w.heap.size, 1, none⟩ = some (.slice A1_1 l1_1.length c1_1) := row_cell hnd5 1 _ rfl; have nW5_2 : W5.cell? ⟨w.heap.size, 2, none⟩ = some (.slice A1_2 l1_2.length c1_2) := row_cell hnd5 2 _ rfl; have HB5 := Aside0.mk ((below_alloc HB4.out (.cells zeroCells 49)).trans (hbel _ HB4.out.size)); have HM5 := Aside0.mk (HM4.out.stored (.cells zeroCells 49) hoth); clear hbel hoth)
                    | (go_at_call 26; refine (rowin_calls n4 i a0 _).mono ?_; rw [d3]; rintro e w6 ⟨rfl, hb6⟩; have hlt5 := (Array.getElem?_eq_some_iff.1 hblk5).1; have hltn := (Array.getElem?_eq_some_iff.1 hnd5).1; have hblk6 := (hb6.block w4.heap.size hlt5).trans hblk5; have hnd6 := (hb6.block w.heap.size hltn).trans hnd5
                       have rw6_0 : w6.cell? ⟨w4.heap.size, 0, none⟩ = some (.int .i64 (opI i)) := row_cell hblk6 0 _ rfl; have rw6_1 : w6.cell? ⟨w4.heap.size, 1, none⟩ = some (.string (nameI i)) := row_cell hblk6 1 _ rfl; have rw6_2 : w6.cell? ⟨w4.heap.size, 2, none⟩ = some (.int .i64 (firstI i)) := row_cell hblk6 2 _ rfl; have rw6_3 : w6.cell? ⟨w4.heap.size, 3, none⟩ = some (.int .i64 (lastI i)) := row_cell hblk6 3 _ rfl; have rw6_4 : w6.cell? ⟨w4.heap.size, 4, none⟩ = some (.int .i64 (leastI i)) := row_cell hblk6 4 _ rfl; have rw6_5 : w6.cell? ⟨w4.heap.size, 5, none⟩ = some (.int .i64 (mostI i)) := row_cell hblk6 5 _ rfl; have rw6_6 : w6.cell? ⟨w4.heap.size, 6, none⟩ = some (mayI n4 i) := row_cell hblk6 6 _ rfl; have rw6_7 : w6.cell? ⟨w4.heap.size, 7, none⟩ = some (.int .i64 (noneI i)) := row_cell hblk6 7 _ rfl; have nw6_0 : w6.cell? ⟨w.heap.size, 0, none⟩ = some (.int .i64 a1_0) := row_cell hnd6 0 _ rfl; have nw6_1 : w6.cell? ⟨w.heap.size, 1, none⟩ = some (.slice A1_1 l1_1.length c1_1) := row_cell hnd6 1 _ rfl; have nw6_2 : w6.cell? ⟨w.heap.size, 2, none⟩ = some (.slice A1_2 l1_2.length c1_2) := row_cell hnd6 2 _ rfl; have HB6 := Aside0.mk (HB5.out.trans (hb6.mono HB5.out.size)); have HM6 := Aside0.mk (HM5.out.below hb6); clear hb6)
                    | (go_at_call 27; refine (containsfar_calls A1_2 c1_2 l1_2 _ (Kd.C_below HR2.out HB6.out)).mono ?_; rw [d8]; rintro e w7 ⟨rfl, ⟨m7, rfl⟩⟩))
                  go_ret
                  exact ⟨rfl, pw_below_drewN HB6.out _⟩
                · have d8 : l1_2.any farB = false := by simpa using v8
                  rw [if_neg v8] at h
                  obtain ⟨b, hb, h⟩ := Option.bind_eq_some_iff.mp h
                  cases b with
                  | true =>
                    simp only [if_true, Bool.false_eq_true, if_false] at h
                    obtain rfl := Option.some.inj h
                    go_enter Try.func9, Try.ntmps9
                    go_wp2_with (first
                      | (go_at_call 24; refine (of_calls a1_0 _).mono ?_; rintro e w4 ⟨n4, he, hn4, hm4, hb4⟩; obtain rfl : e = .returned (.tuple #[.agg #[.int .i64 (opI i), .string (nameI i), .int .i64 (firstI i), .int .i64 (lastI i), .int .i64 (leastI i), .int .i64 (mostI i), mayI n4 i, .int .i64 (noneI i)], .bool true]) := by rw [he, hf]; rfl
                         have hblk := World.alloc_heap_new w4 (.cells zeroCells 49); have hnd4 := (hb4.block w.heap.size (by simp)).trans hnd; have hlt4 : w.heap.size < w4.heap.size := by have := hb4.size; simp at this; omega
                         have HN4 := Aside0.mk hn4; have HM4 := Aside0.mk hm4; have HB4 := Aside0.mk (h0.trans (hb4.mono h0.size)); clear he hn4 hm4 hb4)
                      | ((with_reducible refine gate_store (t := 49) (p := 5) rfl ?_); refine store_row_any rfl 49 _ _ rfl w4.heap.size _ rfl rfl 49 zeroCells hblk rowSize rfl (agg_one n4 i) ?_; intro W5 hblk5 hoth hbel; have hnd5 := (hoth w.heap.size (by omega)).trans ((Below.heap_alloc w4 _ w.heap.size hlt4).trans hnd4)
                         have rW5_0 : W5.cell? ⟨w4.heap.size, 0, none⟩ = some (.int .i64 (opI i)) := row_cell hblk5 0 _ rfl; have rW5_1 : W5.cell? ⟨w4.heap.size, 1, none⟩ = some (.string (nameI i)) := row_cell hblk5 1 _ rfl; have rW5_2 : W5.cell? ⟨w4.heap.size, 2, none⟩ = some (.int .i64 (firstI i)) := row_cell hblk5 2 _ rfl; have rW5_3 : W5.cell? ⟨w4.heap.size, 3, none⟩ = some (.int .i64 (lastI i)) := row_cell hblk5 3 _ rfl; have rW5_4 : W5.cell? ⟨w4.heap.size, 4, none⟩ = some (.int .i64 (leastI i)) := row_cell hblk5 4 _ rfl; have rW5_5 : W5.cell? ⟨w4.heap.size, 5, none⟩ = some (.int .i64 (mostI i)) := row_cell hblk5 5 _ rfl; have rW5_6 : W5.cell? ⟨w4.heap.size, 6, none⟩ = some (mayI n4 i) := row_cell hblk5 6 _ rfl; have rW5_7 : W5.cell? ⟨w4.heap.size, 7, none⟩ = some (.int .i64 (noneI i)) := row_cell hblk5 7 _ rfl; have nW5_0 : W5.cell? ⟨w.heap.size, 0, none⟩ = some (.int .i64 a1_0) := row_cell hnd5 0 _ rfl; have nW5_1 : W5.cell? ⟨w.heap.size, 1, none⟩ = some (.slice A1_1 l1_1.length c1_1) := row_cell hnd5 1 _ rfl; have nW5_2 : W5.cell? ⟨w.heap.size, 2, none⟩ = some (.slice A1_2 l1_2.length c1_2) := row_cell hnd5 2 _ rfl; have HB5 := Aside0.mk ((below_alloc HB4.out (.cells zeroCells 49)).trans (hbel _ HB4.out.size)); have HM5 := Aside0.mk (HM4.out.stored (.cells zeroCells 49) hoth); clear hbel hoth)
                      | (go_at_call 26; refine (rowin_calls n4 i a0 _).mono ?_; rw [d3]; rintro e w6 ⟨rfl, hb6⟩; have hlt5 := (Array.getElem?_eq_some_iff.1 hblk5).1; have hltn := (Array.getElem?_eq_some_iff.1 hnd5).1; have hblk6 := (hb6.block w4.heap.size hlt5).trans hblk5; have hnd6 := (hb6.block w.heap.size hltn).trans hnd5
                         have rw6_0 : w6.cell? ⟨w4.heap.size, 0, none⟩ = some (.int .i64 (opI i)) := row_cell hblk6 0 _ rfl; have rw6_1 : w6.cell? ⟨w4.heap.size, 1, none⟩ = some (.string (nameI i)) := row_cell hblk6 1 _ rfl; have rw6_2 : w6.cell? ⟨w4.heap.size, 2, none⟩ = some (.int .i64 (firstI i)) := row_cell hblk6 2 _ rfl; have rw6_3 : w6.cell? ⟨w4.heap.size, 3, none⟩ = some (.int .i64 (lastI i)) := row_cell hblk6 3 _ rfl; have rw6_4 : w6.cell? ⟨w4.heap.size, 4, none⟩ = some (.int .i64 (leastI i)) := row_cell hblk6 4 _ rfl; have rw6_5 : w6.cell? ⟨w4.heap.size, 5, none⟩ = some (.int .i64 (mostI i)) := row_cell hblk6 5 _ rfl; have rw6_6 : w6.cell? ⟨w4.heap.size, 6, none⟩ = some (mayI n4 i) := row_cell hblk6 6 _ rfl; have rw6_7 : w6.cell? ⟨w4.heap.size, 7, none⟩ = some (.int .i64 (noneI i)) := row_cell hblk6 7 _ rfl; have nw6_0 : w6.cell? ⟨w.heap.size, 0, none⟩ = some (.int .i64 a1_0) := row_cell hnd6 0 _ rfl; have nw6_1 : w6.cell? ⟨w.heap.size, 1, none⟩ = some (.slice A1_1 l1_1.length c1_1) := row_cell hnd6 1 _ rfl; have nw6_2 : w6.cell? ⟨w.heap.size, 2, none⟩ = some (.slice A1_2 l1_2.length c1_2) := row_cell hnd6 2 _ rfl; have HB6 := Aside0.mk (HB5.out.trans (hb6.mono HB5.out.size)); have HM6 := Aside0.mk (HM5.out.below hb6); clear hb6)
                      | (go_at_call 27; refine (containsfar_calls A1_2 c1_2 l1_2 _ (Kd.C_below HR2.out HB6.out)).mono ?_; rw [d8]; rintro e w7 ⟨rfl, ⟨m7, rfl⟩⟩; obtain ⟨g, lb, hg1, hg2, hg3⟩ := may_calls k n4 i hi l1_2 _ hb (w6.drewN m7) (HM6.out.below (pw_below_drewN (Below.refl _ _) _)) A1_2 c1_2 (Kd.C_drewN (Kd.C_below HR2.out HB6.out) _) HC2.out; rw [hg1] at rw6_6; have HG := Aside0.mk hg3; clear hg3)
                      | (go_at_fn g; refine HG.out.mono ?_; rintro e w8 ⟨rfl, hb8⟩; have HB8 := Aside0.mk ((pw_below_drewN HB6.out m7).trans (hb8.mono (by have := HB6.out.size; simpa using this))); clear hb8))
                    go_ret
                    exact ⟨rfl, HB8.out⟩
                  | false =>
                    simp only [if_true, Bool.false_eq_true, if_false] at h
                    obtain rfl := Option.some.inj h
                    go_enter Try.func9, Try.ntmps9
                    go_wp2_with (first
                      | (go_at_call 24; refine (of_calls a1_0 _).mono ?_; rintro e w4 ⟨n4, he, hn4, hm4, hb4⟩; obtain rfl : e = .returned (.tuple #[.agg #[.int .i64 (opI i), .string (nameI i), .int .i64 (firstI i), .int .i64 (lastI i), .int .i64 (leastI i), .int .i64 (mostI i), mayI n4 i, .int .i64 (noneI i)], .bool true]) := by rw [he, hf]; rfl
                         have hblk := World.alloc_heap_new w4 (.cells zeroCells 49); have hnd4 := (hb4.block w.heap.size (by simp)).trans hnd; have hlt4 : w.heap.size < w4.heap.size := by have := hb4.size; simp at this; omega
                         have HN4 := Aside0.mk hn4; have HM4 := Aside0.mk hm4; have HB4 := Aside0.mk (h0.trans (hb4.mono h0.size)); clear he hn4 hm4 hb4)
                      | ((with_reducible refine gate_store (t := 49) (p := 5) rfl ?_); refine store_row_any rfl 49 _ _ rfl w4.heap.size _ rfl rfl 49 zeroCells hblk rowSize rfl (agg_one n4 i) ?_; intro W5 hblk5 hoth hbel; have hnd5 := (hoth w.heap.size (by omega)).trans ((Below.heap_alloc w4 _ w.heap.size hlt4).trans hnd4)
                         have rW5_0 : W5.cell? ⟨w4.heap.size, 0, none⟩ = some (.int .i64 (opI i)) := row_cell hblk5 0 _ rfl; have rW5_1 : W5.cell? ⟨w4.heap.size, 1, none⟩ = some (.string (nameI i)) := row_cell hblk5 1 _ rfl; have rW5_2 : W5.cell? ⟨w4.heap.size, 2, none⟩ = some (.int .i64 (firstI i)) := row_cell hblk5 2 _ rfl; have rW5_3 : W5.cell? ⟨w4.heap.size, 3, none⟩ = some (.int .i64 (lastI i)) := row_cell hblk5 3 _ rfl; have rW5_4 : W5.cell? ⟨w4.heap.size, 4, none⟩ = some (.int .i64 (leastI i)) := row_cell hblk5 4 _ rfl; have rW5_5 : W5.cell? ⟨w4.heap.size, 5, none⟩ = some (.int .i64 (mostI i)) := row_cell hblk5 5 _ rfl; have rW5_6 : W5.cell? ⟨w4.heap.size, 6, none⟩ = some (mayI n4 i) := row_cell hblk5 6 _ rfl; have rW5_7 : W5.cell? ⟨w4.heap.size, 7, none⟩ = some (.int .i64 (noneI i)) := row_cell hblk5 7 _ rfl; have nW5_0 : W5.cell? ⟨w.heap.size, 0, none⟩ = some (.int .i64 a1_0) := row_cell hnd5 0 _ rfl; have nW5_1 : W5.cell? ⟨w.heap.size, 1, none⟩ = some (.slice A1_1 l1_1.length c1_1) := row_cell hnd5 1 _ rfl; have nW5_2 : W5.cell? ⟨w.heap.size, 2, none⟩ = some (.slice A1_2 l1_2.length c1_2) := row_cell hnd5 2 _ rfl; have HB5 := Aside0.mk ((below_alloc HB4.out (.cells zeroCells 49)).trans (hbel _ HB4.out.size)); have HM5 := Aside0.mk (HM4.out.stored (.cells zeroCells 49) hoth); clear hbel hoth)
                      | (go_at_call 26; refine (rowin_calls n4 i a0 _).mono ?_; rw [d3]; rintro e w6 ⟨rfl, hb6⟩; have hlt5 := (Array.getElem?_eq_some_iff.1 hblk5).1; have hltn := (Array.getElem?_eq_some_iff.1 hnd5).1; have hblk6 := (hb6.block w4.heap.size hlt5).trans hblk5; have hnd6 := (hb6.block w.heap.size hltn).trans hnd5
                         have rw6_0 : w6.cell? ⟨w4.heap.size, 0, none⟩ = some (.int .i64 (opI i)) := row_cell hblk6 0 _ rfl; have rw6_1 : w6.cell? ⟨w4.heap.size, 1, none⟩ = some (.string (nameI i)) := row_cell hblk6 1 _ rfl; have rw6_2 : w6.cell? ⟨w4.heap.size, 2, none⟩ = some (.int .i64 (firstI i)) := row_cell hblk6 2 _ rfl; have rw6_3 : w6.cell? ⟨w4.heap.size, 3, none⟩ = some (.int .i64 (lastI i)) := row_cell hblk6 3 _ rfl; have rw6_4 : w6.cell? ⟨w4.heap.size, 4, none⟩ = some (.int .i64 (leastI i)) := row_cell hblk6 4 _ rfl; have rw6_5 : w6.cell? ⟨w4.heap.size, 5, none⟩ = some (.int .i64 (mostI i)) := row_cell hblk6 5 _ rfl; have rw6_6 : w6.cell? ⟨w4.heap.size, 6, none⟩ = some (mayI n4 i) := row_cell hblk6 6 _ rfl; have rw6_7 : w6.cell? ⟨w4.heap.size, 7, none⟩ = some (.int .i64 (noneI i)) := row_cell hblk6 7 _ rfl; have nw6_0 : w6.cell? ⟨w.heap.size, 0, none⟩ = some (.int .i64 a1_0) := row_cell hnd6 0 _ rfl; have nw6_1 : w6.cell? ⟨w.heap.size, 1, none⟩ = some (.slice A1_1 l1_1.length c1_1) := row_cell hnd6 1 _ rfl; have nw6_2 : w6.cell? ⟨w.heap.size, 2, none⟩ = some (.slice A1_2 l1_2.length c1_2) := row_cell hnd6 2 _ rfl; have HB6 := Aside0.mk (HB5.out.trans (hb6.mono HB5.out.size)); have HM6 := Aside0.mk (HM5.out.below hb6); clear hb6)
                      | (go_at_call 27; refine (containsfar_calls A1_2 c1_2 l1_2 _ (Kd.C_below HR2.out HB6.out)).mono ?_; rw [d8]; rintro e w7 ⟨rfl, ⟨m7, rfl⟩⟩; obtain ⟨g, lb, hg1, hg2, hg3⟩ := may_calls k n4 i hi l1_2 _ hb (w6.drewN m7) (HM6.out.below (pw_below_drewN (Below.refl _ _) _)) A1_2 c1_2 (Kd.C_drewN (Kd.C_below HR2.out HB6.out) _) HC2.out; rw [hg1] at rw6_6; have HG := Aside0.mk hg3; clear hg3)
                      | (go_at_fn g; refine HG.out.mono ?_; rintro e w8 ⟨rfl, hb8⟩; have HB8 := Aside0.mk ((pw_below_drewN HB6.out m7).trans (hb8.mono (by have := HB6.out.size; simpa using this))); clear hb8))
                    go_ret
                    exact ⟨rfl, HB8.out⟩
        · have d3 : (decide (firstI i ≤ a0) && decide (a0 ≤ lastI i)) = false := by
            by_cases z : firstI i ≤ a0
            · rw [decide_eq_false (fun c => v3 ⟨z, c⟩), Bool.and_false]
            · rw [decide_eq_false z, Bool.false_and]
          rw [if_neg v3] at h
          obtain rfl := Option.some.inj h
          go_enter Try.func9, Try.ntmps9
          go_wp2_with (first
            | (go_at_call 24; refine (of_calls a1_0 _).mono ?_; rintro e w4 ⟨n4, he, hn4, hm4, hb4⟩; obtain rfl : e = .returned (.tuple #[.agg #[.int .i64 (opI i), .string (nameI i), .int .i64 (firstI i), .int .i64 (lastI i), .int .i64 (leastI i), .int .i64 (mostI i), mayI n4 i, .int .i64 (noneI i)], .bool true]) := by rw [he, hf]; rfl
               have hblk := World.alloc_heap_new w4 (.cells zeroCells 49); have hnd4 := (hb4.block w.heap.size (by simp)).trans hnd; have hlt4 : w.heap.size < w4.heap.size := by have := hb4.size; simp at this; omega
               have HN4 := Aside0.mk hn4; have HM4 := Aside0.mk hm4; have HB4 := Aside0.mk (h0.trans (hb4.mono h0.size)); clear he hn4 hm4 hb4)
            | ((with_reducible refine gate_store (t := 49) (p := 5) rfl ?_); refine store_row_any rfl 49 _ _ rfl w4.heap.size _ rfl rfl 49 zeroCells hblk rowSize rfl (agg_one n4 i) ?_; intro W5 hblk5 hoth hbel; have hnd5 := (hoth w.heap.size (by omega)).trans ((Below.heap_alloc w4 _ w.heap.size hlt4).trans hnd4)
               have rW5_0 : W5.cell? ⟨w4.heap.size, 0, none⟩ = some (.int .i64 (opI i)) := row_cell hblk5 0 _ rfl; have rW5_1 : W5.cell? ⟨w4.heap.size, 1, none⟩ = some (.string (nameI i)) := row_cell hblk5 1 _ rfl; have rW5_2 : W5.cell? ⟨w4.heap.size, 2, none⟩ = some (.int .i64 (firstI i)) := row_cell hblk5 2 _ rfl; have rW5_3 : W5.cell? ⟨w4.heap.size, 3, none⟩ = some (.int .i64 (lastI i)) := row_cell hblk5 3 _ rfl; have rW5_4 : W5.cell? ⟨w4.heap.size, 4, none⟩ = some (.int .i64 (leastI i)) := row_cell hblk5 4 _ rfl; have rW5_5 : W5.cell? ⟨w4.heap.size, 5, none⟩ = some (.int .i64 (mostI i)) := row_cell hblk5 5 _ rfl; have rW5_6 : W5.cell? ⟨w4.heap.size, 6, none⟩ = some (mayI n4 i) := row_cell hblk5 6 _ rfl; have rW5_7 : W5.cell? ⟨w4.heap.size, 7, none⟩ = some (.int .i64 (noneI i)) := row_cell hblk5 7 _ rfl; have nW5_0 : W5.cell? ⟨w.heap.size, 0, none⟩ = some (.int .i64 a1_0) := row_cell hnd5 0 _ rfl; have nW5_1 : W5.cell? ⟨w.heap.size, 1, none⟩ = some (.slice A1_1 l1_1.length c1_1) := row_cell hnd5 1 _ rfl; have nW5_2 : W5.cell? ⟨w.heap.size, 2, none⟩ = some (.slice A1_2 l1_2.length c1_2) := row_cell hnd5 2 _ rfl; have HB5 := Aside0.mk ((below_alloc HB4.out (.cells zeroCells 49)).trans (hbel _ HB4.out.size)); have HM5 := Aside0.mk (HM4.out.stored (.cells zeroCells 49) hoth); clear hbel hoth)
            | (go_at_call 26; refine (rowin_calls n4 i a0 _).mono ?_; rw [d3]; rintro e w6 ⟨rfl, hb6⟩; have hlt5 := (Array.getElem?_eq_some_iff.1 hblk5).1; have hltn := (Array.getElem?_eq_some_iff.1 hnd5).1; have hblk6 := (hb6.block w4.heap.size hlt5).trans hblk5; have hnd6 := (hb6.block w.heap.size hltn).trans hnd5
               have rw6_0 : w6.cell? ⟨w4.heap.size, 0, none⟩ = some (.int .i64 (opI i)) := row_cell hblk6 0 _ rfl; have rw6_1 : w6.cell? ⟨w4.heap.size, 1, none⟩ = some (.string (nameI i)) := row_cell hblk6 1 _ rfl; have rw6_2 : w6.cell? ⟨w4.heap.size, 2, none⟩ = some (.int .i64 (firstI i)) := row_cell hblk6 2 _ rfl; have rw6_3 : w6.cell? ⟨w4.heap.size, 3, none⟩ = some (.int .i64 (lastI i)) := row_cell hblk6 3 _ rfl; have rw6_4 : w6.cell? ⟨w4.heap.size, 4, none⟩ = some (.int .i64 (leastI i)) := row_cell hblk6 4 _ rfl; have rw6_5 : w6.cell? ⟨w4.heap.size, 5, none⟩ = some (.int .i64 (mostI i)) := row_cell hblk6 5 _ rfl; have rw6_6 : w6.cell? ⟨w4.heap.size, 6, none⟩ = some (mayI n4 i) := row_cell hblk6 6 _ rfl; have rw6_7 : w6.cell? ⟨w4.heap.size, 7, none⟩ = some (.int .i64 (noneI i)) := row_cell hblk6 7 _ rfl; have nw6_0 : w6.cell? ⟨w.heap.size, 0, none⟩ = some (.int .i64 a1_0) := row_cell hnd6 0 _ rfl; have nw6_1 : w6.cell? ⟨w.heap.size, 1, none⟩ = some (.slice A1_1 l1_1.length c1_1) := row_cell hnd6 1 _ rfl; have nw6_2 : w6.cell? ⟨w.heap.size, 2, none⟩ = some (.slice A1_2 l1_2.length c1_2) := row_cell hnd6 2 _ rfl; have HB6 := Aside0.mk (HB5.out.trans (hb6.mono HB5.out.size)); have HM6 := Aside0.mk (HM5.out.below hb6); clear hb6))
          go_ret
          exact ⟨rfl, HB6.out⟩
end Go.Proofs.Ytbefcdidlfkmnaa.Print
