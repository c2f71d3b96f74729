/- The contract of the program's op.Explicit at the row of the chapter (a transposition of rank 3 in version 1); no condition beyond those written. -/
import Derived.Test.YtbefcdidlfkmnaaHNode
import Derived.Test.YtbefcdidlfkmnaaHRev
namespace Go.Proofs.Ytbefcdidlfkmnaa.Print
open Go.RowKit Go.Shelf Go.Proofs.YtbefcdidlfkmnaaW.PrintWords Go.Proofs.YtbefcdidlfkmnaaW.PrintLast Go.Proofs.YtbefcdidlfkmnaaW.PrintMore
set_option linter.unusedVariables false
set_option linter.unusedSimpArgs false

def upToI (n : Nat) : List Int := (List.range n).map fun (i : Nat) => (i : Int)
theorem upToI_succ (n : Nat) : upToI (n + 1) = upToI n ++ [(n : Int)] := by simp [upToI, List.range_succ]
theorem upToI_length (n : Nat) : (upToI n).length = n := by simp [upToI]

set_option maxRecDepth 100000 in
set_option maxHeartbeats 16000000 in
theorem explicit_known (A1 : Option Addr) (c1 : Nat) (B : Nat) (w : World) (hr1 : Kd.C (Kd.int .i64) w A1 1 [0]) (hc1 : 1 ≤ c1) (hlt : B < w.heap.size) (hR : w.cell? ⟨B, 0, none⟩ = some (.int .i64 3)) :
    Calls Try.prog 13 #[.int .i64 1, .agg #[.int .i64 11, .slice A1 1 c1, .slice none 0 0], .slice (some ⟨B, 0, none⟩) 1 1] w fun e w' => ∃ v, e = .returned v ∧ Kd.R (Kd.int .i64) 3 w' w.heap.size (fun _ => True) v [2, 1, 0] ∧ Below w.heap.size w w' := by
  have hrow : rowOf 11 = some 10 := by decide +kernel
  have hn : decide (noneI 10 < 1) = false := rfl
  have HR1 := Aside0.mk hr1
  have HR := Aside0.mk hR
  clear hr1 hR
  have hnd := World.alloc_heap_new w (.cells #[.int .i64 11, .slice A1 1 c1, .slice none 0 0] 25)
  have h0 : Below w.heap.size w (w.alloc (.cells #[.int .i64 11, .slice A1 1 c1, .slice none 0 0] 25)) := below_alloc (Below.refl _ _) _
  go_enter Try.func13, Try.ntmps13
  go_wp2_with (first
    | (go_at_call 31; refine (clone_nil _).mono ?_; rintro e w' ⟨rfl, rfl⟩)
    | (go_at_call 24; refine (of_calls 11 _).mono ?_; rintro e w4 ⟨n4, he, hn4, hm4, hb4⟩; obtain rfl : e = .returned (.tuple #[.agg #[.int .i64 (opI 10), .string (nameI 10), .int .i64 (firstI 10), .int .i64 (lastI 10), .int .i64 (leastI 10), .int .i64 (mostI 10), mayI n4 10, .int .i64 (noneI 10)], .bool true]) := by rw [he, hrow]; rfl
       have hblk := World.alloc_heap_new w4 (.cells zeroCells 49); have hnd4 := (hb4.block w.heap.size (by simp)).trans hnd; have hlt4 : w.heap.size < w4.heap.size := by have := hb4.size; simp at this; omega
       have HB4 := Aside0.mk (h0.trans (hb4.mono h0.size)); clear he hn4 hm4 hb4)
    | ((with_reducible refine gate_store (t := 49) (p := 8) rfl ?_); refine store_row_any rfl 49 _ _ rfl w4.heap.size _ rfl rfl 49 zeroCells hblk rowSize rfl (agg_one n4 10) ?_; intro W5 hblk5 hoth hbel; have hnd5 := (hoth w.heap.size (by omega)).trans ((Below.heap_alloc w4 _ w.heap.size hlt4).trans hnd4)
       have rW5_0 : W5.cell? ⟨w4.heap.size, 0, none⟩ = some (.int .i64 (opI 10)) := row_cell hblk5 0 _ rfl; have rW5_1 : W5.cell? ⟨w4.heap.size, 1, none⟩ = some (.string (nameI 10)) := row_cell hblk5 1 _ rfl; have rW5_2 : W5.cell? ⟨w4.heap.size, 2, none⟩ = some (.int .i64 (firstI 10)) := row_cell hblk5 2 _ rfl; have rW5_3 : W5.cell? ⟨w4.heap.size, 3, none⟩ = some (.int .i64 (lastI 10)) := row_cell hblk5 3 _ rfl; have rW5_4 : W5.cell? ⟨w4.heap.size, 4, none⟩ = some (.int .i64 (leastI 10)) := row_cell hblk5 4 _ rfl; have rW5_5 : W5.cell? ⟨w4.heap.size, 5, none⟩ = some (.int .i64 (mostI 10)) := row_cell hblk5 5 _ rfl; have rW5_6 : W5.cell? ⟨w4.heap.size, 6, none⟩ = some (mayI n4 10) := row_cell hblk5 6 _ rfl; have rW5_7 : W5.cell? ⟨w4.heap.size, 7, none⟩ = some (.int .i64 (noneI 10)) := row_cell hblk5 7 _ rfl; have nW5_0 : W5.cell? ⟨w.heap.size, 0, none⟩ = some (.int .i64 11) := row_cell hnd5 0 _ rfl; have nW5_1 : W5.cell? ⟨w.heap.size, 1, none⟩ = some (.slice A1 1 c1) := row_cell hnd5 1 _ rfl; have nW5_2 : W5.cell? ⟨w.heap.size, 2, none⟩ = some (.slice none 0 0) := row_cell hnd5 2 _ rfl; have HB5 := Aside0.mk ((below_alloc HB4.out (.cells zeroCells 49)).trans (hbel _ HB4.out.size)); clear hbel hoth)
    | (go_at_call 9; refine (op_Check.calls 1 1 11 A1 c1 [0] none 0 [] 0 _ (Kd.C_below HR1.out HB5.out) hc1 (Kd.C_nil _ _) (Nat.le_refl _) check_transpose1).mono ?_; rintro e w6 ⟨rfl, hb6⟩; have hlt5 := (Array.getElem?_eq_some_iff.1 hblk5).1; have hltn := (Array.getElem?_eq_some_iff.1 hnd5).1; have hblk6 := (hb6.block w4.heap.size hlt5).trans hblk5; have hnd6 := (hb6.block w.heap.size hltn).trans hnd5
       have rw6_0 : w6.cell? ⟨w4.heap.size, 0, none⟩ = some (.int .i64 (opI 10)) := row_cell hblk6 0 _ rfl; have rw6_1 : w6.cell? ⟨w4.heap.size, 1, none⟩ = some (.string (nameI 10)) := row_cell hblk6 1 _ rfl; have rw6_2 : w6.cell? ⟨w4.heap.size, 2, none⟩ = some (.int .i64 (firstI 10)) := row_cell hblk6 2 _ rfl; have rw6_3 : w6.cell? ⟨w4.heap.size, 3, none⟩ = some (.int .i64 (lastI 10)) := row_cell hblk6 3 _ rfl; have rw6_4 : w6.cell? ⟨w4.heap.size, 4, none⟩ = some (.int .i64 (leastI 10)) := row_cell hblk6 4 _ rfl; have rw6_5 : w6.cell? ⟨w4.heap.size, 5, none⟩ = some (.int .i64 (mostI 10)) := row_cell hblk6 5 _ rfl; have rw6_6 : w6.cell? ⟨w4.heap.size, 6, none⟩ = some (mayI n4 10) := row_cell hblk6 6 _ rfl; have rw6_7 : w6.cell? ⟨w4.heap.size, 7, none⟩ = some (.int .i64 (noneI 10)) := row_cell hblk6 7 _ rfl; have nw6_0 : w6.cell? ⟨w.heap.size, 0, none⟩ = some (.int .i64 11) := row_cell hnd6 0 _ rfl; have nw6_1 : w6.cell? ⟨w.heap.size, 1, none⟩ = some (.slice A1 1 c1) := row_cell hnd6 1 _ rfl; have nw6_2 : w6.cell? ⟨w.heap.size, 2, none⟩ = some (.slice none 0 0) := row_cell hnd6 2 _ rfl; have HB6 := Aside0.mk (HB5.out.trans (hb6.mono HB5.out.size)); have hrank : w6.cell? ⟨B, 0, none⟩ = some (.int .i64 3) := (HB6.out.cell (p := ⟨B, 0, none⟩) hlt).trans HR.out; clear hb6))
  have HND := Aside0.mk hnd6
  go_loopw [7, 58] (fun v7 v58 wr => ∃ (i : Nat) (Av : Option Addr) (cv : Nat), i ≤ 3 ∧ v58 = .int .i64 (i : Int) ∧ v7 = .slice Av i cv ∧ Aside0 (Kd.R (Kd.int .i64) 3 wr w.heap.size (fun _ => True) (.slice Av i cv) (upToI i)) ∧ Aside0 (Below w.heap.size w wr) ∧ Aside0 (wr.heap[w.heap.size]? = some (.cells #[.int .i64 11, .slice A1 1 c1, .slice none 0 0] 25 (0, 0)))) (fun _ v58 _ => 3 - (intOf v58).toNat)
  case atStart => exact ⟨0, none, 0, by omega, rfl, rfl, ⟨Kd.R_nil _ _ _ _ _⟩, HB6, HND⟩
  case round =>
    obtain ⟨i, Av, cv, hi, rfl, rfl, HV, HB, HN⟩ := hrel
    clear HND
    by_cases hlti : i < 3
    · have hd : decide ((i : Int) < 3) = true := by simp; omega
      have hltw := (Array.getElem?_eq_some_iff.1 HN.out).1
      have hne : some w.heap.size ≠ (Value.slice Av i cv).ownBlock := fun e_ => by
        obtain ⟨cells, hcs⟩ := own_typed (Kd.own_of_R HV.out) w.heap.size e_.symm
        rw [HN.out] at hcs; cases hcs
      go_wp2_with ((with_reducible refine gate_builtin (b := .append) (xs := #[.tmp 61, .tmp 63]) rfl ?_); at_builtin; refine Kd.R_append (Kd.int .i64) (w0 := w) w.heap.size rfl (.tmp 61) (.tmp 63) 23 3 (.int .i64 0) 8 rfl Try.underlying23 info3 rfl (by decide) (by omega) (.slice Av i cv) (upToI i) (i : Int) [.int .i64 (i : Int)] (fun _ => True) (fun _ => False) rfl rfl ?aP (fun _ hk => hk.elim) ?aF ?aO ?aB ?aS ?aL ?_; (case aP => exact rfl); (case aB => exact HB.out); (case aF => exact (fun _ _ => trivial)); (case aO => exact HV.out); (case aS => exact HB.out.size); (case aL => rw [upToI_length]; omega); intro v' w9 ho hb hg hat; rw [← upToI_succ] at ho; have hN9 := (hg.block w.heap.size hltw (fun e_ => hne e_)).trans HN.out; obtain ⟨Av', cv', rfl, hl', _⟩ := Kd.R_reads ho; rw [upToI_length] at ho ⊢; have HV' := Aside0.mk ho; have HB' := Aside0.mk hb; have HN' := Aside0.mk hN9; clear ho hb hg hat hN9 hl')
      go_roundw
      case rel => exact ⟨i + 1, Av', cv', by omega, by simp, rfl, HV', HB', HN'⟩
      case measure => simp [intOf]; omega
    · obtain rfl : i = 3 := by omega
      have hd : decide ((3 : Int) < 3) = false := by simp
      have m0 : wr.cell? ⟨w.heap.size, 0, none⟩ = some (.int .i64 11) := row_cell HN.out 0 _ rfl
      go_wp2_with (go_at_call 32; refine (rev_calls w.heap.size _ (upToI 3) _ HV.out HB.out.size).mono ?_; rintro e w9 ⟨rfl, hv9, hb9⟩)
      go_ret
      exact ⟨_, rfl, hv9, HB.out.trans hb9⟩
end Go.Proofs.Ytbefcdidlfkmnaa.Print
