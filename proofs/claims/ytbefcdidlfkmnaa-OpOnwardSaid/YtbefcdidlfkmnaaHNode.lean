/- The contracts of fluxionlaw11.node and of slices.Clone of nil, and what op.Check says of the chapter's rows; no condition beyond those written. -/
import Derived.Test.YtbefcdidlfkmnaaHCheck
import Derived.WalkSpells
namespace Go.Proofs.Ytbefcdidlfkmnaa.Print
open Go.RowKit Go.Shelf Go.Proofs.YtbefcdidlfkmnaaW.PrintWords Go.Proofs.YtbefcdidlfkmnaaW.PrintLast Go.Proofs.YtbefcdidlfkmnaaW.PrintMore
set_option linter.unusedVariables false

set_option maxRecDepth 100000 in
set_option maxHeartbeats 2000000 in
theorem clone_nil (w : World) : Calls Try.prog 31 #[.slice none 0 0] w fun e w' => e = .returned (.slice none 0 0) ∧ w' = w := by
  have hq := fun w => run_eql_nil_slice (P := Try.prog) w 23 3 none 0 0 0 0 Try.underlying23
  simp only [Option.isNone_none] at hq
  go_enter Try.func31, Try.ntmps31
  go_wp2
  go_ret
  exact ⟨rfl, rfl⟩
set_option maxRecDepth 100000 in
set_option maxHeartbeats 2000000 in
theorem node_calls (o : Int) (A : Option Addr) (l c : Nat) (w : World) : Calls Try.prog 30 #[.int .i64 o, .slice A l c] w fun e w' => ∃ B, e = .returned (.agg #[.int .i64 o, .slice (some ⟨B, 0, none⟩) 1 1, .slice A l c]) ∧ Kd.C (Kd.int .i64) w' (some ⟨B, 0, none⟩) 1 [0] ∧ Below w.heap.size w w' := by
  go_enter Try.func30, Try.ntmps30
  go_wp2
  have h2 := World.alloc_heap_new (w.alloc (.cells #[.int .i64 o, .slice (some ⟨w.heap.size + 1, 0, none⟩) 1 1, .slice A l c] 25)) (.cells #[.int .i64 0] 3)
  rw [World.size_alloc] at h2
  have h1 := (Below.heap_alloc (w.alloc (.cells #[.int .i64 o, .slice (some ⟨w.heap.size + 1, 0, none⟩) 1 1, .slice A l c] 25)) (.cells #[.int .i64 0] 3) w.heap.size (by simp)).trans (World.alloc_heap_new w _)
  refine bodyPost_ret (results_cell_row rfl _ _ w.heap.size 25 _ (0, 0) _ rfl h1 Try.underlying25 rfl (by kernel_rfl)) rfl ?_
  refine ⟨w.heap.size + 1, rfl, ?_, below_alloc (below_alloc (Below.refl _ _) _) _⟩
  have ho : World.ownsRow ((w.alloc (.cells #[.int .i64 o, .slice (some ⟨w.heap.size + 1, 0, none⟩) 1 1, .slice A l c] 25)).alloc (.cells #[.int .i64 0] 3)) 0 3 1 (.slice (some ⟨w.heap.size + 1, 0, none⟩) 1 1) ([0] : List Int).length (encs (Value.int .i64) [0]) := ⟨rfl, .inr ⟨_, _, _, rfl, Nat.zero_le _, h2, by simp, by unfold maxLen; omega, rfl, rfl⟩⟩
  exact (Kd.R_reads' (Kd.R_of_own (h1 := fun _ => rfl) (ok := fun _ => True) ho (fun _ _ => trivial))).2.2
theorem check_pow2 : op_Check.f 1 2 6 [0] [] = some 11 := by decide +kernel
theorem check_pow1 : op_Check.f 1 1 6 [0] [] = some 0 := by decide +kernel
theorem check_square3 : op_Check.f 1 3 18 [0] [] = some 9 := by decide +kernel
theorem check_scale3 : op_Check.f 10 3 9 [0] [2, 4] = some 11 := by decide +kernel
theorem check_transpose1 : op_Check.f 1 1 11 [0] [] = some 0 := by decide +kernel
end Go.Proofs.Ytbefcdidlfkmnaa.Print
