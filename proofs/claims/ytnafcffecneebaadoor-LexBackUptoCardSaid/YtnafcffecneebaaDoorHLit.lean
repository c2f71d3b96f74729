/- A list of strings that is written out, laid in a new block, is read; no condition beyond those written. -/
import Derived.Test.YtnafcffecneebaaDoorK0
namespace Go.Proofs.YtnafcffecneebaaDoor.Print
open Go.RowKit Go.Proofs.YtnafcffecneebaaDoorW.PrintWords Go.Proofs.YtnafcffecneebaaDoorW.PrintLast Go.Proofs.YtnafcffecneebaaDoorW.PrintMore
theorem litS_C (W : World) (xs : List ByteArray) (hm : xs.length ≤ 1000 := by decide) : Kd.C Kd.string (W.alloc (.cells (xs.map Value.string).toArray 9)) (some ⟨W.heap.size, 0, none⟩) xs.length xs := by
  have ho : World.ownsRow (W.alloc (.cells (xs.map Value.string).toArray 9)) 0 9 1 (.slice (some ⟨W.heap.size, 0, none⟩) xs.length xs.length) xs.length (encs Value.string xs) :=
    ⟨by simp [encs], .inr ⟨_, _, _, rfl, Nat.zero_le _, heap_alloc_new W _, Nat.le_refl _, by unfold maxLen; omega, by simp, by
      rw [Nat.mul_one, List.take_of_length_le (by simp)]; rfl⟩⟩
  exact (Kd.R_reads' (Kd.R_of_own (h1 := fun _ => rfl) (ok := fun _ => True) ho (fun _ _ => trivial))).2.2
theorem litS_at (W : World) (xs : List ByteArray) (b : Nat) (hb : b = W.heap.size) (hm : xs.length ≤ 1000 := by decide) : Kd.C Kd.string (W.alloc (.cells (xs.map Value.string).toArray 9)) (some ⟨b, 0, none⟩) xs.length xs := by
  subst hb; exact litS_C W xs hm
end Go.Proofs.YtnafcffecneebaaDoor.Print
