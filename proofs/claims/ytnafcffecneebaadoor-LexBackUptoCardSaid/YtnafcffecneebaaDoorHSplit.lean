/- The contract of strings.Split at a space, in the printer's form; no condition beyond those written. -/
import Derived.Test.YtnafcffecneebaaDoorHStr
import Derived.Shelf.Strings.Split
namespace Go.Proofs
open Go.RowKit Go.Shelf
shelf_lay Lays.n146 Nm 146 at Tryd as Tryd.laySplit
shelf_lay Lays.n221 Nm 221 at Tryd as Tryd.layGenSplit
shelf_lay Lays.n138 Nm 138 at Tryd as Tryd.layCount
shelf_lay Lays.n143 Nm 143 at Tryd as Tryd.layIndex
end Go.Proofs
namespace Go.Proofs.YtnafcffecneebaaDoor.Print
open Go.RowKit Go.Shelf Go.Proofs.YtnafcffecneebaaDoorW.PrintWords Go.Proofs.YtnafcffecneebaaDoorW.PrintLast
set_option linter.unusedVariables false
set_option linter.unusedSimpArgs false

def spB : ByteArray := ⟨#[32]⟩
def wordsOf (s : ByteArray) : List ByteArray := Lib.splitB spB 0 (Lib.countB s spB) s
theorem wordsOf_length (s : ByteArray) : (wordsOf s).length = Lib.countB s spB + 1 := Lib.splitB_all spB (by decide) 0 _ s rfl
theorem count_le (s : ByteArray) : Lib.countB s spB ≤ s.size := Lib.countB_le spB (by decide) s.size s (Nat.le_refl _)
theorem index_sp (s : ByteArray) (w : World) : Calls Tryd.prog 45 #[.string s, .string spB] w fun e w' => e = .returned (.int .i64 (Lib.indexB s spB)) ∧ w' = w := by
  refine (Any.strings_Index_one Tryd.layIndex s 32 w).mono fun e w' ⟨he, hw⟩ => ⟨?_, hw⟩
  rw [he]
  show _ = Ending.returned (Value.int .i64 (Lib.index s.data.toList [32]))
  rw [Lib.index_one]
theorem count_sp (s : ByteArray) (w : World) : Calls Tryd.prog 55 #[.string s, .string spB] w fun e w' => e = .returned (.int .i64 (Lib.countB s spB)) ∧ w' = w := by
  refine (Any.strings_Count_one Tryd.layCount s 32 w).mono fun e w' ⟨he, hw⟩ => ⟨?_, hw⟩
  rw [he]
  show _ = Ending.returned (Value.int .i64 ((Lib.count s.data.toList [32] : Nat) : Int))
  rw [Lib.count_one]
  rfl
set_option maxRecDepth 100000 in
set_option maxHeartbeats 2000000 in
theorem split_calls (s : ByteArray) (w : World) (hs : s.size < 4294967281) :
    Calls Tryd.prog 31 #[.string s, .string spB] w fun e w' => e = .returned (.slice (some ⟨w.heap.size, 0, none⟩) (Lib.countB s spB + 1) (Lib.countB s spB + 1)) ∧ w' = w.alloc (.cells ((wordsOf s).map Value.string).toArray 9) := by
  have hle := count_le s
  have hlen := wordsOf_length s
  have c := Any.strings_genSplit_core Tryd.layGenSplit info9 s spB 0 (-1) (Lib.countB s spB + 1) w hs (by decide) (Nat.zero_le _) (fun x c _ => index_sp x _) (count_sp s w) (by decide) (by decide) (by rw [if_pos (by decide)]; omega)
  rw [Nat.add_sub_cancel, show Lib.splitB spB 0 (Lib.countB s spB) s = wordsOf s from rfl, hlen] at c
  have e2 : Lib.cellsOf (wordsOf s) (Lib.countB s spB + 1) = ((wordsOf s).map Value.string).toArray := by rw [← hlen]; exact Lib.cellsOf_full _
  rw [e2] at c
  go_enter Tryd.func31, Tryd.ntmps31
  go_wp2_with (go_at_call 44; refine c.mono ?_; rintro e w' ⟨rfl, hw⟩; rw [hw])
  go_ret
  exact ⟨rfl, rfl⟩
def strings_Split.f (a0 a1 : ByteArray) : Option (List ByteArray) := if a1 = spB ∧ a0.size < 4294967281 then some (wordsOf a0) else none
theorem strings_Split.calls (a0 a1 : ByteArray) (r : List ByteArray) (w : World) (h : strings_Split.f a0 a1 = some r) :
    Calls Tryd.prog 31 #[.string a0, .string a1] w fun e w' => ∃ v0_ : Value, e = .returned v0_ ∧ Kd.R Kd.string 9 w' w.heap.size (fun _ => True) v0_ r ∧ Below w.heap.size w w' := by
  unfold strings_Split.f at h
  by_cases ha : a1 = spB ∧ a0.size < 4294967281
  · rw [if_pos ha] at h
    obtain ⟨rfl, hs⟩ := ha
    obtain rfl := Option.some.inj h
    have hlen := wordsOf_length a0
    have hle := count_le a0
    refine (split_calls a0 w hs).mono fun e w' ⟨he, hw⟩ => ⟨_, he, ?_, by rw [hw]; exact below_alloc (Below.refl _ _) _⟩
    rw [hw]
    refine Kd.R_of_own ⟨?_, .inr ⟨w.heap.size, Lib.countB a0 spB + 1, _, by rw [hlen], Nat.le_refl _, heap_alloc_new w _, ?_, ?_, ?_, ?_⟩⟩ (fun _ _ => trivial)
    · simp [encs]
    · omega
    · show Lib.countB a0 spB + 1 ≤ 9223372036854775807; omega
    · simp; omega
    · simp only [encs, Nat.mul_one]; exact List.take_of_length_le (by simp)
  · rw [if_neg ha] at h; cases h
end Go.Proofs.YtnafcffecneebaaDoor.Print
