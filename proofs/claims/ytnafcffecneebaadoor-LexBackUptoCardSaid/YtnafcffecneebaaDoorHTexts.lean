/- The rows of chapter 16 whose input has a list of strings: how such a list that came in is read; no condition beyond those written. -/
import Derived.Test.YtnafcffecneebaaDoorPuJoins
import Derived.Test.YtnafcffecneebaaDoorCards
import Derived.SliceStrings
import Derived.Lib.SmallJoins
import Derived.ProofKit
namespace Go.Proofs.YtnafcffecneebaaDoor.Print
open Go.ChangeShapes Go.WideShapes Go.ChangeAt Go.RowKit Go.Proofs.YtnafcffecneebaaDoorW.PrintWords
set_option linter.unusedVariables false
structure InTexts {H : Type} (W : World) (v : Value) (d : DataW H) (A : Option Addr) (c : Nat) (l : List ByteArray) : Prop where
  eq : v = .slice A l.length c
  cells : Kd.C Kd.string W A l.length l
  cap : l.length ≤ c
  bulk : bulkL l ≤ Rows.uptoBulk d
section
variable {H : Type} {enc : TypeId × Value → H} {W : World}
theorem bulk_strs : ∀ l : List ByteArray, Rows.uptoBulkAll (H := H) (strs l) = bulkL l
  | [] => rfl
  | x :: r => by
    have ih := bulk_strs r
    have hx := size_len x
    show Rows.uptoBulkAll (DataW.lit (Lit.string x.data.toList) :: strs r) = _
    rw [Rows.uptoBulkAll, ih, Rows.uptoBulk, bulk_cons]; omega
theorem open_texts {v : Value} {d : DataW H} {p : List MemPlace} (hv : ∃ A len cap, v = .slice A len cap) (h : DataW.Trod enc Tryd.prog W 0 (fun _ => true) true 22 v d p) : ∃ A c l, InTexts W v d A c l := by
  obtain ⟨a0, len0, cap0, rfl⟩ := hv
  obtain ⟨fuel, hf⟩ := h
  rcases open_strings Tryd.underlying22 Tryd.underlying9 (by kernel_rfl) hf with ⟨hcs, hx⟩ | ⟨x, l, c, ss, hcs, _, hl, hm, hz, hx, hcell, hwz⟩
  · simp [Value.cells] at hcs
    obtain ⟨rfl, rfl, rfl⟩ := hcs
    exact ⟨none, 0, [], ⟨rfl, ⟨rfl, Nat.zero_le _, fun hn => absurd hn (Nat.lt_irrefl 0)⟩, Nat.le_refl _, Nat.zero_le _⟩⟩
  · simp [Value.cells] at hcs
    obtain ⟨rfl, rfl, rfl⟩ := hcs
    simp only [if_true] at hz
    have hd : d = .slice (strs (ss.take len0)) (strs (ss.drop len0)) := congrArg Prod.fst hx
    have hlen : (ss.take len0).length = len0 := by rw [List.length_take]; omega
    refine ⟨some x, cap0, ss.take len0, ⟨by rw [hlen], ?_, by rw [hlen]; exact hl, ?_⟩⟩
    · refine Kd.C_of_reads (d := ByteArray.empty) (h1 := fun _ => rfl) ⟨rfl, ?_, fun hn => ⟨x, rfl, fun j hj => ?_⟩⟩
      · rw [hlen]; unfold maxLen at hm; omega
      · rw [hlen] at hj
        rw [hcell j (by omega)]
        simp only [List.getD_eq_getElem?_getD]
        rw [List.getElem?_take_of_lt hj]
    · rw [hd, Rows.uptoBulk, bulk_strs]; omega
end
end Go.Proofs.YtnafcffecneebaaDoor.Print
