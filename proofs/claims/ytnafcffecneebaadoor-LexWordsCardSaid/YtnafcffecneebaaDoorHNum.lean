/- The contracts of the program's lex.Num and lex.RefText, where the library's table of powers lies as the program lays it; no condition beyond those written. -/
import Derived.Test.YtnafcffecneebaaDoorK0
import Derived.Ground.NamesProg
import Derived.Shelf.Lay
import Derived.Shelf.Strconv.Itoa3
import Derived.Lib.LaidTab
namespace Go.Proofs
open Go.RowKit Go.Shelf
shelf_lay LaysM.n171 Nm 171 at Tryd as Tryd.layItoa
end Go.Proofs
namespace Go.Proofs.YtnafcffecneebaaDoor.Print
open Go.RowKit Go.Shelf Go.Proofs.YtnafcffecneebaaDoorW.PrintWords Go.Proofs.YtnafcffecneebaaDoorW.PrintLast Go.Proofs.YtnafcffecneebaaDoorW.PrintMore
set_option linter.unusedVariables false
set_option linter.unusedSimpArgs false

/-- The table of powers lies as the program lays it. -/
def PowTab (w : World) : Prop := Lib.TabIs Tryd.prog w "internal/strconv.uint64pow10" .u64 Lib.pow10Tab
theorem PowTab.below {w0 w : World} (h : PowTab w0) (hb : Below w0.heap.size w0 w) : PowTab w := by
  unfold PowTab Lib.TabIs World.var? at h ⊢
  obtain ⟨g, hg, h⟩ := Option.bind_eq_some_iff.1 h
  rw [hg, Option.bind_some]
  cases hw : w0.heap[g]? with
  | none => rw [hw] at h; cases h
  | some o =>
    have hlt := (Array.getElem?_eq_some_iff.1 hw).1
    rw [hb.block g hlt, hw]
    rw [hw] at h; exact h
theorem below_grow (B : Nat) (w : World) (os : Array Obj) (hB : B ≤ w.heap.size) : Below B w (Sort.grow w os) := by
  refine ⟨rfl, rfl, rfl, by simp [Sort.grow], fun j hj => ?_⟩
  simp only [Sort.grow]
  rw [Array.getElem?_append_left (by omega)]
def numB (n : Int) : ByteArray := ⟨(Lib.itoa n).toArray⟩
def lex_Num.f (a0 : Int) : Option ByteArray := if -9223372036854775808 ≤ a0 ∧ a0 ≤ 9223372036854775807 then some (numB a0) else none
theorem lex_Num.calls (a0 : Int) (r : ByteArray) (w : World) (ht : PowTab w) (h : lex_Num.f a0 = some r) :
    Calls Tryd.prog 19 #[.int .i64 a0] w fun e w' => e = .returned (.string r) ∧ Below w.heap.size w w' := by
  unfold lex_Num.f at h
  by_cases hr : -9223372036854775808 ≤ a0 ∧ a0 ≤ 9223372036854775807
  · rw [if_pos hr] at h
    obtain rfl := Option.some.inj h
    have hI := Any.strconv_Itoa Tryd.layItoa a0 hr.1 hr.2 w ht
    go_enter Tryd.func19, Tryd.ntmps19
    go_wp2_with (go_at_call 38; refine hI.mono ?_; rintro e w' ⟨rfl, k, os, rfl⟩)
    go_ret
    exact ⟨rfl, (pw_below_drewN (Below.refl _ _) k).trans (below_grow _ _ _ (by simp))⟩
  · rw [if_neg hr] at h; cases h
def lex_RefText.f (a0 : Int) : Option ByteArray := if (-9223372036854775808 ≤ a0 ∧ a0 ≤ 9223372036854775807) ∧ 1 + (numB a0).size ≤ 9223372036854775807 then some ((⟨#[37]⟩ : ByteArray) ++ numB a0) else none
theorem lex_RefText.calls (a0 : Int) (r : ByteArray) (w : World) (ht : PowTab w) (h : lex_RefText.f a0 = some r) :
    Calls Tryd.prog 21 #[.int .i64 a0] w fun e w' => e = .returned (.string r) ∧ Below w.heap.size w w' := by
  unfold lex_RefText.f at h
  by_cases hr : (-9223372036854775808 ≤ a0 ∧ a0 ≤ 9223372036854775807) ∧ 1 + (numB a0).size ≤ 9223372036854775807
  · rw [if_pos hr] at h
    obtain rfl := Option.some.inj h
    have hN := lex_Num.calls a0 (numB a0) w ht (by unfold lex_Num.f; rw [if_pos hr.1])
    have c1 := eq_true hr.2
    go_enter Tryd.func21, Tryd.ntmps21
    go_wp2_with (go_at_call 19; refine hN.mono ?_; rintro e w' ⟨rfl, hb⟩; have HB := Aside0.mk hb; clear hb)
    go_ret
    exact ⟨rfl, HB.out⟩
  · rw [if_neg hr] at h; cases h
end Go.Proofs.YtnafcffecneebaaDoor.Print
