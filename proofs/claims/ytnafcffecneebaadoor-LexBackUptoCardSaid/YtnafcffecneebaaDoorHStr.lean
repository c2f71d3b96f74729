/- The contracts of strings.Cut at a line feed, strings.CutPrefix, strings.Contains at a line feed, in the printer's form; no condition beyond those written. -/
import Derived.Test.YtnafcffecneebaaDoorK0
import Derived.Ground.NamesProg
import Derived.Shelf.Lay
import Derived.Shelf.Strings.Search3
import Derived.Shelf.Small.Wraps
import Derived.Laws.Strings3
namespace Go.Proofs
open Go.RowKit Go.Shelf
shelf_lay Lays.n219 Nm 219 at Tryd as Tryd.layIndexLite
shelf_lay Lays.n144 Nm 144 at Tryd as Tryd.layContains
shelf_lay Lays.n103 Nm 103 at Tryd as Tryd.layCutPrefix
end Go.Proofs
namespace Go.Proofs.YtnafcffecneebaaDoor.Print
open Go.RowKit Go.Shelf Go.Proofs.YtnafcffecneebaaDoorW.PrintWords Go.Proofs.YtnafcffecneebaaDoorW.PrintLast
set_option linter.unusedVariables false
set_option linter.unusedSimpArgs false

theorem indexByte_lt (l : List UInt8) (c : UInt8) : Lib.indexByte l c < (l.length : Int) := by
  induction l with
  | nil => show (-1 : Int) < 0; decide
  | cons b l ih =>
    unfold Lib.indexByte
    split
    · simp only [List.length_cons]; omega
    · split
      · simp only [List.length_cons]; omega
      · simp only [List.length_cons]; omega
def lfAt (s : ByteArray) : Int := Lib.indexByte s.data.toList 10
theorem lfAt_lt (s : ByteArray) : lfAt s < (s.size : Int) := by
  have := indexByte_lt s.data.toList 10
  have e : s.data.toList.length = s.size := by cases s; rfl
  rw [e] at this; exact this
def cutLF (s : ByteArray) : ByteArray × ByteArray × Bool := if 0 ≤ lfAt s then (s.extract 0 (lfAt s).toNat, s.extract ((lfAt s).toNat + 1) s.size, true) else (s, ⟨#[]⟩, false)
set_option maxRecDepth 100000 in
set_option maxHeartbeats 2000000 in
theorem cutlite_calls (s : ByteArray) (hs : s.size ≤ 140737488351232) (w : World) :
    Calls Tryd.prog 43 #[.string s, .string ⟨#[10]⟩] w fun e w' => e = .returned (.tuple #[.string (cutLF s).1, .string (cutLF s).2.1, .bool (cutLF s).2.2]) ∧ Drawn0 w w' := by
  by_cases h : 0 ≤ lfAt s
  · obtain ⟨i, hi⟩ : ∃ i : Nat, lfAt s = (i : Int) := ⟨(lfAt s).toNat, by omega⟩
    have hlt := lfAt_lt s
    rw [show cutLF s = (s.extract 0 (lfAt s).toNat, s.extract ((lfAt s).toNat + 1) s.size, true) from if_pos h, hi]
    have c1 : (0 : Int) ≤ ↑i := by omega
    have c2 : (↑i : Int) ≤ ↑s.size := by omega
    have c3 : (0 : Int) ≤ ↑i + 1 := by omega
    have c4 : (↑i + 1 : Int) ≤ ↑s.size := by omega
    have c5 : IntKind.i64.wrap ((i : Int) + 1) = (i : Int) + 1 := by rw [i64_w]; unfold wrap64; omega
    have mixed : Tryd.prog.follows .mixedOrders = true := by kernel_rfl
    have hI := fun w => Any.stringslite_Index_one Tryd.layIndexLite s 10 w
    rw [show Lib.indexByte s.data.toList 10 = (i : Int) from hi] at hI
    go_enter Tryd.func43, Tryd.ntmps43
    go_wp2_with (go_at_call 53; refine (hI _).mono ?_; rintro e w' ⟨rfl, rfl⟩)
    go_region_o
    go_wp2
    go_ret3
    exact ⟨rfl, 1, rfl⟩
  · rw [show cutLF s = (s, ⟨#[]⟩, false) from if_neg h]
    have hd : decide (0 ≤ lfAt s) = false := decide_eq_false h
    have hI := fun w => Any.stringslite_Index_one Tryd.layIndexLite s 10 w
    rw [show Lib.indexByte s.data.toList 10 = lfAt s from rfl] at hI
    generalize lfAt s = i at hd hI
    go_enter Tryd.func43, Tryd.ntmps43
    go_wp2_with (go_at_call 53; refine (hI _).mono ?_; rintro e w' ⟨rfl, rfl⟩)
    go_ret3
    exact ⟨rfl, 0, rfl⟩
def strings_Cut.f (a0 a1 : ByteArray) : Option (ByteArray × ByteArray × Bool) := if a1 = ⟨#[10]⟩ ∧ a0.size ≤ 140737488351232 then some (cutLF a0) else none
set_option maxRecDepth 100000 in
theorem strings_Cut.calls (a0 a1 : ByteArray) (r1 r2 : ByteArray) (r3 : Bool) (w : World) (h : strings_Cut.f a0 a1 = some (r1, r2, r3)) :
    Calls Tryd.prog 29 #[.string a0, .string a1] w fun e w' => e = .returned (.tuple #[.string r1, .string r2, .bool r3]) ∧ Drawn0 w w' := by
  unfold strings_Cut.f at h
  by_cases ha : a1 = ⟨#[10]⟩ ∧ a0.size ≤ 140737488351232
  · rw [if_pos ha] at h
    obtain ⟨rfl, hs⟩ := ha
    have h := Option.some.inj h
    have hC := cutlite_calls a0 hs
    rw [h] at hC
    go_enter Tryd.func29, Tryd.ntmps29
    go_wp2_with (go_at_call 43; refine (hC _).mono ?_; rintro e w' ⟨rfl, ⟨n, rfl⟩⟩)
    go_ret3
    exact ⟨rfl, n, rfl⟩
  · rw [if_neg ha] at h; cases h
def strings_Contains.f (a0 a1 : ByteArray) : Option Bool := if a1 = ⟨#[10]⟩ then some (decide (0 ≤ lfAt a0)) else none
theorem strings_Contains.calls (a0 a1 : ByteArray) (r : Bool) (w : World) (h : strings_Contains.f a0 a1 = some r) :
    Calls Tryd.prog 32 #[.string a0, .string a1] w fun e w' => e = .returned (.bool r) ∧ Drawn0 w w' := by
  unfold strings_Contains.f at h
  by_cases ha : a1 = ⟨#[10]⟩
  · subst ha
    rw [if_pos rfl] at h
    obtain rfl := Option.some.inj h
    exact (Any.strings_Contains_one Tryd.layContains a0 10 w).mono fun e w' ⟨he, hw⟩ => ⟨he, 0, by rw [hw]; rfl⟩
  · rw [if_neg ha] at h; cases h
def strings_CutPrefix.f (a0 a1 : ByteArray) : Option (ByteArray × Bool) := some (⟨(Lib.trimPrefix a0.data.toList a1.data.toList).toArray⟩, Lib.hasPrefix a0.data.toList a1.data.toList)
theorem strings_CutPrefix.calls (a0 a1 : ByteArray) (r1 : ByteArray) (r2 : Bool) (w : World) (h : strings_CutPrefix.f a0 a1 = some (r1, r2)) :
    Calls Tryd.prog 35 #[.string a0, .string a1] w fun e w' => e = .returned (.tuple #[.string r1, .bool r2]) ∧ Drawn0 w w' := by
  unfold strings_CutPrefix.f at h
  have h := Option.some.inj h
  obtain ⟨rfl, rfl⟩ := Prod.mk.inj h
  exact (Any.strings_CutPrefix Tryd.layCutPrefix a0 a1 w).mono fun e w' ⟨he, hw⟩ => ⟨he, 0, by rw [hw]; rfl⟩
end Go.Proofs.YtnafcffecneebaaDoor.Print
