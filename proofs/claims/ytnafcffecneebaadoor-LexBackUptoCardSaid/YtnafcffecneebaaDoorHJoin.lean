/- The contracts of the program's lex.Join and lex.Text, in the printer's form; no condition beyond those written. -/
import Derived.Test.YtnafcffecneebaaDoorK0
import Derived.Ground.NamesProg
import Derived.Shelf.Lay
import Derived.Shelf.Strings.Builder1
import Derived.Shelf.Strings.OnBuilder
namespace Go.Proofs
open Go.RowKit Go.Shelf
shelf_lay Lays.n156 Nm 156 at Tryd as Tryd.layJoin
set_option maxRecDepth 100000 in
theorem Tryd.extraJoin : Builder.Extra Tryd.prog Tryd.layJoin_ren where
  sizeBuilder := by kernel_rfl
  liesBuilder := by kernel_rfl
  t5 := Tryd.underlying5
  a5 := Tryd.isAgg5
  z5 := Tryd.sizeOf5
  v5 := Tryd.zeroValue5
  infoByte := by kernel_rfl
  cellsByte := by kernel_rfl
  sizeByte := by kernel_rfl
  neB5 := by decide
end Go.Proofs
namespace Go.Proofs.YtnafcffecneebaaDoor.Print
open Go.RowKit Go.Shelf Go.Proofs.YtnafcffecneebaaDoorW.PrintWords Go.Proofs.YtnafcffecneebaaDoorW.PrintLast Go.Proofs.YtnafcffecneebaaDoorW.PrintMore
set_option linter.unusedVariables false
set_option linter.unusedSimpArgs false

def joinL (ls : List ByteArray) : List UInt8 := Lib.join (ls.map (·.data.toList)) [32]
def textL (ls : List ByteArray) : List UInt8 := (ls.map (fun x => x.data.toList ++ [10])).flatten
def lex_Join.f (l0 : List ByteArray) : Option ByteArray := if l0.length ≤ 140737488355328 ∧ (joinL l0).length ≤ 140737488355328 then some ⟨(joinL l0).toArray⟩ else none
def lex_Text.f (l0 : List ByteArray) : Option ByteArray := if l0.length ≤ 140737488355328 ∧ (textL l0).length ≤ 140737488355328 then some ⟨(textL l0).toArray⟩ else none

theorem strings_Join_calls (A0 : Option Addr) (c0 : Nat) (l0 : List ByteArray) (w : World) (hr0 : Kd.C Kd.string w A0 l0.length l0) (hc0 : l0.length ≤ c0) (h1 : l0.length ≤ 140737488355328) (h2 : (joinL l0).length ≤ 140737488355328) :
    Calls Tryd.prog 40 #[.slice A0 l0.length c0, .string ⟨#[32]⟩] w fun e w' => e = .returned (.string ⟨(joinL l0).toArray⟩) ∧ Below w.heap.size w w' := by
  have hr := Kd.reads_of_C (enc := Value.string) (d := ByteArray.empty) (h1 := fun _ => rfl) hr0
  by_cases hn : l0.length = 0
  · have e0 : l0 = [] := List.eq_nil_of_length_eq_zero hn
    subst e0
    exact (Any.strings_Join_none Tryd.layJoin Tryd.extraJoin A0 c0 ⟨#[32]⟩ w).mono fun e w' ⟨he, hw⟩ => ⟨he, hw ▸ Below.refl _ _⟩
  · obtain ⟨ad, hA, hc⟩ := hr.2.2 (by omega)
    subst hA
    have h0 := hc 0 (by omega)
    obtain ⟨b, o, sp⟩ := ad
    have hsp : sp = none := by
      cases sp with
      | none => rfl
      | some q =>
        simp only [Addr.add, if_true, World.cell?] at h0
        split at h0 <;> simp at h0
    subst hsp
    have hb : b < w.heap.size := by
      rcases Nat.lt_or_ge b w.heap.size with h | h
      · exact h
      · simp [Addr.add, World.cell?, h] at h0
    refine Any.strings_Join Tryd.layJoin Tryd.extraJoin b o c0 l0 ⟨#[32]⟩ w ?_ hb h1 hc0 h2
    intro j x hj
    have hjl : j < l0.length := (List.getElem?_eq_some_iff.1 hj).1
    have h3 := hc j hjl
    rw [List.getD_eq_getElem?_getD, hj] at h3
    rw [show (⟨b, o + j, none⟩ : Addr) = (⟨b, o, none⟩ : Addr).add j from by unfold Addr.add; split <;> simp [*]]
    exact h3
set_option maxRecDepth 100000 in
set_option maxHeartbeats 2000000 in
theorem lex_Join.calls (A0 : Option Addr) (c0 : Nat) (l0 : List ByteArray) (r : ByteArray) (w : World) (hr0 : Kd.C Kd.string w A0 l0.length l0) (hc0 : l0.length ≤ c0) (h : lex_Join.f l0 = some r) :
    Calls Tryd.prog 25 #[.slice A0 l0.length c0] w fun e w' => e = .returned (.string r) ∧ Below w.heap.size w w' := by
  unfold lex_Join.f at h
  by_cases hs : l0.length ≤ 140737488355328 ∧ (joinL l0).length ≤ 140737488355328
  · rw [if_pos hs] at h
    obtain rfl := Option.some.inj h
    have hJ := strings_Join_calls A0 c0 l0 w hr0 hc0 hs.1 hs.2
    clear hs h hr0 hc0
    go_enter Tryd.func25, Tryd.ntmps25
    go_wp2_with (go_at_call 40; refine hJ.mono ?_; rintro e w1 ⟨rfl, hb1⟩; have HB := Aside0.mk hb1; clear hb1)
    go_ret
    exact ⟨rfl, HB.out⟩
  · rw [if_neg hs] at h; cases h

theorem size_toList (s : ByteArray) : s.size = s.data.toList.length := by cases s; rfl
theorem textL_snoc (ls : List ByteArray) (i : Nat) (h : i < ls.length) : textL (ls.take (i + 1)) = textL (ls.take i) ++ ((rdOf ByteArray.empty ls (i : Int)).data.toList ++ [10]) := by
  have : ls.take (i + 1) = ls.take i ++ [rdOf ByteArray.empty ls (i : Int)] := by
    rw [List.take_add_one, List.getElem?_eq_getElem h]
    simp [rdOf, h]
  rw [this]
  simp [textL]
theorem textL_le (ls : List ByteArray) (i : Nat) : (textL (ls.take i)).length ≤ (textL ls).length := by
  have : textL ls = textL (ls.take i) ++ textL (ls.drop i) := by
    conv => lhs; rw [← List.take_append_drop i ls]
    unfold textL
    rw [List.map_append, List.flatten_append]
  rw [this, List.length_append]; omega
theorem byteCells_append (a b : List UInt8) : Lib.byteCells (a ++ b) = Lib.byteCells a ++ Lib.byteCells b := by simp [Lib.byteCells]
theorem byteCells_length (a : List UInt8) : (Lib.byteCells a).length = a.length := by simp [Lib.byteCells]

set_option maxRecDepth 100000 in
set_option maxHeartbeats 8000000 in
theorem text_calls (A0 : Option Addr) (c0 : Nat) (l0 : List ByteArray) (w : World) (hr0 : Kd.C Kd.string w A0 l0.length l0) (hc0 : l0.length ≤ c0) (h1 : l0.length ≤ 140737488355328) (h2 : (textL l0).length ≤ 140737488355328) :
    Calls Tryd.prog 26 #[.slice A0 l0.length c0] w fun e w' => e = .returned (.string ⟨(textL l0).toArray⟩) ∧ Below w.heap.size w w' := by
  have HR0 := Aside0.mk hr0
  have HC0 := Aside0.mk hc0
  have H1 := Aside0.mk h1
  have H2 := Aside0.mk h2
  clear hr0 hc0 h1 h2
  go_enter Tryd.func26, Tryd.ntmps26
  go_wp2
  go_loopg [8] l0.length (fun kq v8 w' => ∃ (i : Nat), v8 = .int .i64 (i : Int) ∧ Aside0 (i + kq = l0.length) ∧ Aside0 (Lib.IsBuilder 52 5 w.heap.size w.heap.size (Lib.byteCells (textL (l0.take i))) w') ∧ Aside0 (Below w.heap.size w w'))
  case atStart =>
    refine ⟨0, rfl, ⟨by omega⟩, ⟨.inl ⟨Nat.le_refl _, .slice none 0 0, heap_alloc_new w _, World.ownsRow_nil _ _ _ _, by simp [Value.ownBlock]⟩⟩, ⟨?_⟩⟩
    · repeat (first | exact Below.refl _ _ | apply below_alloc)
  case round =>
    obtain ⟨i, rfl, HI, HU, HB⟩ := hrel
    by_cases hi : i < l0.length
    · have c2b0 : decide ((i : Int) < (l0.length : Int)) = true := decide_eq_true (by omega)
      have HL := Aside0.mk hi
      clear hi
      have p1 : 0 ≤ (i : Int) := by omega
      have q1 : (i : Int) < (l0.length : Int) := of_decide_eq_true c2b0
      obtain ⟨ad, e1, hx⟩ := Kd.at_string (Kd.C_below HR0.out HB.out) (i : Int) p1 q1
      cases e1
      rw [Int.toNat_natCast] at hx
      replace p1 := eq_true p1
      replace q1 := eq_true q1
      have hsn := textL_snoc l0 i HL.out
      have hle := textL_le l0 (i + 1)
      rw [hsn] at hle
      simp only [List.length_append, List.length_cons, List.length_nil] at hle
      have hsz : (rdOf ByteArray.empty l0 (i : Int)).size = (rdOf ByteArray.empty l0 (i : Int)).data.toList.length := size_toList _
      have hb0 : (rdOf ByteArray.empty l0 (i : Int)).size + 1 ≤ 9223372036854775807 := by have := H2.out; omega
      have hb1 := eq_true hb0
      have hb2 : (9223372036854775807 < (rdOf ByteArray.empty l0 (i : Int)).size + 1) = False := eq_false (Nat.not_lt.2 hb0)
      have hW := Any.Builder_WriteString { Tryd.layJoin with } Tryd.extraJoin w.heap.size w.heap.size (Lib.byteCells (textL (l0.take i))) (rdOf ByteArray.empty l0 (i : Int) ++ ⟨#[10]⟩)
      have HS := Aside0.mk hsn
      have HL2 := Aside0.mk hle
      have HZ := Aside0.mk hsz
      clear hsn hle hsz hb0
      go_wp2_with (go_at_call 41; refine (hW _ HU.out (by have h := HL2.out; have h2 := HZ.out; have h3 := H2.out; rw [byteCells_length, ByteArray.size_append]; show _ + (_ + 1) ≤ _; omega) HB.out.size).mono ?_; rintro e w1 ⟨rfl, hu1, hb1⟩; have HU1 := Aside0.mk hu1; have HB1 := Aside0.mk (HB.out.trans hb1); clear hu1 hb1)
      cases gk with
      | zero => have h1 := HI.out; have h2 := HL.out; omega
      | succ k1 =>
        go_roundg k1
        case measure => omega
        case rel =>
          refine ⟨i + 1, ?_, ⟨by have h1 := HI.out; omega⟩, ⟨.inr ?_⟩, HB1⟩
          · rw [show wrap64 ((i : Int) + 1) = ((i + 1 : Nat) : Int) from by have h1 := H1.out; have h2 := HL.out; unfold wrap64; omega]
          · have h := HU1.out
            rw [HS.out, byteCells_append]
            rw [show Lib.strCells (rdOf ByteArray.empty l0 (i : Int) ++ ⟨#[10]⟩) = Lib.byteCells ((rdOf ByteArray.empty l0 (i : Int)).data.toList ++ [10]) from by simp [Lib.strCells, Lib.byteCells, ByteArray.data_append]] at h
            exact h
    · have c2b0 : decide ((i : Int) < (l0.length : Int)) = false := decide_eq_false (by omega)
      have hS := Any.Builder_String_any { Tryd.layJoin with } Tryd.extraJoin w.heap.size w.heap.size (textL (l0.take i)) wr HU.out HB.out.size
      rw [List.take_of_length_le (by omega)] at hS
      replace hi := eq_false hi
      go_wp2_with (go_at_call 42; refine hS.mono ?_; rintro e w1 ⟨rfl, hb1⟩; have HB1 := Aside0.mk (HB.out.trans hb1); clear hb1)
      go_ret
      exact ⟨rfl, HB1.out⟩
theorem lex_Text.calls (A0 : Option Addr) (c0 : Nat) (l0 : List ByteArray) (r : ByteArray) (w : World) (hr0 : Kd.C Kd.string w A0 l0.length l0) (hc0 : l0.length ≤ c0) (h : lex_Text.f l0 = some r) :
    Calls Tryd.prog 26 #[.slice A0 l0.length c0] w fun e w' => e = .returned (.string r) ∧ Below w.heap.size w w' := by
  unfold lex_Text.f at h
  by_cases hs : l0.length ≤ 140737488355328 ∧ (textL l0).length ≤ 140737488355328
  · rw [if_pos hs] at h
    obtain rfl := Option.some.inj h
    exact text_calls A0 c0 l0 w hr0 hc0 hs.1 hs.2
  · rw [if_neg hs] at h; cases h
end Go.Proofs.YtnafcffecneebaaDoor.Print
