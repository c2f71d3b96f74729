/- The contracts of the program's op.table, op.one, op.pairs: what they return; no condition beyond those written. -/
import Derived.Test.YtbefcdidlfkmnaaK0
import Derived.RangeFuncBox
import Derived.WalkKit
import Derived.Great.BuildSlice
namespace Go.Proofs.Ytbefcdidlfkmnaa.Print
open Go.RowKit Go.Proofs.YtbefcdidlfkmnaaW.PrintWords Go.Proofs.YtbefcdidlfkmnaaW.PrintLast
set_option linter.unusedVariables false

/-- The i-th row's op. -/
def opI : Nat → Int
  | 0 => 1
  | 1 => 2
  | 2 => 3
  | 3 => 4
  | 4 => 5
  | 5 => 6
  | 6 => 7
  | 7 => 8
  | 8 => 9
  | 9 => 10
  | 10 => 11
  | 11 => 12
  | 12 => 13
  | 13 => 14
  | 14 => 15
  | 15 => 16
  | 16 => 17
  | 17 => 18
  | 18 => 19
  | 19 => 20
  | _ => 0
/-- The i-th row's name. -/
def nameI : Nat → ByteArray
  | 0 => ⟨#[97, 100, 100]⟩
  | 1 => ⟨#[115, 117, 98]⟩
  | 2 => ⟨#[109, 117, 108]⟩
  | 3 => ⟨#[100, 105, 118]⟩
  | 4 => ⟨#[110, 101, 103]⟩
  | 5 => ⟨#[112, 111, 119]⟩
  | 6 => ⟨#[114, 101, 108, 117]⟩
  | 7 => ⟨#[115, 116, 101, 112]⟩
  | 8 => ⟨#[115, 99, 97, 108, 101]⟩
  | 9 => ⟨#[109, 97, 116, 109, 117, 108]⟩
  | 10 => ⟨#[116, 114, 97, 110, 115, 112, 111, 115, 101]⟩
  | 11 => ⟨#[114, 101, 115, 104, 97, 112, 101]⟩
  | 12 => ⟨#[98, 114, 111, 97, 100, 99, 97, 115, 116]⟩
  | 13 => ⟨#[115, 117, 109]⟩
  | 14 => ⟨#[115, 108, 105, 99, 101]⟩
  | 15 => ⟨#[112, 97, 100]⟩
  | 16 => ⟨#[99, 111, 110, 99, 97, 116]⟩
  | 17 => ⟨#[115, 113, 117, 97, 114, 101]⟩
  | 18 => ⟨#[103, 101, 109, 109]⟩
  | 19 => ⟨#[109, 101, 97, 110]⟩
  | _ => ⟨#[]⟩
/-- From which version on it is. -/
def firstI : Nat → Int
  | 0 => 1
  | 1 => 1
  | 2 => 1
  | 3 => 1
  | 4 => 1
  | 5 => 1
  | 6 => 1
  | 7 => 3
  | 8 => 3
  | 9 => 1
  | 10 => 1
  | 11 => 1
  | 12 => 1
  | 13 => 1
  | 14 => 1
  | 15 => 1
  | 16 => 1
  | 17 => 1
  | 18 => 1
  | 19 => 1
  | _ => 0
/-- Up to which version it is. -/
def lastI : Nat → Int
  | 0 => 3
  | 1 => 3
  | 2 => 3
  | 3 => 3
  | 4 => 3
  | 5 => 3
  | 6 => 3
  | 7 => 3
  | 8 => 3
  | 9 => 3
  | 10 => 3
  | 11 => 3
  | 12 => 3
  | 13 => 3
  | 14 => 3
  | 15 => 3
  | 16 => 3
  | 17 => 1
  | 18 => 2
  | 19 => 2
  | _ => 0
/-- How few arguments. -/
def leastI : Nat → Int
  | 0 => 2
  | 1 => 2
  | 2 => 2
  | 3 => 2
  | 4 => 1
  | 5 => 1
  | 6 => 1
  | 7 => 1
  | 8 => 1
  | 9 => 2
  | 10 => 1
  | 11 => 1
  | 12 => 1
  | 13 => 1
  | 14 => 1
  | 15 => 1
  | 16 => 1
  | 17 => 1
  | 18 => 3
  | 19 => 1
  | _ => 0
/-- How many arguments. -/
def mostI : Nat → Int
  | 0 => 2
  | 1 => 2
  | 2 => 2
  | 3 => 2
  | 4 => 1
  | 5 => 1
  | 6 => 1
  | 7 => 1
  | 8 => 1
  | 9 => 2
  | 10 => 1
  | 11 => 1
  | 12 => 1
  | 13 => 1
  | 14 => 1
  | 15 => 1
  | 16 => 8
  | 17 => 1
  | 18 => 3
  | 19 => 1
  | _ => 0
/-- What its attributes may be: the function value; n: where the boxes of such functions begin. -/
def mayI (n : Nat) : Nat → Value
  | 0 => .func (.func 42) #[] #[]
  | 1 => .func (.func 42) #[] #[]
  | 2 => .func (.func 42) #[] #[]
  | 3 => .func (.func 42) #[] #[]
  | 4 => .func (.func 42) #[] #[]
  | 5 => .func (.func 51) #[] #[.pointer (some ⟨n, 0, none⟩)]
  | 6 => .func (.func 42) #[] #[]
  | 7 => .func (.func 42) #[] #[]
  | 8 => .func (.func 44) #[] #[]
  | 9 => .func (.func 42) #[] #[]
  | 10 => .func (.func 45) #[] #[]
  | 11 => .func (.func 46) #[] #[]
  | 12 => .func (.func 46) #[] #[]
  | 13 => .func (.func 47) #[] #[]
  | 14 => .func (.func 55) #[] #[.pointer (some ⟨n + 1, 0, none⟩)]
  | 15 => .func (.func 55) #[] #[.pointer (some ⟨n + 2, 0, none⟩)]
  | 16 => .func (.func 51) #[] #[.pointer (some ⟨n + 3, 0, none⟩)]
  | 17 => .func (.func 42) #[] #[]
  | 18 => .func (.func 42) #[] #[]
  | 19 => .func (.func 47) #[] #[]
  | _ => .nilFunc
/-- Up to which version there may be none. -/
def noneI : Nat → Int
  | 0 => 0
  | 1 => 0
  | 2 => 0
  | 3 => 0
  | 4 => 0
  | 5 => 1
  | 6 => 0
  | 7 => 0
  | 8 => 0
  | 9 => 0
  | 10 => 1
  | 11 => 0
  | 12 => 0
  | 13 => 2
  | 14 => 0
  | 15 => 0
  | 16 => 1
  | 17 => 0
  | 18 => 0
  | 19 => 2
  | _ => 0
/-- The cells of the i-th row. -/
def rowCells (n i : Nat) : List Value := [.int .i64 (opI i), .string (nameI i), .int .i64 (firstI i), .int .i64 (lastI i), .int .i64 (leastI i), .int .i64 (mostI i), mayI n i, .int .i64 (noneI i)]
/-- The rows of the table. -/
def tableRows (n : Nat) : List Value := [.agg #[.int .i64 1, .string ⟨#[97, 100, 100]⟩, .int .i64 1, .int .i64 3, .int .i64 2, .int .i64 2, .func (.func 42) #[] #[], .int .i64 0], .agg #[.int .i64 2, .string ⟨#[115, 117, 98]⟩, .int .i64 1, .int .i64 3, .int .i64 2, .int .i64 2, .func (.func 42) #[] #[], .int .i64 0], .agg #[.int .i64 3, .string ⟨#[109, 117, 108]⟩, .int .i64 1, .int .i64 3, .int .i64 2, .int .i64 2, .func (.func 42) #[] #[], .int .i64 0], .agg #[.int .i64 4, .string ⟨#[100, 105, 118]⟩, .int .i64 1, .int .i64 3, .int .i64 2, .int .i64 2, .func (.func 42) #[] #[], .int .i64 0], .agg #[.int .i64 5, .string ⟨#[110, 101, 103]⟩, .int .i64 1, .int .i64 3, .int .i64 1, .int .i64 1, .func (.func 42) #[] #[], .int .i64 0], .agg #[.int .i64 6, .string ⟨#[112, 111, 119]⟩, .int .i64 1, .int .i64 3, .int .i64 1, .int .i64 1, .func (.func 51) #[] #[.pointer (some ⟨n, 0, none⟩)], .int .i64 1], .agg #[.int .i64 7, .string ⟨#[114, 101, 108, 117]⟩, .int .i64 1, .int .i64 3, .int .i64 1, .int .i64 1, .func (.func 42) #[] #[], .int .i64 0], .agg #[.int .i64 8, .string ⟨#[115, 116, 101, 112]⟩, .int .i64 3, .int .i64 3, .int .i64 1, .int .i64 1, .func (.func 42) #[] #[], .int .i64 0], .agg #[.int .i64 9, .string ⟨#[115, 99, 97, 108, 101]⟩, .int .i64 3, .int .i64 3, .int .i64 1, .int .i64 1, .func (.func 44) #[] #[], .int .i64 0], .agg #[.int .i64 10, .string ⟨#[109, 97, 116, 109, 117, 108]⟩, .int .i64 1, .int .i64 3, .int .i64 2, .int .i64 2, .func (.func 42) #[] #[], .int .i64 0], .agg #[.int .i64 11, .string ⟨#[116, 114, 97, 110, 115, 112, 111, 115, 101]⟩, .int .i64 1, .int .i64 3, .int .i64 1, .int .i64 1, .func (.func 45) #[] #[], .int .i64 1], .agg #[.int .i64 12, .string ⟨#[114, 101, 115, 104, 97, 112, 101]⟩, .int .i64 1, .int .i64 3, .int .i64 1, .int .i64 1, .func (.func 46) #[] #[], .int .i64 0], .agg #[.int .i64 13, .string ⟨#[98, 114, 111, 97, 100, 99, 97, 115, 116]⟩, .int .i64 1, .int .i64 3, .int .i64 1, .int .i64 1, .func (.func 46) #[] #[], .int .i64 0], .agg #[.int .i64 14, .string ⟨#[115, 117, 109]⟩, .int .i64 1, .int .i64 3, .int .i64 1, .int .i64 1, .func (.func 47) #[] #[], .int .i64 2], .agg #[.int .i64 15, .string ⟨#[115, 108, 105, 99, 101]⟩, .int .i64 1, .int .i64 3, .int .i64 1, .int .i64 1, .func (.func 55) #[] #[.pointer (some ⟨n + 1, 0, none⟩)], .int .i64 0], .agg #[.int .i64 16, .string ⟨#[112, 97, 100]⟩, .int .i64 1, .int .i64 3, .int .i64 1, .int .i64 1, .func (.func 55) #[] #[.pointer (some ⟨n + 2, 0, none⟩)], .int .i64 0], .agg #[.int .i64 17, .string ⟨#[99, 111, 110, 99, 97, 116]⟩, .int .i64 1, .int .i64 3, .int .i64 1, .int .i64 8, .func (.func 51) #[] #[.pointer (some ⟨n + 3, 0, none⟩)], .int .i64 1], .agg #[.int .i64 18, .string ⟨#[115, 113, 117, 97, 114, 101]⟩, .int .i64 1, .int .i64 1, .int .i64 1, .int .i64 1, .func (.func 42) #[] #[], .int .i64 0], .agg #[.int .i64 19, .string ⟨#[103, 101, 109, 109]⟩, .int .i64 1, .int .i64 2, .int .i64 3, .int .i64 3, .func (.func 42) #[] #[], .int .i64 0], .agg #[.int .i64 20, .string ⟨#[109, 101, 97, 110]⟩, .int .i64 1, .int .i64 2, .int .i64 1, .int .i64 1, .func (.func 47) #[] #[], .int .i64 2]]
/-- All its cells. -/
def tableCells (n : Nat) : Array Value := ((tableRows n).flatMap fun v => v.cells.toList).toArray
theorem rowCells_length (n i : Nat) : (rowCells n i).length = 8 := rfl
theorem tableRows_size (n : Nat) : ∀ v ∈ tableRows n, v.cells.size = 8 := by
  unfold tableRows
  simp only [List.forall_mem_cons, List.not_mem_nil, false_imp_iff, implies_true, and_true]
  repeat' constructor
theorem tableRows_get (n i : Nat) (hi : i < 20) : (tableRows n)[i]? = some (.agg (rowCells n i).toArray) := by
  have ci : i = 0 ∨ i = 1 ∨ i = 2 ∨ i = 3 ∨ i = 4 ∨ i = 5 ∨ i = 6 ∨ i = 7 ∨ i = 8 ∨ i = 9 ∨ i = 10 ∨ i = 11 ∨ i = 12 ∨ i = 13 ∨ i = 14 ∨ i = 15 ∨ i = 16 ∨ i = 17 ∨ i = 18 ∨ i = 19 := by omega
  rcases ci with rfl | rfl | rfl | rfl | rfl | rfl | rfl | rfl | rfl | rfl | rfl | rfl | rfl | rfl | rfl | rfl | rfl | rfl | rfl | rfl <;> rfl
theorem tableCells_get (n i : Nat) (hi : i < 20) (j : Nat) (v : Value) (h : (rowCells n i)[j]? = some v) : (tableCells n)[i * 8 + j]? = some v := by
  have hj : j < 8 := by
    have := (List.getElem?_eq_some_iff.1 h).1
    rw [rowCells_length] at this; exact this
  unfold tableCells
  rw [List.getElem?_toArray, Great.flat_get (by decide) _ (tableRows_size n), show (i * 8 + j) / 8 = i by omega, show (i * 8 + j) % 8 = j by omega, tableRows_get n i hi, Option.bind_some]
  show (rowCells n i).toArray[j]? = some v
  rw [List.getElem?_toArray]; exact h

/-- A row's zero value. -/
def rowZero : Value := .agg #[.int .i64 0, .string ⟨#[]⟩, .int .i64 0, .int .i64 0, .int .i64 0, .int .i64 0, .nilFunc, .int .i64 0]
theorem infoRow : (Try.prog.info? 49).map (fun i => (i.zero, i.size)) = some (some rowZero, 8) := by kernel_rfl
theorem fill_table (n : Nat) : Instr.fill (fun i => some (i * 8, 8)) ((Array.range 160).map (rowZero.cells[· % rowZero.cells.size]!)) (((tableRows n).zipIdx 0).map fun x => (x.2, x.1)) = some (tableCells n) :=
  Great.fill_whole (by decide) (tableRows n) _ (tableRows_size n) (by simp [tableRows])
theorem gate_slice {P : Program} {ops : Array Oper} {o : Oper} {rest : List Oper} {a : Act} {Q : Exit → Act → World → Prop} {W : World} {t : TypeId} {len : Nat} {parts : Array (Nat × Operand)} (_ho : o.op = .buildSlice t len parts) (h : wpList P ops Q (o :: rest) a W) : wpList P ops Q (o :: rest) a W := h

theorem one_calls (m : Int) (w : World) : Calls Try.prog 43 #[.int .i64 m] w fun e w' => e = .returned (.func (.func 51) #[] #[.pointer (some ⟨w.heap.size, 0, none⟩)]) ∧ w' = w.alloc (.cells #[.int .i64 m] 3) := by
  go_enter Try.func43, Try.ntmps43
  go_wp2
  go_ret
  exact ⟨rfl, rfl⟩
theorem pairs_calls (g : FuncId) (w : World) : Calls Try.prog 48 #[.func (.func g) #[] #[]] w fun e w' => e = .returned (.func (.func 55) #[] #[.pointer (some ⟨w.heap.size, 0, none⟩)]) ∧ w' = w.alloc (.cells #[.func (.func g) #[] #[]] 64) := by
  go_enter Try.func48, Try.ntmps48
  go_wp2
  go_ret
  exact ⟨rfl, rfl⟩
/-- The world behind op.table. -/
def tableW (w : World) : World := ((((w.alloc (.cells #[.int .i64 16] 3)).alloc (.cells #[.func (.func 49) #[] #[]] 64)).alloc (.cells #[.func (.func 50) #[] #[]] 64)).alloc (.cells #[.int .i64 3] 3)).alloc (.cells (tableCells w.heap.size) 49)
set_option maxRecDepth 100000 in
set_option maxHeartbeats 8000000 in
theorem table_calls (w : World) : Calls Try.prog 40 #[] w fun e w' => e = .returned (.slice (some ⟨w.heap.size + 1 + 1 + 1 + 1, 0, none⟩) 20 20) ∧ w' = tableW w := by
  obtain ⟨ie, hie, hzz⟩ := Option.map_eq_some_iff.1 infoRow
  simp only [Prod.mk.injEq] at hzz
  obtain ⟨hz, hs⟩ := hzz
  go_enter Try.func40, Try.ntmps40
  go_wp2_with (first
    | (go_at_call 43; refine (one_calls _ _).mono ?_; rintro e w' ⟨rfl, rfl⟩)
    | (go_at_call 48; refine (pairs_calls _ _).mono ?_; rintro e w' ⟨rfl, rfl⟩)
    | ((with_reducible refine gate_slice (t := 66) (len := 20) rfl ?_); refine wpList_buildSlice rfl 66 49 20 _ rfl (tableCells w.heap.size) ie rowZero Try.underlying66 hie hz (by rw [hs]; decide) (by rw [hs]; decide) (by rw [hs, Array.toList_map]; exact fill_table w.heap.size) ?_))
  go_ret
  exact ⟨rfl, rfl⟩
end Go.Proofs.Ytbefcdidlfkmnaa.Print
