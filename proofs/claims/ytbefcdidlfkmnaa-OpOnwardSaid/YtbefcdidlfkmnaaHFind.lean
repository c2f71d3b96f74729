/- The contracts of the program's op.find, op.of and of the functions that they hand to it: what they return for any op, and any name; no condition beyond those written. -/
import Derived.Test.YtbefcdidlfkmnaaHTable
import Derived.Shelf.SlicesQ.IndexFunc
import Derived.Shelf.SlGeneric
import Derived.Laws.Tables
import Derived.Laws.CopyOwn
import Derived.Ground.SlgfProg
namespace Go.Proofs
open Go.RowKit Go.Shelf
shelf_lay_g SlLaysH0.n6 Slgf 6 at Try 41 as Try.rowsIndexA
end Go.Proofs
namespace Go.Proofs.Ytbefcdidlfkmnaa.Print
open Go.RowKit Go.Shelf Go.Proofs.YtbefcdidlfkmnaaW.PrintWords Go.Proofs.YtbefcdidlfkmnaaW.PrintLast
set_option linter.unusedVariables false

/-- A row as a value. -/
def rowAgg (n i : Nat) : Value := .agg #[.int .i64 (opI i), .string (nameI i), .int .i64 (firstI i), .int .i64 (lastI i), .int .i64 (leastI i), .int .i64 (mostI i), mayI n i, .int .i64 (noneI i)]

set_option maxHeartbeats 2000000 in
theorem of1_calls (Bo : Nat) (o : Int) (n i : Nat) (W : World) (h : Boxed W Bo 22 (.int .i64 o)) :
    Calls Try.prog 36 #[.agg #[.int .i64 (opI i), .string (nameI i), .int .i64 (firstI i), .int .i64 (lastI i), .int .i64 (leastI i), .int .i64 (mostI i), mayI n i, .int .i64 (noneI i)], .pointer (some ⟨Bo, 0, none⟩)] W fun e w' => e = .returned (.bool (opI i == o)) ∧ Below W.heap.size W w' := by
  have hc := (h.alloc (.cells #[.int .i64 (opI i), .string (nameI i), .int .i64 (firstI i), .int .i64 (lastI i), .int .i64 (leastI i), .int .i64 (mostI i), mayI n i, .int .i64 (noneI i)] 49)).cell
  generalize mayI n i = m at hc ⊢
  go_enter Try.func36, Try.ntmps36
  go_wp2
  go_ret
  exact ⟨rfl, below_alloc (Below.refl _ _) _⟩
set_option maxHeartbeats 2000000 in
theorem name1_calls (Bo : Nat) (s : ByteArray) (n i : Nat) (W : World) (h : Boxed W Bo 9 (.string s)) :
    Calls Try.prog 34 #[.agg #[.int .i64 (opI i), .string (nameI i), .int .i64 (firstI i), .int .i64 (lastI i), .int .i64 (leastI i), .int .i64 (mostI i), mayI n i, .int .i64 (noneI i)], .pointer (some ⟨Bo, 0, none⟩)] W fun e w' => e = .returned (.bool ((nameI i).toList == s.toList)) ∧ Below W.heap.size W w' := by
  have hc := (h.alloc (.cells #[.int .i64 (opI i), .string (nameI i), .int .i64 (firstI i), .int .i64 (lastI i), .int .i64 (leastI i), .int .i64 (mostI i), mayI n i, .int .i64 (noneI i)] 49)).cell
  generalize mayI n i = m at hc ⊢
  go_enter Try.func34, Try.ntmps34
  go_wp2
  go_ret
  exact ⟨rfl, below_alloc (Below.refl _ _) _⟩

theorem rowSize : (Try.prog.info? 49).map (·.size) = some 8 := by kernel_rfl
theorem mayI_one (n i : Nat) : (mayI n i).oneCell' = true := by unfold mayI; split <;> rfl
def zeroCells : Array Value := #[.int .i64 0, .string ⟨#[]⟩, .int .i64 0, .int .i64 0, .int .i64 0, .int .i64 0, .nilFunc, .int .i64 0]
theorem zero_one : zeroCells.all (·.oneCell') = true := by simp [zeroCells, Value.oneCell']
theorem agg_one (n i : Nat) : (#[.int .i64 (opI i), .string (nameI i), .int .i64 (firstI i), .int .i64 (lastI i), .int .i64 (leastI i), .int .i64 (mostI i), mayI n i, .int .i64 (noneI i)] : Array Value).all (·.oneCell') = true := by
  have := mayI_one n i
  simp only [Value.oneCell'] at this
  simp [Value.oneCell', this]

/-- The first row that will do, of those from the i-th on. -/
def firstOf (p : Nat → Bool) : Option Nat := (List.range 20).find? p
/-- What find and of hand back. -/
def rowOut (n : Nat) : Option Nat → Value
  | some i => .tuple #[rowAgg n i, .bool true]
  | none => .tuple #[rowZero, .bool false]
/-- The boxes of the functions in the table. -/
def MayBoxes (n : Nat) (W : World) : Prop := Boxed W n 3 (.int .i64 16) ∧ Boxed W (n + 1) 64 (.func (.func 49) #[] #[]) ∧ Boxed W (n + 2) 64 (.func (.func 50) #[] #[]) ∧ Boxed W (n + 3) 3 (.int .i64 3)
theorem MayBoxes.below {n : Nat} {W W' : World} (h : MayBoxes n W) (hb : Below W.heap.size W W') : MayBoxes n W' :=
  ⟨(hb.block _ h.1.lt).trans h.1, (hb.block _ h.2.1.lt).trans h.2.1, (hb.block _ h.2.2.1.lt).trans h.2.2.1, (hb.block _ h.2.2.2.lt).trans h.2.2.2⟩
theorem MayBoxes.setRow {n : Nat} {W : World} (h : MayBoxes n W) (g : Nat) (hg : g < n) (cs : Array Value) : MayBoxes n (W.setRow g cs) :=
  ⟨(setRow_other W g _ cs (by omega)).trans h.1, (setRow_other W g _ cs (by omega)).trans h.2.1, (setRow_other W g _ cs (by omega)).trans h.2.2.1, (setRow_other W g _ cs (by omega)).trans h.2.2.2⟩
theorem tableW_boxes (w : World) : MayBoxes w.heap.size (tableW w) := by
  have b0 := Boxed.new w 3 (.int .i64 16)
  have b1 := Boxed.new (w.alloc (.cells #[.int .i64 16] 3)) 64 (.func (.func 49) #[] #[])
  have b2 := Boxed.new ((w.alloc (.cells #[.int .i64 16] 3)).alloc (.cells #[.func (.func 49) #[] #[]] 64)) 64 (.func (.func 50) #[] #[])
  have b3 := Boxed.new (((w.alloc (.cells #[.int .i64 16] 3)).alloc (.cells #[.func (.func 49) #[] #[]] 64)).alloc (.cells #[.func (.func 50) #[] #[]] 64)) 3 (.int .i64 3)
  simp only [World.size_alloc] at b1 b2 b3
  exact ⟨(((b0.alloc _).alloc _).alloc _).alloc _, ((b1.alloc _).alloc _).alloc _, (b2.alloc _).alloc _, b3.alloc _⟩
theorem tableW_size (w : World) : (tableW w).heap.size = w.heap.size + 5 := by simp [tableW]
theorem tableW_below (w : World) : Below w.heap.size w (tableW w) := by
  unfold tableW
  repeat (first | exact Below.refl _ _ | apply below_alloc)
theorem tableW_cell (w : World) (k : Nat) : (tableW w).cell? ⟨w.heap.size + 1 + 1 + 1 + 1, k, none⟩ = (tableCells w.heap.size)[k]? := by
  have hn := World.alloc_heap_new ((((w.alloc (.cells #[.int .i64 16] 3)).alloc (.cells #[.func (.func 49) #[] #[]] 64)).alloc (.cells #[.func (.func 50) #[] #[]] 64)).alloc (.cells #[.int .i64 3] 3)) (.cells (tableCells w.heap.size) 49)
  simp only [World.size_alloc] at hn
  unfold World.cell? tableW
  rw [hn]; rfl

theorem idx_from (p : Nat → Bool) (d : Nat) : ∀ (m i : Nat), Lib.idxByFrom (fun _ y => p y) d (List.range' i m) i = match (List.range' i m).find? p with | some j => (j : Int) | none => -1
  | 0, i => rfl
  | m + 1, i => by
    rw [List.range'_succ, Lib.idxByFrom, List.find?_cons]
    cases h : p i with
    | true => simp
    | false => simp only [Bool.false_eq_true, if_false]; exact idx_from p d m (i + 1)
theorem idx_of (p : Nat → Bool) : Lib.idxBy (fun _ y => p y) ((List.range 20).take 20) default = match firstOf p with | some i => (i : Int) | none => -1 := by
  have h := idx_from p default 20 0
  unfold firstOf Lib.idxBy
  rw [List.take_of_length_le (by simp), List.range_eq_range']
  exact h
theorem firstOf_some {p : Nat → Bool} {i : Nat} (h : firstOf p = some i) : i < 20 ∧ p i = true :=
  ⟨by simpa using List.mem_of_find?_eq_some h, List.find?_some h⟩

set_option maxRecDepth 100000 in
set_option maxHeartbeats 8000000 in
theorem find_calls (g : Nat) (lb : Array Value) (p : Nat → Bool) (w : World) (eg : ∀ args w, (callFunc g args).run Try.prog w = .ok (.enter g args) w)
    (hp : ∀ n i W, Below w.heap.size w W → Calls Try.prog g (#[rowAgg n i] ++ lb) W fun e w' => e = .returned (.bool (p i)) ∧ Below W.heap.size W w') :
    Calls Try.prog 33 #[.func (.func g) #[] lb] w fun e w' => ∃ n, e = .returned (rowOut n (firstOf p)) ∧ w.heap.size ≤ n ∧ MayBoxes n w' ∧ Below w.heap.size w w' := by
  have hz0 : Below w.heap.size w (w.alloc (.cells rowZero.cells 49)) := below_alloc (Below.refl _ _) _
  have hT := (hz0.trans ((tableW_below _).mono hz0.size))
  have hc0 := tableW_cell (w.alloc (.cells rowZero.cells 49))
  have hs0 := tableW_size (w.alloc (.cells rowZero.cells 49))
  have hm0 := tableW_boxes (w.alloc (.cells rowZero.cells 49))
  have hr0 : (tableW (w.alloc (.cells rowZero.cells 49))).heap[w.heap.size]? = some (.cells rowZero.cells 49) := ((tableW_below _).block _ (by simp)).trans (World.alloc_heap_new w _)
  simp only [World.size_alloc] at hc0 hs0 hm0
  have hI : Calls Try.prog 41 #[.slice (some ⟨w.heap.size + 1 + 1 + 1 + 1 + 1, 0, none⟩) 20 20, .func (.func g) #[] lb] (tableW (w.alloc (.cells rowZero.cells 49))) fun e w' => e = .returned (.int .i64 (Lib.idxBy (fun _ y => p y) ((List.range 20).take 20) default)) ∧ Below (tableW (w.alloc (.cells rowZero.cells 49))).heap.size (tableW (w.alloc (.cells rowZero.cells 49))) w' :=
    AnyQ.slices_IndexFunc Try.rowsIndexA 8 Try.isAgg49 Try.sizeOf49 (fun i => rowCells (w.heap.size + 1) i) (fun _ => rfl) p g lb eg _ 0 20 20 (List.range 20) _ (fun W x hb => (hp _ x W (hT.trans (hb.mono hT.size))).mono fun e w' ⟨he, hb'⟩ => ⟨he, hb.trans (hb'.mono hb.size)⟩) (by simp) (by omega) (by rw [hs0]; omega) (fun j hj i v hv => by
      have hj' : j < 20 := by simpa using hj
      rw [Nat.zero_add, hc0]
      refine tableCells_get _ j hj' i v ?_
      simpa [hj'] using hv)
  rw [idx_of] at hI
  have hfr : ∀ W, Below (tableW (w.alloc (.cells rowZero.cells 49))).heap.size (tableW (w.alloc (.cells rowZero.cells 49))) W → W.heap[w.heap.size]? = some (.cells rowZero.cells 49) := fun W hb => (hb.block _ (by rw [hs0]; omega)).trans hr0
  have HI := Aside0.mk hI
  clear hI
  go_enter Try.func33, Try.ntmps33
  cases hf : firstOf p with
  | none =>
    rw [hf] at HI
    go_wp2_with (first
      | (go_at_call 40; refine (table_calls _).mono ?_; rintro e w' ⟨rfl, rfl⟩)
      | (go_at_call 41; refine HI.out.mono ?_; rintro e w4 ⟨rfl, hb4⟩; have hblk := hfr w4 hb4; have HB4 := Aside0.mk hb4; clear hb4)
      | ((with_reducible refine gate_store (t := 49) (p := 2) rfl ?_); refine wpList_store_row rfl 49 _ _ rfl w.heap.size zeroCells rfl rfl 49 rowZero.cells hblk rowSize rfl zero_one ?_))
    refine bodyPost_ret (results_ct rfl _ _ w.heap.size 49 zeroCells (0, 0) _ rfl (setRow_heap _ _ _ _ _ _ hblk) Try.underlying49 rfl (by kernel_rfl)) rfl ?_
    exact ⟨w.heap.size + 1, rfl, by omega, (hm0.below HB4.out).setRow _ (by omega) _, below_setRow (hT.trans (HB4.out.mono hT.size)) (Nat.le_refl _) _⟩
  | some i =>
    rw [hf] at HI
    obtain ⟨hi, _⟩ := firstOf_some hf
    have hi0 : (0 : Int) ≤ (i : Int) := by omega
    have hi1 : (i : Int) < 20 := by omega
    have hneg : decide ((i : Int) < 0) = false := by simp
    have hcell : ∀ W, Below (tableW (w.alloc (.cells rowZero.cells 49))).heap.size (tableW (w.alloc (.cells rowZero.cells 49))) W → ∀ j v, (rowCells (w.heap.size + 1) i)[j]? = some v → W.cell? ⟨w.heap.size + 1 + 1 + 1 + 1 + 1, i * 8 + j, none⟩ = some v := fun W hb j v hv => by
      rw [hb.cell (p := ⟨w.heap.size + 1 + 1 + 1 + 1 + 1, i * 8 + j, none⟩) (by rw [hs0]; show w.heap.size + 1 + 1 + 1 + 1 + 1 < _; omega), hc0]
      exact tableCells_get _ i hi j v hv
    go_wp2_with (first
      | (go_at_call 40; refine (table_calls _).mono ?_; rintro e w' ⟨rfl, rfl⟩)
      | (go_at_call 41; refine HI.out.mono ?_; rintro e w4 ⟨rfl, hb4⟩; have hblk := hfr w4 hb4; have k0 : w4.cell? ⟨w.heap.size + 1 + 1 + 1 + 1 + 1, i * 8, none⟩ = some (.int .i64 (opI i)) := hcell w4 hb4 0 _ rfl; have k1 := hcell w4 hb4 1 _ rfl; have k2 := hcell w4 hb4 2 _ rfl; have k3 := hcell w4 hb4 3 _ rfl; have k4 := hcell w4 hb4 4 _ rfl; have k5 := hcell w4 hb4 5 _ rfl; have k6 := hcell w4 hb4 6 _ rfl; have k7 := hcell w4 hb4 7 _ rfl; have HB4 := Aside0.mk hb4; clear hb4)
      | ((with_reducible refine gate_store (t := 49) (p := 2) rfl ?_); refine wpList_store_row rfl 49 _ _ rfl w.heap.size _ rfl rfl 49 rowZero.cells hblk rowSize rfl (agg_one (w.heap.size + 1) i) ?_))
    refine bodyPost_ret (results_ct rfl _ _ w.heap.size 49 _ (0, 0) _ rfl (setRow_heap _ _ _ _ _ _ hblk) Try.underlying49 rfl rowSize) rfl ?_
    exact ⟨w.heap.size + 1, rfl, by omega, (hm0.below HB4.out).setRow _ (by omega) _, below_setRow (hT.trans (HB4.out.mono hT.size)) (Nat.le_refl _) _⟩
end Go.Proofs.Ytbefcdidlfkmnaa.Print
