/- The contracts of the program's op.of, op.Name, op.Of, op.In, op.Arity, in the printer's form; no condition beyond those written. -/
import Derived.Test.YtbefcdidlfkmnaaHFind
namespace Go.Proofs.Ytbefcdidlfkmnaa.Print
open Go.RowKit Go.Shelf Go.Proofs.YtbefcdidlfkmnaaW.PrintWords Go.Proofs.YtbefcdidlfkmnaaW.PrintLast
set_option linter.unusedVariables false

/-- The row of an op. -/
def rowOf (o : Int) : Option Nat := firstOf fun i => opI i == o
/-- The row of a name. -/
def rowNamed (s : ByteArray) : Option Nat := firstOf fun i => (nameI i).toList == s.toList

set_option maxRecDepth 100000 in
set_option maxHeartbeats 8000000 in
theorem of_calls (o : Int) (w : World) : Calls Try.prog 24 #[.int .i64 o] w fun e w' => ∃ n, e = .returned (rowOut n (rowOf o)) ∧ w.heap.size ≤ n ∧ MayBoxes n w' ∧ Below w.heap.size w w' := by
  have hb := (Boxed.new w 22 (.int .i64 o)).alloc (.cells zeroCells 49)
  have h0 : Below w.heap.size w ((w.alloc (.cells #[.int .i64 o] 22)).alloc (.cells zeroCells 49)) := below_alloc (below_alloc (Below.refl _ _) _) _
  have hz := World.alloc_heap_new (w.alloc (.cells #[.int .i64 o] 22)) (.cells zeroCells 49)
  rw [World.size_alloc] at hz
  have hF := find_calls 36 #[.pointer (some ⟨w.heap.size, 0, none⟩)] (fun i => opI i == o) ((w.alloc (.cells #[.int .i64 o] 22)).alloc (.cells zeroCells 49)) (enters_of Try.func36 (by kernel_rfl) rfl) (fun n i W hW => of1_calls w.heap.size o n i W ((hW.block _ (by simp; omega)).trans hb))
  have HF := Aside0.mk hF
  clear hF
  go_enter Try.func24, Try.ntmps24
  unfold rowOf
  cases hf : firstOf (fun i => opI i == o) with
  | none =>
    rw [hf] at HF
    unfold rowOut rowZero at HF
    go_wp2_with (first
      | (go_at_call 33; refine HF.out.mono ?_; rintro e w4 ⟨n4, rfl, hn4, hm4, hb4⟩; have hblk := (hb4.block (w.heap.size + 1) (by simp)).trans hz; have HN4 := Aside0.mk hn4; have HM4 := Aside0.mk hm4; have HB4 := Aside0.mk hb4; clear hn4 hm4 hb4)
      | ((with_reducible refine gate_store (t := 49) (p := 2) rfl ?_); refine wpList_store_row rfl 49 _ _ rfl (w.heap.size + 1) zeroCells rfl rfl 49 zeroCells hblk rowSize rfl zero_one ?_))
    refine bodyPost_ret (results_ct rfl _ _ (w.heap.size + 1) 49 zeroCells (0, 0) _ rfl (setRow_heap _ _ _ _ _ _ hblk) Try.underlying49 rfl rowSize) rfl ?_
    have h4 := HN4.out
    simp only [World.size_alloc] at h4
    exact ⟨n4, rfl, by omega, HM4.out.setRow _ (by omega) _, below_setRow (h0.trans (HB4.out.mono h0.size)) (by omega) _⟩
  | some i =>
    rw [hf] at HF
    unfold rowOut rowAgg at HF
    go_wp2_with (first
      | (go_at_call 33; refine HF.out.mono ?_; rintro e w4 ⟨n4, rfl, hn4, hm4, hb4⟩; have hblk := (hb4.block (w.heap.size + 1) (by simp)).trans hz; have HN4 := Aside0.mk hn4; have HM4 := Aside0.mk hm4; have HB4 := Aside0.mk hb4; clear hn4 hm4 hb4)
      | ((with_reducible refine gate_store (t := 49) (p := 2) rfl ?_); refine wpList_store_row rfl 49 _ _ rfl (w.heap.size + 1) _ rfl rfl 49 zeroCells hblk rowSize rfl (agg_one n4 i) ?_))
    refine bodyPost_ret (results_ct rfl _ _ (w.heap.size + 1) 49 _ (0, 0) _ rfl (setRow_heap _ _ _ _ _ _ hblk) Try.underlying49 rfl rowSize) rfl ?_
    have h4 := HN4.out
    simp only [World.size_alloc] at h4
    exact ⟨n4, rfl, by omega, HM4.out.setRow _ (by omega) _, below_setRow (h0.trans (HB4.out.mono h0.size)) (by omega) _⟩


/-- A store of a whole row: what it leaves, said of a world that is a variable. -/
theorem store_row_any {P : Program} {ops : Array Oper} {rest : List Oper} {o : Oper} {a : Act} {w : World} {Q : Exit → Act → World → Prop} (hgd : o.guard = none) (ty : TypeId) (x y : Operand) (ho : o.op = .store ty x y)
    (g : Nat) (cells : Array Value) (hx : a.eval x = .pointer (some ⟨g, 0, none⟩)) (hy : a.eval y = .agg cells)
    (t : TypeId) (old : Array Value) (hg : w.heap[g]? = some (.cells old t (0, 0))) (hi : (P.info? ty).map (·.size) = some cells.size)
    (hold : old.size = cells.size) (h1 : cells.all (·.oneCell') = true)
    (h : ∀ W5 : World, W5.heap[g]? = some (.cells cells t (0, 0)) → (∀ k, k ≠ g → W5.heap[k]? = w.heap[k]?) → (∀ B, B ≤ g → Below B w W5) → wpList P ops Q rest (a.put o.dst undef) W5) : wpList P ops Q (o :: rest) a w :=
  wpList_store_row hgd ty x y ho g cells hx hy t old hg hi hold h1 (h _ (setRow_heap _ _ _ _ _ _ hg) (fun k hk => setRow_other _ _ _ _ hk) (fun B hB => below_setRow (Below.refl _ _) hB _))
theorem row_cell {W : World} {g : Nat} {cells : Array Value} {t : TypeId} (h : W.heap[g]? = some (.cells cells t (0, 0))) (j : Nat) (v : Value) (hv : cells[j]? = some v) : W.cell? ⟨g, j, none⟩ = some v := by
  unfold World.cell?
  rw [h]; exact hv
theorem MayBoxes.other {n g : Nat} {W W' : World} (h : MayBoxes n W) (hg : g < n) (ho : ∀ k, k ≠ g → W'.heap[k]? = W.heap[k]?) : MayBoxes n W' :=
  ⟨(ho _ (by omega)).trans h.1, (ho _ (by omega)).trans h.2.1, (ho _ (by omega)).trans h.2.2.1, (ho _ (by omega)).trans h.2.2.2⟩


/-- An op's name. -/
def nameR : Option Nat → ByteArray
  | some i => nameI i
  | none => ⟨#[]⟩
def op_Name.f (a0 : Int) : Option ByteArray := some (nameR (rowOf a0))
set_option maxRecDepth 100000 in
set_option maxHeartbeats 8000000 in
theorem op_Name.calls (a0 : Int) (r : ByteArray) (w : World) (h : op_Name.f a0 = some r) :
    Calls Try.prog 22 #[.int .i64 a0] w fun e w' => e = .returned (.string r) ∧ Below w.heap.size w w' := by
  obtain rfl := Option.some.inj h
  clear h
  go_enter Try.func22, Try.ntmps22
  cases hf : rowOf a0 with
  | none =>
    go_wp2_with (first
      | (go_at_call 24; refine (of_calls a0 _).mono ?_; rintro e w4 ⟨n4, he, hn4, hm4, hb4⟩; obtain rfl : e = .returned (.tuple #[rowZero, .bool false]) := by rw [he, hf]; rfl
         have hblk := World.alloc_heap_new w4 (.cells zeroCells 49); have HM4 := Aside0.mk hm4; have HB4 := Aside0.mk hb4; clear he hn4 hm4 hb4)
      | ((with_reducible refine gate_store (t := 49) (p := 3) rfl ?_); refine store_row_any rfl 49 _ _ rfl w4.heap.size zeroCells rfl rfl 49 zeroCells hblk rowSize rfl zero_one ?_; intro W5 hblk5 hoth hbel; have q0 : W5.cell? ⟨w4.heap.size, 0, none⟩ = some (.int .i64 0) := row_cell hblk5 0 _ rfl; have q1 : W5.cell? ⟨w4.heap.size, 1, none⟩ = some (.string ⟨#[]⟩) := row_cell hblk5 1 _ rfl; have q2 : W5.cell? ⟨w4.heap.size, 2, none⟩ = some (.int .i64 0) := row_cell hblk5 2 _ rfl; have q3 : W5.cell? ⟨w4.heap.size, 3, none⟩ = some (.int .i64 0) := row_cell hblk5 3 _ rfl; have q4 : W5.cell? ⟨w4.heap.size, 4, none⟩ = some (.int .i64 0) := row_cell hblk5 4 _ rfl; have q5 : W5.cell? ⟨w4.heap.size, 5, none⟩ = some (.int .i64 0) := row_cell hblk5 5 _ rfl; have q6 : W5.cell? ⟨w4.heap.size, 6, none⟩ = some (.nilFunc) := row_cell hblk5 6 _ rfl; have q7 : W5.cell? ⟨w4.heap.size, 7, none⟩ = some (.int .i64 0) := row_cell hblk5 7 _ rfl; have HB5 := Aside0.mk ((below_alloc HB4.out (.cells zeroCells 49)).trans (hbel _ HB4.out.size)); clear hbel hoth))
    go_ret
    exact ⟨rfl, HB5.out⟩
  | some i =>
    go_wp2_with (first
      | (go_at_call 24; refine (of_calls a0 _).mono ?_; rintro e w4 ⟨n4, he, hn4, hm4, hb4⟩; obtain rfl : e = .returned (.tuple #[.agg #[.int .i64 (opI i), .string (nameI i), .int .i64 (firstI i), .int .i64 (lastI i), .int .i64 (leastI i), .int .i64 (mostI i), mayI n4 i, .int .i64 (noneI i)], .bool true]) := by rw [he, hf]; rfl
         have hblk := World.alloc_heap_new w4 (.cells zeroCells 49); have HM4 := Aside0.mk hm4; have HB4 := Aside0.mk hb4; clear he hn4 hm4 hb4)
      | ((with_reducible refine gate_store (t := 49) (p := 3) rfl ?_); refine store_row_any rfl 49 _ _ rfl w4.heap.size _ rfl rfl 49 zeroCells hblk rowSize rfl (agg_one n4 i) ?_; intro W5 hblk5 hoth hbel; have q0 : W5.cell? ⟨w4.heap.size, 0, none⟩ = some (.int .i64 (opI i)) := row_cell hblk5 0 _ rfl; have q1 : W5.cell? ⟨w4.heap.size, 1, none⟩ = some (.string (nameI i)) := row_cell hblk5 1 _ rfl; have q2 : W5.cell? ⟨w4.heap.size, 2, none⟩ = some (.int .i64 (firstI i)) := row_cell hblk5 2 _ rfl; have q3 : W5.cell? ⟨w4.heap.size, 3, none⟩ = some (.int .i64 (lastI i)) := row_cell hblk5 3 _ rfl; have q4 : W5.cell? ⟨w4.heap.size, 4, none⟩ = some (.int .i64 (leastI i)) := row_cell hblk5 4 _ rfl; have q5 : W5.cell? ⟨w4.heap.size, 5, none⟩ = some (.int .i64 (mostI i)) := row_cell hblk5 5 _ rfl; have q6 : W5.cell? ⟨w4.heap.size, 6, none⟩ = some (mayI n4 i) := row_cell hblk5 6 _ rfl; have q7 : W5.cell? ⟨w4.heap.size, 7, none⟩ = some (.int .i64 (noneI i)) := row_cell hblk5 7 _ rfl; have HB5 := Aside0.mk ((below_alloc HB4.out (.cells zeroCells 49)).trans (hbel _ HB4.out.size)); clear hbel hoth))
    go_ret
    exact ⟨rfl, HB5.out⟩

/-- How many arguments. -/
def arityR : Option Nat → Int × Int
  | some i => (leastI i, mostI i)
  | none => (0, 0)
def op_Arity.f (a0 : Int) : Option (Int × Int) := some ((arityR (rowOf a0)).1, (arityR (rowOf a0)).2)
set_option maxRecDepth 100000 in
set_option maxHeartbeats 8000000 in
theorem op_Arity.calls (a0 : Int) (r1 r2 : Int) (w : World) (h : op_Arity.f a0 = some (r1, r2)) :
    Calls Try.prog 17 #[.int .i64 a0] w fun e w' => e = .returned (.tuple #[.int .i64 r1, .int .i64 r2]) ∧ Below w.heap.size w w' := by
  obtain ⟨rfl, rfl⟩ := Prod.mk.inj (Option.some.inj h)
  clear h
  go_enter Try.func17, Try.ntmps17
  cases hf : rowOf a0 with
  | none =>
    go_wp2_with (first
      | (go_at_call 24; refine (of_calls a0 _).mono ?_; rintro e w4 ⟨n4, he, hn4, hm4, hb4⟩; obtain rfl : e = .returned (.tuple #[rowZero, .bool false]) := by rw [he, hf]; rfl
         have hblk := World.alloc_heap_new w4 (.cells zeroCells 49); have HM4 := Aside0.mk hm4; have HB4 := Aside0.mk hb4; clear he hn4 hm4 hb4)
      | ((with_reducible refine gate_store (t := 49) (p := 4) rfl ?_); refine store_row_any rfl 49 _ _ rfl w4.heap.size zeroCells rfl rfl 49 zeroCells hblk rowSize rfl zero_one ?_; intro W5 hblk5 hoth hbel; have q0 : W5.cell? ⟨w4.heap.size, 0, none⟩ = some (.int .i64 0) := row_cell hblk5 0 _ rfl; have q1 : W5.cell? ⟨w4.heap.size, 1, none⟩ = some (.string ⟨#[]⟩) := row_cell hblk5 1 _ rfl; have q2 : W5.cell? ⟨w4.heap.size, 2, none⟩ = some (.int .i64 0) := row_cell hblk5 2 _ rfl; have q3 : W5.cell? ⟨w4.heap.size, 3, none⟩ = some (.int .i64 0) := row_cell hblk5 3 _ rfl; have q4 : W5.cell? ⟨w4.heap.size, 4, none⟩ = some (.int .i64 0) := row_cell hblk5 4 _ rfl; have q5 : W5.cell? ⟨w4.heap.size, 5, none⟩ = some (.int .i64 0) := row_cell hblk5 5 _ rfl; have q6 : W5.cell? ⟨w4.heap.size, 6, none⟩ = some (.nilFunc) := row_cell hblk5 6 _ rfl; have q7 : W5.cell? ⟨w4.heap.size, 7, none⟩ = some (.int .i64 0) := row_cell hblk5 7 _ rfl; have HB5 := Aside0.mk ((below_alloc HB4.out (.cells zeroCells 49)).trans (hbel _ HB4.out.size)); clear hbel hoth))
    try (go_quiet (fail); go_wp2)
    refine bodyPost_ret (results_tmp2 rfl _ _ _) rfl ?_
    exact ⟨rfl, by first | exact HB5.out | exact pw_below_drewN HB5.out _⟩
  | some i =>
    go_wp2_with (first
      | (go_at_call 24; refine (of_calls a0 _).mono ?_; rintro e w4 ⟨n4, he, hn4, hm4, hb4⟩; obtain rfl : e = .returned (.tuple #[.agg #[.int .i64 (opI i), .string (nameI i), .int .i64 (firstI i), .int .i64 (lastI i), .int .i64 (leastI i), .int .i64 (mostI i), mayI n4 i, .int .i64 (noneI i)], .bool true]) := by rw [he, hf]; rfl
         have hblk := World.alloc_heap_new w4 (.cells zeroCells 49); have HM4 := Aside0.mk hm4; have HB4 := Aside0.mk hb4; clear he hn4 hm4 hb4)
      | ((with_reducible refine gate_store (t := 49) (p := 4) rfl ?_); refine store_row_any rfl 49 _ _ rfl w4.heap.size _ rfl rfl 49 zeroCells hblk rowSize rfl (agg_one n4 i) ?_; intro W5 hblk5 hoth hbel; have q0 : W5.cell? ⟨w4.heap.size, 0, none⟩ = some (.int .i64 (opI i)) := row_cell hblk5 0 _ rfl; have q1 : W5.cell? ⟨w4.heap.size, 1, none⟩ = some (.string (nameI i)) := row_cell hblk5 1 _ rfl; have q2 : W5.cell? ⟨w4.heap.size, 2, none⟩ = some (.int .i64 (firstI i)) := row_cell hblk5 2 _ rfl; have q3 : W5.cell? ⟨w4.heap.size, 3, none⟩ = some (.int .i64 (lastI i)) := row_cell hblk5 3 _ rfl; have q4 : W5.cell? ⟨w4.heap.size, 4, none⟩ = some (.int .i64 (leastI i)) := row_cell hblk5 4 _ rfl; have q5 : W5.cell? ⟨w4.heap.size, 5, none⟩ = some (.int .i64 (mostI i)) := row_cell hblk5 5 _ rfl; have q6 : W5.cell? ⟨w4.heap.size, 6, none⟩ = some (mayI n4 i) := row_cell hblk5 6 _ rfl; have q7 : W5.cell? ⟨w4.heap.size, 7, none⟩ = some (.int .i64 (noneI i)) := row_cell hblk5 7 _ rfl; have HB5 := Aside0.mk ((below_alloc HB4.out (.cells zeroCells 49)).trans (hbel _ HB4.out.size)); clear hbel hoth))
    try (go_quiet (fail); go_wp2)
    refine bodyPost_ret (results_tmp2 rfl _ _ _) rfl ?_
    exact ⟨rfl, by first | exact HB5.out | exact pw_below_drewN HB5.out _⟩

set_option maxRecDepth 100000 in
set_option maxHeartbeats 8000000 in
theorem rowin_calls (n4 i : Nat) (v : Int) (w : World) : Calls Try.prog 26 #[.agg #[.int .i64 (opI i), .string (nameI i), .int .i64 (firstI i), .int .i64 (lastI i), .int .i64 (leastI i), .int .i64 (mostI i), mayI n4 i, .int .i64 (noneI i)], .int .i64 v] w fun e w' => e = .returned (.bool (decide (firstI i ≤ v) && decide (v ≤ lastI i))) ∧ Below w.heap.size w w' := by
  have hz := World.alloc_heap_new w (.cells #[.int .i64 (opI i), .string (nameI i), .int .i64 (firstI i), .int .i64 (lastI i), .int .i64 (leastI i), .int .i64 (mostI i), mayI n4 i, .int .i64 (noneI i)] 49)
  have q2 : (w.alloc (.cells #[.int .i64 (opI i), .string (nameI i), .int .i64 (firstI i), .int .i64 (lastI i), .int .i64 (leastI i), .int .i64 (mostI i), mayI n4 i, .int .i64 (noneI i)] 49)).cell? ⟨w.heap.size, 2, none⟩ = some (.int .i64 (firstI i)) := row_cell hz 2 _ rfl
  have q3 : (w.alloc (.cells #[.int .i64 (opI i), .string (nameI i), .int .i64 (firstI i), .int .i64 (lastI i), .int .i64 (leastI i), .int .i64 (mostI i), mayI n4 i, .int .i64 (noneI i)] 49)).cell? ⟨w.heap.size, 3, none⟩ = some (.int .i64 (lastI i)) := row_cell hz 3 _ rfl
  clear hz
  generalize mayI n4 i = m at q2 q3 ⊢
  by_cases c1 : firstI i ≤ v
  · have d1 : decide (firstI i ≤ v) = true := decide_eq_true c1
    by_cases c2 : v ≤ lastI i
    · have d2 : decide (v ≤ lastI i) = true := decide_eq_true c2
      go_enter Try.func26, Try.ntmps26
      go_wp2
      go_ret
      exact ⟨by first | rfl | (rw [d1, d2]; rfl), below_alloc (Below.refl _ _) _⟩
    · have d2 : decide (v ≤ lastI i) = false := decide_eq_false c2
      go_enter Try.func26, Try.ntmps26
      go_wp2
      go_ret
      exact ⟨by first | rfl | (rw [d1, d2]; rfl), below_alloc (Below.refl _ _) _⟩
  · have d1 : decide (firstI i ≤ v) = false := decide_eq_false c1
    go_enter Try.func26, Try.ntmps26
    go_wp2
    go_ret
    exact ⟨by first | rfl | (rw [d1]; rfl), below_alloc (Below.refl _ _) _⟩

/-- Is an op in a version? -/
def inR (v : Int) : Option Nat → Bool
  | some i => decide (firstI i ≤ v) && decide (v ≤ lastI i)
  | none => false
def op_In.f (a0 a1 : Int) : Option Bool := some (inR a1 (rowOf a0))
set_option maxRecDepth 100000 in
set_option maxHeartbeats 8000000 in
theorem op_In.calls (a0 a1 : Int) (r : Bool) (w : World) (h : op_In.f a0 a1 = some r) :
    Calls Try.prog 16 #[.int .i64 a0, .int .i64 a1] w fun e w' => e = .returned (.bool r) ∧ Below w.heap.size w w' := by
  obtain rfl := Option.some.inj h
  clear h
  go_enter Try.func16, Try.ntmps16
  cases hf : rowOf a0 with
  | none =>
    go_wp2_with (first
      | (go_at_call 24; refine (of_calls a0 _).mono ?_; rintro e w4 ⟨n4, he, hn4, hm4, hb4⟩; obtain rfl : e = .returned (.tuple #[rowZero, .bool false]) := by rw [he, hf]; rfl
         have hblk := World.alloc_heap_new w4 (.cells zeroCells 49); have HM4 := Aside0.mk hm4; have HB4 := Aside0.mk hb4; clear he hn4 hm4 hb4)
      | ((with_reducible refine gate_store (t := 49) (p := 5) rfl ?_); refine store_row_any rfl 49 _ _ rfl w4.heap.size zeroCells rfl rfl 49 zeroCells hblk rowSize rfl zero_one ?_; intro W5 hblk5 hoth hbel; have q0 : W5.cell? ⟨w4.heap.size, 0, none⟩ = some (.int .i64 0) := row_cell hblk5 0 _ rfl; have q1 : W5.cell? ⟨w4.heap.size, 1, none⟩ = some (.string ⟨#[]⟩) := row_cell hblk5 1 _ rfl; have q2 : W5.cell? ⟨w4.heap.size, 2, none⟩ = some (.int .i64 0) := row_cell hblk5 2 _ rfl; have q3 : W5.cell? ⟨w4.heap.size, 3, none⟩ = some (.int .i64 0) := row_cell hblk5 3 _ rfl; have q4 : W5.cell? ⟨w4.heap.size, 4, none⟩ = some (.int .i64 0) := row_cell hblk5 4 _ rfl; have q5 : W5.cell? ⟨w4.heap.size, 5, none⟩ = some (.int .i64 0) := row_cell hblk5 5 _ rfl; have q6 : W5.cell? ⟨w4.heap.size, 6, none⟩ = some (.nilFunc) := row_cell hblk5 6 _ rfl; have q7 : W5.cell? ⟨w4.heap.size, 7, none⟩ = some (.int .i64 0) := row_cell hblk5 7 _ rfl; have HB5 := Aside0.mk ((below_alloc HB4.out (.cells zeroCells 49)).trans (hbel _ HB4.out.size)); clear hbel hoth))
    go_ret
    exact ⟨rfl, HB5.out⟩
  | some i =>
    go_wp2_with (first
      | (go_at_call 24; refine (of_calls a0 _).mono ?_; rintro e w4 ⟨n4, he, hn4, hm4, hb4⟩; obtain rfl : e = .returned (.tuple #[.agg #[.int .i64 (opI i), .string (nameI i), .int .i64 (firstI i), .int .i64 (lastI i), .int .i64 (leastI i), .int .i64 (mostI i), mayI n4 i, .int .i64 (noneI i)], .bool true]) := by rw [he, hf]; rfl
         have hblk := World.alloc_heap_new w4 (.cells zeroCells 49); have HM4 := Aside0.mk hm4; have HB4 := Aside0.mk hb4; clear he hn4 hm4 hb4)
      | ((with_reducible refine gate_store (t := 49) (p := 5) rfl ?_); refine store_row_any rfl 49 _ _ rfl w4.heap.size _ rfl rfl 49 zeroCells hblk rowSize rfl (agg_one n4 i) ?_; intro W5 hblk5 hoth hbel; have q0 : W5.cell? ⟨w4.heap.size, 0, none⟩ = some (.int .i64 (opI i)) := row_cell hblk5 0 _ rfl; have q1 : W5.cell? ⟨w4.heap.size, 1, none⟩ = some (.string (nameI i)) := row_cell hblk5 1 _ rfl; have q2 : W5.cell? ⟨w4.heap.size, 2, none⟩ = some (.int .i64 (firstI i)) := row_cell hblk5 2 _ rfl; have q3 : W5.cell? ⟨w4.heap.size, 3, none⟩ = some (.int .i64 (lastI i)) := row_cell hblk5 3 _ rfl; have q4 : W5.cell? ⟨w4.heap.size, 4, none⟩ = some (.int .i64 (leastI i)) := row_cell hblk5 4 _ rfl; have q5 : W5.cell? ⟨w4.heap.size, 5, none⟩ = some (.int .i64 (mostI i)) := row_cell hblk5 5 _ rfl; have q6 : W5.cell? ⟨w4.heap.size, 6, none⟩ = some (mayI n4 i) := row_cell hblk5 6 _ rfl; have q7 : W5.cell? ⟨w4.heap.size, 7, none⟩ = some (.int .i64 (noneI i)) := row_cell hblk5 7 _ rfl; have HB5 := Aside0.mk ((below_alloc HB4.out (.cells zeroCells 49)).trans (hbel _ HB4.out.size)); clear hbel hoth)
      | (go_at_call 26; refine (rowin_calls n4 i a1 _).mono ?_; rintro e w6 ⟨rfl, hb6⟩; have HB6 := Aside0.mk (HB5.out.trans (hb6.mono HB5.out.size)); clear hb6))
    go_ret
    exact ⟨rfl, (by first | exact HB6.out | exact HB5.out)⟩

/-- The op of a name. -/
def ofR : Option Nat → Int × Int
  | some i => (opI i, 0)
  | none => (0, 22)
def op_Of.f (a0 : ByteArray) : Option (Int × Int) := some ((ofR (rowNamed a0)).1, (ofR (rowNamed a0)).2)
set_option maxRecDepth 100000 in
set_option maxHeartbeats 8000000 in
theorem op_Of.calls (a0 : ByteArray) (r1 r2 : Int) (w : World) (h : op_Of.f a0 = some (r1, r2)) :
    Calls Try.prog 20 #[.string a0] w fun e w' => e = .returned (.tuple #[.int .i64 r1, .int .i64 r2]) ∧ Below w.heap.size w w' := by
  obtain ⟨rfl, rfl⟩ := Prod.mk.inj (Option.some.inj h)
  clear h
  have hb0 := Boxed.new w 9 (.string a0)
  have HF := Aside0.mk (find_calls 34 #[.pointer (some ⟨w.heap.size, 0, none⟩)] (fun i => (nameI i).toList == a0.toList) (w.alloc (.cells #[.string a0] 9)) (enters_of Try.func34 (by kernel_rfl) rfl) (fun n i W hW => name1_calls w.heap.size a0 n i W ((hW.block _ (by simp)).trans hb0)))
  have h0 : Below w.heap.size w (w.alloc (.cells #[.string a0] 9)) := below_alloc (Below.refl _ _) _
  have H0 := Aside0.mk h0
  clear hb0 h0
  unfold rowNamed
  go_enter Try.func20, Try.ntmps20
  cases hf : firstOf (fun i => (nameI i).toList == a0.toList) with
  | none =>
    go_wp2_with (first
      | (go_at_call 33; refine (HF.out).mono ?_; rintro e w4 ⟨n4, he, hn4, hm4, hb4⟩; obtain rfl : e = .returned (.tuple #[rowZero, .bool false]) := by rw [he, hf]; rfl
         have hblk := World.alloc_heap_new w4 (.cells zeroCells 49); have HM4 := Aside0.mk hm4; have HB4 := Aside0.mk (H0.out.trans (hb4.mono H0.out.size)); clear he hn4 hm4 hb4)
      | ((with_reducible refine gate_store (t := 49) (p := 4) rfl ?_); refine store_row_any rfl 49 _ _ rfl w4.heap.size zeroCells rfl rfl 49 zeroCells hblk rowSize rfl zero_one ?_; intro W5 hblk5 hoth hbel; have q0 : W5.cell? ⟨w4.heap.size, 0, none⟩ = some (.int .i64 0) := row_cell hblk5 0 _ rfl; have q1 : W5.cell? ⟨w4.heap.size, 1, none⟩ = some (.string ⟨#[]⟩) := row_cell hblk5 1 _ rfl; have q2 : W5.cell? ⟨w4.heap.size, 2, none⟩ = some (.int .i64 0) := row_cell hblk5 2 _ rfl; have q3 : W5.cell? ⟨w4.heap.size, 3, none⟩ = some (.int .i64 0) := row_cell hblk5 3 _ rfl; have q4 : W5.cell? ⟨w4.heap.size, 4, none⟩ = some (.int .i64 0) := row_cell hblk5 4 _ rfl; have q5 : W5.cell? ⟨w4.heap.size, 5, none⟩ = some (.int .i64 0) := row_cell hblk5 5 _ rfl; have q6 : W5.cell? ⟨w4.heap.size, 6, none⟩ = some (.nilFunc) := row_cell hblk5 6 _ rfl; have q7 : W5.cell? ⟨w4.heap.size, 7, none⟩ = some (.int .i64 0) := row_cell hblk5 7 _ rfl; have HB5 := Aside0.mk ((below_alloc HB4.out (.cells zeroCells 49)).trans (hbel _ HB4.out.size)); clear hbel hoth))
    try (go_quiet (fail); go_wp2)
    refine bodyPost_ret (results_tmp2 rfl _ _ _) rfl ?_
    exact ⟨rfl, by first | exact HB5.out | exact pw_below_drewN HB5.out _⟩
  | some i =>
    go_wp2_with (first
      | (go_at_call 33; refine (HF.out).mono ?_; rintro e w4 ⟨n4, he, hn4, hm4, hb4⟩; obtain rfl : e = .returned (.tuple #[.agg #[.int .i64 (opI i), .string (nameI i), .int .i64 (firstI i), .int .i64 (lastI i), .int .i64 (leastI i), .int .i64 (mostI i), mayI n4 i, .int .i64 (noneI i)], .bool true]) := by rw [he, hf]; rfl
         have hblk := World.alloc_heap_new w4 (.cells zeroCells 49); have HM4 := Aside0.mk hm4; have HB4 := Aside0.mk (H0.out.trans (hb4.mono H0.out.size)); clear he hn4 hm4 hb4)
      | ((with_reducible refine gate_store (t := 49) (p := 4) rfl ?_); refine store_row_any rfl 49 _ _ rfl w4.heap.size _ rfl rfl 49 zeroCells hblk rowSize rfl (agg_one n4 i) ?_; intro W5 hblk5 hoth hbel; have q0 : W5.cell? ⟨w4.heap.size, 0, none⟩ = some (.int .i64 (opI i)) := row_cell hblk5 0 _ rfl; have q1 : W5.cell? ⟨w4.heap.size, 1, none⟩ = some (.string (nameI i)) := row_cell hblk5 1 _ rfl; have q2 : W5.cell? ⟨w4.heap.size, 2, none⟩ = some (.int .i64 (firstI i)) := row_cell hblk5 2 _ rfl; have q3 : W5.cell? ⟨w4.heap.size, 3, none⟩ = some (.int .i64 (lastI i)) := row_cell hblk5 3 _ rfl; have q4 : W5.cell? ⟨w4.heap.size, 4, none⟩ = some (.int .i64 (leastI i)) := row_cell hblk5 4 _ rfl; have q5 : W5.cell? ⟨w4.heap.size, 5, none⟩ = some (.int .i64 (mostI i)) := row_cell hblk5 5 _ rfl; have q6 : W5.cell? ⟨w4.heap.size, 6, none⟩ = some (mayI n4 i) := row_cell hblk5 6 _ rfl; have q7 : W5.cell? ⟨w4.heap.size, 7, none⟩ = some (.int .i64 (noneI i)) := row_cell hblk5 7 _ rfl; have HB5 := Aside0.mk ((below_alloc HB4.out (.cells zeroCells 49)).trans (hbel _ HB4.out.size)); clear hbel hoth))
    try (go_quiet (fail); go_wp2)
    refine bodyPost_ret (results_tmp2 rfl _ _ _) rfl ?_
    exact ⟨rfl, by first | exact HB5.out | exact pw_below_drewN HB5.out _⟩
end Go.Proofs.Ytbefcdidlfkmnaa.Print
