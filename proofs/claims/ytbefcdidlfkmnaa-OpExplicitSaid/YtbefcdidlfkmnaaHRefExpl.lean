/- The contract of the document's Explicit, of a node that came in: its answer can be read; no condition beyond those written. -/
import Derived.Test.YtbefcdidlfkmnaaA7
import Derived.Test.YtbefcdidlfkmnaaA3
import Derived.Test.YtbefcdidlfkmnaaHExplicit
namespace Go.Proofs.Ytbefcdidlfkmnaa.Print
open Go.RowKit Go.Shelf Go.Proofs.YtbefcdidlfkmnaaW.PrintWords Go.Proofs.YtbefcdidlfkmnaaW.PrintLast Go.Proofs.YtbefcdidlfkmnaaW.PrintMore
set_option linter.unusedVariables false
set_option linter.unusedSimpArgs false

theorem C_empty2 (A : Option Addr) (w : World) : Kd.C (Kd.int .i64) w A ([] : List Int).length [] := ⟨rfl, by simp, fun h => absurd h (Nat.lt_irrefl 0)⟩
def downI (m : Nat) : Nat → List Int
  | 0 => []
  | j + 1 => downI m j ++ [(m : Int) - 1 - (j : Int)]
theorem downI_length (m : Nat) : ∀ j, (downI m j).length = j
  | 0 => rfl
  | j + 1 => by simp [downI, downI_length m j]
theorem downI_all (m : Nat) (h : m ≤ 4) : downI m m = (upToI m).reverse := by
  rcases (by omega : m = 0 ∨ m = 1 ∨ m = 2 ∨ m = 3 ∨ m = 4) with rfl | rfl | rfl | rfl | rfl <;> rfl

set_option maxRecDepth 100000 in
set_option maxHeartbeats 16000000 in
theorem ref_back_c (o : Int) (l2 : List Int) (n2 : Nat) (v x : Int) (A1 : Option Addr) (c1 : Nat) (l1 : List Int) (A2 : Option Addr) (c2 : Nat) (k : Nat) (w : World) (hr1 : Kd.C (Kd.int .i64) w A1 l1.length l1) (hc1 : l1.length ≤ c1) (hn2 : n2 = l2.length) (hr2 : Kd.C (Kd.int .i64) w A2 l2.length l2) (hc2 : l2.length ≤ c2) (c : Int) (hck : fluxionref11_Check.f k v o l1 l2 = some c) (hc : (c == 0) = false) (hcn : (c != 0) = true) :
    Calls Try.prog 15 #[.int .i64 v, .agg #[.int .i64 o, .slice A1 l1.length c1, .slice A2 n2 c2], .int .i64 x] w fun e w' => ∃ (A' : Option Addr) (c' : Nat), e = .returned (.slice A' (l2).length c') ∧ (l2).length ≤ c' ∧ Kd.C (Kd.int .i64) w' A' (l2).length (l2) ∧ Below w.heap.size w w' := by
  have HCk : ∀ W, Below w.heap.size w W → Calls Try.prog 11 #[.int .i64 v, .agg #[.int .i64 o, .slice A1 l1.length c1, .slice A2 n2 c2]] W fun e w' => e = .returned (.int .i64 c) ∧ Below W.heap.size W w' := fun W hW => by
    rw [hn2]; exact fluxionref11_Check.calls k v o A1 c1 l1 A2 c2 l2 c W (Kd.C_below hr1 hW) hc1 (Kd.C_below hr2 hW) hc2 hck
  have HR2 := Aside0.mk hr2
  have HC2 := Aside0.mk hc2
  have HN := Aside0.mk hn2
  clear hn2 hr2 hc2
  have hnd := World.alloc_heap_new w (.cells #[.int .i64 o, .slice A1 l1.length c1, .slice A2 n2 c2] 25)
  have h0 := Aside0.mk (show Below w.heap.size w (w.alloc (.cells #[.int .i64 o, .slice A1 l1.length c1, .slice A2 n2 c2] 25)) from below_alloc (Below.refl _ _) _)
  go_enter Try.func15, Try.ntmps15
  go_wp2_with (first | (go_at_call 11; refine (HCk _ h0.out).mono ?_; rintro e w6 ⟨rfl, hb6⟩; have hnd6 := (hb6.block w.heap.size (by simp)).trans hnd; have nw6_0 : w6.cell? ⟨w.heap.size, 0, none⟩ = some (.int .i64 o) := row_cell hnd6 0 _ rfl; have nw6_1 : w6.cell? ⟨w.heap.size, 1, none⟩ = some (.slice A1 l1.length c1) := row_cell hnd6 1 _ rfl; have nw6_2 : w6.cell? ⟨w.heap.size, 2, none⟩ = some (.slice A2 n2 c2) := row_cell hnd6 2 _ rfl; have HB6 := Aside0.mk (h0.out.trans (hb6.mono h0.out.size)); clear hb6))
  go_ret
  rw [HN.out]
  exact ⟨_, _, rfl, HC2.out, Kd.C_below HR2.out HB6.out, HB6.out⟩

set_option maxRecDepth 100000 in
set_option maxHeartbeats 16000000 in
theorem ref_back_l (o : Int) (l2 : List Int) (n2 : Nat) (v x : Int) (A1 : Option Addr) (c1 : Nat) (l1 : List Int) (A2 : Option Addr) (c2 : Nat) (k : Nat) (w : World) (hr1 : Kd.C (Kd.int .i64) w A1 l1.length l1) (hc1 : l1.length ≤ c1) (hn2 : n2 = l2.length) (hr2 : Kd.C (Kd.int .i64) w A2 l2.length l2) (hc2 : l2.length ≤ c2) (hck : fluxionref11_Check.f k v o l1 l2 = some 0) (hl : decide (0 < (n2 : Int)) = true) (hln : 0 < n2) :
    Calls Try.prog 15 #[.int .i64 v, .agg #[.int .i64 o, .slice A1 l1.length c1, .slice A2 n2 c2], .int .i64 x] w fun e w' => ∃ (A' : Option Addr) (c' : Nat), e = .returned (.slice A' (l2).length c') ∧ (l2).length ≤ c' ∧ Kd.C (Kd.int .i64) w' A' (l2).length (l2) ∧ Below w.heap.size w w' := by
  have HCk : ∀ W, Below w.heap.size w W → Calls Try.prog 11 #[.int .i64 v, .agg #[.int .i64 o, .slice A1 l1.length c1, .slice A2 n2 c2]] W fun e w' => e = .returned (.int .i64 0) ∧ Below W.heap.size W w' := fun W hW => by
    rw [hn2]; exact fluxionref11_Check.calls k v o A1 c1 l1 A2 c2 l2 0 W (Kd.C_below hr1 hW) hc1 (Kd.C_below hr2 hW) hc2 hck
  have HR2 := Aside0.mk hr2
  have HC2 := Aside0.mk hc2
  have HN := Aside0.mk hn2
  clear hn2 hr2 hc2
  have hnd := World.alloc_heap_new w (.cells #[.int .i64 o, .slice A1 l1.length c1, .slice A2 n2 c2] 25)
  have h0 := Aside0.mk (show Below w.heap.size w (w.alloc (.cells #[.int .i64 o, .slice A1 l1.length c1, .slice A2 n2 c2] 25)) from below_alloc (Below.refl _ _) _)
  go_enter Try.func15, Try.ntmps15
  go_wp2_with (first | (go_at_call 11; refine (HCk _ h0.out).mono ?_; rintro e w6 ⟨rfl, hb6⟩; have hnd6 := (hb6.block w.heap.size (by simp)).trans hnd; have nw6_0 : w6.cell? ⟨w.heap.size, 0, none⟩ = some (.int .i64 o) := row_cell hnd6 0 _ rfl; have nw6_1 : w6.cell? ⟨w.heap.size, 1, none⟩ = some (.slice A1 l1.length c1) := row_cell hnd6 1 _ rfl; have nw6_2 : w6.cell? ⟨w.heap.size, 2, none⟩ = some (.slice A2 n2 c2) := row_cell hnd6 2 _ rfl; have HB6 := Aside0.mk (h0.out.trans (hb6.mono h0.out.size)); clear hb6))
  go_ret
  rw [HN.out]
  exact ⟨_, _, rfl, HC2.out, Kd.C_below HR2.out HB6.out, HB6.out⟩

set_option maxRecDepth 100000 in
set_option maxHeartbeats 16000000 in
theorem ref_back_n (o : Int) (v x : Int) (A1 : Option Addr) (c1 : Nat) (l1 : List Int) (A2 : Option Addr) (c2 : Nat) (k : Nat) (w : World) (hr1 : Kd.C (Kd.int .i64) w A1 l1.length l1) (hc1 : l1.length ≤ c1) (hck : fluxionref11_Check.f k v o l1 [] = some 0) (hno : fluxionref11_None.f k v o = some false) :
    Calls Try.prog 15 #[.int .i64 v, .agg #[.int .i64 o, .slice A1 l1.length c1, .slice A2 0 c2], .int .i64 x] w fun e w' => ∃ (A' : Option Addr) (c' : Nat), e = .returned (.slice A' (([] : List Int)).length c') ∧ (([] : List Int)).length ≤ c' ∧ Kd.C (Kd.int .i64) w' A' (([] : List Int)).length (([] : List Int)) ∧ Below w.heap.size w w' := by
  have HCk : ∀ W, Below w.heap.size w W → Calls Try.prog 11 #[.int .i64 v, .agg #[.int .i64 o, .slice A1 l1.length c1, .slice A2 0 c2]] W fun e w' => e = .returned (.int .i64 0) ∧ Below W.heap.size W w' := fun W hW => by
    exact fluxionref11_Check.calls k v o A1 c1 l1 A2 c2 [] 0 W (Kd.C_below hr1 hW) hc1 (C_empty2 A2 W) (Nat.zero_le _) hck
  have HNo : ∀ W, Calls Try.prog 28 #[.int .i64 v, .int .i64 o] W fun e w' => e = .returned (.bool false) ∧ Drawn0 W w' := fun W => fluxionref11_None.calls k v o false W hno
  have hnd := World.alloc_heap_new w (.cells #[.int .i64 o, .slice A1 l1.length c1, .slice A2 0 c2] 25)
  have h0 := Aside0.mk (show Below w.heap.size w (w.alloc (.cells #[.int .i64 o, .slice A1 l1.length c1, .slice A2 0 c2] 25)) from below_alloc (Below.refl _ _) _)
  go_enter Try.func15, Try.ntmps15
  go_wp2_with (first | (go_at_call 11; refine (HCk _ h0.out).mono ?_; rintro e w6 ⟨rfl, hb6⟩; have hnd6 := (hb6.block w.heap.size (by simp)).trans hnd; have nw6_0 : w6.cell? ⟨w.heap.size, 0, none⟩ = some (.int .i64 o) := row_cell hnd6 0 _ rfl; have nw6_1 : w6.cell? ⟨w.heap.size, 1, none⟩ = some (.slice A1 l1.length c1) := row_cell hnd6 1 _ rfl; have nw6_2 : w6.cell? ⟨w.heap.size, 2, none⟩ = some (.slice A2 0 c2) := row_cell hnd6 2 _ rfl; have HB6 := Aside0.mk (h0.out.trans (hb6.mono h0.out.size)); clear hb6) | (go_at_call 28; refine (HNo _).mono ?_; rintro e w7 ⟨rfl, hn7⟩; obtain ⟨q7, rfl⟩ := hn7; have HB7 := Aside0.mk (pw_below_drewN HB6.out q7)))
  go_ret
  exact ⟨_, _, rfl, Nat.zero_le _, C_empty2 _ _, HB7.out⟩

theorem lit1_C (W : World) (y : Int) : Kd.C (Kd.int .i64) (W.alloc (.cells #[.int .i64 y] 3)) (some ⟨W.heap.size, 0, none⟩) 1 [y] := by
  refine ⟨rfl, by simp, fun _ => ⟨_, rfl, fun j p hp => ?_⟩⟩
  have hj : j = 0 := by
    rcases Nat.lt_or_ge j 1 with h | h
    · omega
    · rw [List.getElem?_eq_none (by simpa using h)] at hp; cases hp
  subst hj
  obtain rfl : y = p := by simpa using hp
  refine ⟨[.int .i64 y], rfl, rfl, fun i u hu => ?_⟩
  have hi : i = 0 := by
    rcases Nat.lt_or_ge i 1 with h | h
    · omega
    · rw [List.getElem?_eq_none (by simpa using h)] at hu; cases hu
  subst hi
  obtain rfl : Value.int .i64 y = u := by simpa using hu
  unfold World.cell?
  rw [show ((⟨W.heap.size, 0, none⟩ : Addr).add (0 * (Kd.int .i64).sz + 0)) = ⟨W.heap.size, 0, none⟩ from rfl, World.alloc_heap_new]
  rfl

set_option maxRecDepth 100000 in
set_option maxHeartbeats 16000000 in
theorem ref_pow_n (v x : Int) (A1 : Option Addr) (c1 : Nat) (l1 : List Int) (A2 : Option Addr) (c2 : Nat) (k : Nat) (w : World) (hr1 : Kd.C (Kd.int .i64) w A1 l1.length l1) (hc1 : l1.length ≤ c1) (hx : decide (x < 0) = true) (hck : fluxionref11_Check.f k v 6 l1 [] = some 0) (hno : fluxionref11_None.f k v 6 = some true) :
    Calls Try.prog 15 #[.int .i64 v, .agg #[.int .i64 6, .slice A1 l1.length c1, .slice A2 0 c2], .int .i64 x] w fun e w' => ∃ (A' : Option Addr) (c' : Nat), e = .returned (.slice A' (([2] : List Int)).length c') ∧ (([2] : List Int)).length ≤ c' ∧ Kd.C (Kd.int .i64) w' A' (([2] : List Int)).length (([2] : List Int)) ∧ Below w.heap.size w w' := by
  have HCk : ∀ W, Below w.heap.size w W → Calls Try.prog 11 #[.int .i64 v, .agg #[.int .i64 6, .slice A1 l1.length c1, .slice A2 0 c2]] W fun e w' => e = .returned (.int .i64 0) ∧ Below W.heap.size W w' := fun W hW => by
    exact fluxionref11_Check.calls k v 6 A1 c1 l1 A2 c2 [] 0 W (Kd.C_below hr1 hW) hc1 (C_empty2 A2 W) (Nat.zero_le _) hck
  have HNo : ∀ W, Calls Try.prog 28 #[.int .i64 v, .int .i64 6] W fun e w' => e = .returned (.bool true) ∧ Drawn0 W w' := fun W => fluxionref11_None.calls k v 6 true W hno
  have hnd := World.alloc_heap_new w (.cells #[.int .i64 6, .slice A1 l1.length c1, .slice A2 0 c2] 25)
  have h0 := Aside0.mk (show Below w.heap.size w (w.alloc (.cells #[.int .i64 6, .slice A1 l1.length c1, .slice A2 0 c2] 25)) from below_alloc (Below.refl _ _) _)
  go_enter Try.func15, Try.ntmps15
  go_wp2_with (first | (go_at_call 11; refine (HCk _ h0.out).mono ?_; rintro e w6 ⟨rfl, hb6⟩; have hnd6 := (hb6.block w.heap.size (by simp)).trans hnd; have nw6_0 : w6.cell? ⟨w.heap.size, 0, none⟩ = some (.int .i64 6) := row_cell hnd6 0 _ rfl; have nw6_1 : w6.cell? ⟨w.heap.size, 1, none⟩ = some (.slice A1 l1.length c1) := row_cell hnd6 1 _ rfl; have nw6_2 : w6.cell? ⟨w.heap.size, 2, none⟩ = some (.slice A2 0 c2) := row_cell hnd6 2 _ rfl; have HB6 := Aside0.mk (h0.out.trans (hb6.mono h0.out.size)); clear hb6) | (go_at_call 28; refine (HNo _).mono ?_; rintro e w7 ⟨rfl, hn7⟩; obtain ⟨q7, rfl⟩ := hn7; have hnd7 : (w6.drewN q7).heap[w.heap.size]? = some (.cells #[.int .i64 6, .slice A1 l1.length c1, .slice A2 0 c2] 25 (0, 0)) := hnd6; have nq_0 : (w6.drewN q7).cell? ⟨w.heap.size, 0, none⟩ = some (.int .i64 6) := row_cell hnd7 0 _ rfl; have nq_1 : (w6.drewN q7).cell? ⟨w.heap.size, 1, none⟩ = some (.slice A1 l1.length c1) := row_cell hnd7 1 _ rfl; have nq_2 : (w6.drewN q7).cell? ⟨w.heap.size, 2, none⟩ = some (.slice A2 0 c2) := row_cell hnd7 2 _ rfl; have HB7 := Aside0.mk (pw_below_drewN HB6.out q7)))
  go_ret
  exact ⟨_, _, rfl, Nat.le_refl _, lit1_C _ _, below_alloc HB7.out _⟩

set_option maxRecDepth 100000 in
set_option maxHeartbeats 16000000 in
theorem ref_concat_n (v x : Int) (A1 : Option Addr) (c1 : Nat) (l1 : List Int) (A2 : Option Addr) (c2 : Nat) (k : Nat) (w : World) (hr1 : Kd.C (Kd.int .i64) w A1 l1.length l1) (hc1 : l1.length ≤ c1) (hx : decide (x < 0) = true) (hck : fluxionref11_Check.f k v 17 l1 [] = some 0) (hno : fluxionref11_None.f k v 17 = some true) :
    Calls Try.prog 15 #[.int .i64 v, .agg #[.int .i64 17, .slice A1 l1.length c1, .slice A2 0 c2], .int .i64 x] w fun e w' => ∃ (A' : Option Addr) (c' : Nat), e = .returned (.slice A' (([0] : List Int)).length c') ∧ (([0] : List Int)).length ≤ c' ∧ Kd.C (Kd.int .i64) w' A' (([0] : List Int)).length (([0] : List Int)) ∧ Below w.heap.size w w' := by
  have HCk : ∀ W, Below w.heap.size w W → Calls Try.prog 11 #[.int .i64 v, .agg #[.int .i64 17, .slice A1 l1.length c1, .slice A2 0 c2]] W fun e w' => e = .returned (.int .i64 0) ∧ Below W.heap.size W w' := fun W hW => by
    exact fluxionref11_Check.calls k v 17 A1 c1 l1 A2 c2 [] 0 W (Kd.C_below hr1 hW) hc1 (C_empty2 A2 W) (Nat.zero_le _) hck
  have HNo : ∀ W, Calls Try.prog 28 #[.int .i64 v, .int .i64 17] W fun e w' => e = .returned (.bool true) ∧ Drawn0 W w' := fun W => fluxionref11_None.calls k v 17 true W hno
  have hnd := World.alloc_heap_new w (.cells #[.int .i64 17, .slice A1 l1.length c1, .slice A2 0 c2] 25)
  have h0 := Aside0.mk (show Below w.heap.size w (w.alloc (.cells #[.int .i64 17, .slice A1 l1.length c1, .slice A2 0 c2] 25)) from below_alloc (Below.refl _ _) _)
  go_enter Try.func15, Try.ntmps15
  go_wp2_with (first | (go_at_call 11; refine (HCk _ h0.out).mono ?_; rintro e w6 ⟨rfl, hb6⟩; have hnd6 := (hb6.block w.heap.size (by simp)).trans hnd; have nw6_0 : w6.cell? ⟨w.heap.size, 0, none⟩ = some (.int .i64 17) := row_cell hnd6 0 _ rfl; have nw6_1 : w6.cell? ⟨w.heap.size, 1, none⟩ = some (.slice A1 l1.length c1) := row_cell hnd6 1 _ rfl; have nw6_2 : w6.cell? ⟨w.heap.size, 2, none⟩ = some (.slice A2 0 c2) := row_cell hnd6 2 _ rfl; have HB6 := Aside0.mk (h0.out.trans (hb6.mono h0.out.size)); clear hb6) | (go_at_call 28; refine (HNo _).mono ?_; rintro e w7 ⟨rfl, hn7⟩; obtain ⟨q7, rfl⟩ := hn7; have hnd7 : (w6.drewN q7).heap[w.heap.size]? = some (.cells #[.int .i64 17, .slice A1 l1.length c1, .slice A2 0 c2] 25 (0, 0)) := hnd6; have nq_0 : (w6.drewN q7).cell? ⟨w.heap.size, 0, none⟩ = some (.int .i64 17) := row_cell hnd7 0 _ rfl; have nq_1 : (w6.drewN q7).cell? ⟨w.heap.size, 1, none⟩ = some (.slice A1 l1.length c1) := row_cell hnd7 1 _ rfl; have nq_2 : (w6.drewN q7).cell? ⟨w.heap.size, 2, none⟩ = some (.slice A2 0 c2) := row_cell hnd7 2 _ rfl; have HB7 := Aside0.mk (pw_below_drewN HB6.out q7)))
  go_ret
  exact ⟨_, _, rfl, Nat.le_refl _, lit1_C _ _, below_alloc HB7.out _⟩

set_option maxRecDepth 100000 in
set_option maxHeartbeats 16000000 in
theorem ref_turn_n (m : Nat) (v x : Int) (A1 : Option Addr) (c1 : Nat) (l1 : List Int) (A2 : Option Addr) (c2 : Nat) (k : Nat) (w : World) (hr1 : Kd.C (Kd.int .i64) w A1 l1.length l1) (hc1 : l1.length ≤ c1) (hx : decide (x < 0) = true) (hm : (0 : Int) = (m : Int) ∧ m ≤ 4) (hck : fluxionref11_Check.f k v 11 l1 [] = some 0) (hno : fluxionref11_None.f k v 11 = some true) :
    Calls Try.prog 15 #[.int .i64 v, .agg #[.int .i64 11, .slice A1 l1.length c1, .slice A2 0 c2], .int .i64 x] w fun e w' => ∃ (A' : Option Addr) (c' : Nat), e = .returned (.slice A' ((upToI m).reverse).length c') ∧ ((upToI m).reverse).length ≤ c' ∧ Kd.C (Kd.int .i64) w' A' ((upToI m).reverse).length ((upToI m).reverse) ∧ Below w.heap.size w w' := by
  have HCk : ∀ W, Below w.heap.size w W → Calls Try.prog 11 #[.int .i64 v, .agg #[.int .i64 11, .slice A1 l1.length c1, .slice A2 0 c2]] W fun e w' => e = .returned (.int .i64 0) ∧ Below W.heap.size W w' := fun W hW => by
    exact fluxionref11_Check.calls k v 11 A1 c1 l1 A2 c2 [] 0 W (Kd.C_below hr1 hW) hc1 (C_empty2 A2 W) (Nat.zero_le _) hck
  have HNo : ∀ W, Calls Try.prog 28 #[.int .i64 v, .int .i64 11] W fun e w' => e = .returned (.bool true) ∧ Drawn0 W w' := fun W => fluxionref11_None.calls k v 11 true W hno
  have HM := Aside0.mk hm
  clear hm
  have hnd := World.alloc_heap_new w (.cells #[.int .i64 11, .slice A1 l1.length c1, .slice A2 0 c2] 25)
  have h0 := Aside0.mk (show Below w.heap.size w (w.alloc (.cells #[.int .i64 11, .slice A1 l1.length c1, .slice A2 0 c2] 25)) from below_alloc (Below.refl _ _) _)
  go_enter Try.func15, Try.ntmps15
  go_wp2_with (first | (go_at_call 11; refine (HCk _ h0.out).mono ?_; rintro e w6 ⟨rfl, hb6⟩; have hnd6 := (hb6.block w.heap.size (by simp)).trans hnd; have nw6_0 : w6.cell? ⟨w.heap.size, 0, none⟩ = some (.int .i64 11) := row_cell hnd6 0 _ rfl; have nw6_1 : w6.cell? ⟨w.heap.size, 1, none⟩ = some (.slice A1 l1.length c1) := row_cell hnd6 1 _ rfl; have nw6_2 : w6.cell? ⟨w.heap.size, 2, none⟩ = some (.slice A2 0 c2) := row_cell hnd6 2 _ rfl; have HB6 := Aside0.mk (h0.out.trans (hb6.mono h0.out.size)); clear hb6) | (go_at_call 28; refine (HNo _).mono ?_; rintro e w7 ⟨rfl, hn7⟩; obtain ⟨q7, rfl⟩ := hn7; have hnd7 : (w6.drewN q7).heap[w.heap.size]? = some (.cells #[.int .i64 11, .slice A1 l1.length c1, .slice A2 0 c2] 25 (0, 0)) := hnd6; have nq_0 : (w6.drewN q7).cell? ⟨w.heap.size, 0, none⟩ = some (.int .i64 11) := row_cell hnd7 0 _ rfl; have nq_1 : (w6.drewN q7).cell? ⟨w.heap.size, 1, none⟩ = some (.slice A1 l1.length c1) := row_cell hnd7 1 _ rfl; have nq_2 : (w6.drewN q7).cell? ⟨w.heap.size, 2, none⟩ = some (.slice A2 0 c2) := row_cell hnd7 2 _ rfl; have HB7 := Aside0.mk (pw_below_drewN HB6.out q7)))
  go_loopw [7, 8] (fun v7 v8 wr => ∃ (j : Nat) (Av : Option Addr) (cv : Nat), j ≤ m ∧ v8 = .int .i64 ((m : Int) - 1 - (j : Int)) ∧ v7 = .slice Av j cv ∧ Aside0 (Kd.R (Kd.int .i64) 3 wr w.heap.size (fun _ => True) (.slice Av j cv) (downI m j)) ∧ Aside0 (Below w.heap.size w wr)) (fun _ v8 _ => (intOf v8 + 1).toNat)
  case atStart => exact ⟨0, none, 0, by omega, by (have := HM.out; first | (congr 1; omega) | rw [show wrap64 ((0 : Int) - 1) = (m : Int) - 1 - ((0 : Nat) : Int) from (by unfold wrap64; omega)]), rfl, ⟨Kd.R_nil _ _ _ _ _⟩, HB7⟩
  case round =>
    obtain ⟨j, Av, cv, hj, rfl, rfl, HV, HB⟩ := hrel
    by_cases hlti : j < m
    · have hd : decide (0 ≤ (m : Int) - 1 - (j : Int)) = true := decide_eq_true (by have := HM.out; omega)
      go_wp2_with ((with_reducible refine gate_builtin (b := .append) (xs := #[.tmp 51, .tmp 53]) rfl ?_); at_builtin; refine Kd.R_append (Kd.int .i64) (w0 := w) w.heap.size rfl (.tmp 51) (.tmp 53) 23 3 (.int .i64 0) 8 rfl Try.underlying23 info3 rfl (by decide) (by omega) (.slice Av j cv) (downI m j) ((m : Int) - 1 - (j : Int)) [.int .i64 ((m : Int) - 1 - (j : Int))] (fun _ => True) (fun _ => False) rfl rfl ?aP (fun _ hk => hk.elim) ?aF ?aO ?aB ?aS ?aL ?_; (case aP => exact rfl); (case aB => exact HB.out); (case aF => exact (fun _ _ => trivial)); (case aO => exact HV.out); (case aS => exact HB.out.size); (case aL => rw [downI_length]; have := HM.out; omega); intro v' w9 ho hb hg hat; rw [show downI m j ++ [(m : Int) - 1 - (j : Int)] = downI m (j + 1) from rfl] at ho; obtain ⟨Av', cv', rfl, hl', _⟩ := Kd.R_reads ho; rw [downI_length] at ho ⊢; have HV' := Aside0.mk ho; have HB' := Aside0.mk hb; clear ho hb hg hat hl')
      go_roundw
      case rel => exact ⟨j + 1, Av', cv', by omega, by (have := HM.out; rw [show wrap64 ((m : Int) - 1 - (j : Int) - 1) = (m : Int) - 1 - ((j + 1 : Nat) : Int) from (by unfold wrap64; omega)]), rfl, HV', HB'⟩
      case measure => have := HM.out; rw [show wrap64 ((m : Int) - 1 - (j : Int) - 1) = (m : Int) - 1 - ((j + 1 : Nat) : Int) from (by unfold wrap64; omega)]; simp [intOf]; omega
    · obtain rfl : j = m := by omega
      have hd : decide (0 ≤ (j : Int) - 1 - (j : Int)) = false := decide_eq_false (by have := HM.out; omega)
      go_wp2
      go_ret
      obtain ⟨_, hl', hC⟩ := Kd.R_reads' HV.out
      rw [← downI_all j (by have := HM.out; omega)]; exact ⟨Av, cv, (by rw [downI_length]; rfl), (by rw [downI_length]; exact hl'), hC, HB.out⟩

set_option maxRecDepth 100000 in
set_option maxHeartbeats 16000000 in
theorem ref_up_n (o : Int) (m : Nat) (v x : Int) (A1 : Option Addr) (c1 : Nat) (l1 : List Int) (A2 : Option Addr) (c2 : Nat) (k : Nat) (w : World) (hr1 : Kd.C (Kd.int .i64) w A1 l1.length l1) (hc1 : l1.length ≤ c1) (hx : decide (x < 0) = true) (hm : (0 : Int) = (m : Int) ∧ m ≤ 4) (he6 : (o == 6) = false) (he17 : (o == 17) = false) (he11 : (o == 11) = false) (hck : fluxionref11_Check.f k v o l1 [] = some 0) (hno : fluxionref11_None.f k v o = some true) :
    Calls Try.prog 15 #[.int .i64 v, .agg #[.int .i64 o, .slice A1 l1.length c1, .slice A2 0 c2], .int .i64 x] w fun e w' => ∃ (A' : Option Addr) (c' : Nat), e = .returned (.slice A' (upToI m).length c') ∧ (upToI m).length ≤ c' ∧ Kd.C (Kd.int .i64) w' A' (upToI m).length (upToI m) ∧ Below w.heap.size w w' := by
  have HCk : ∀ W, Below w.heap.size w W → Calls Try.prog 11 #[.int .i64 v, .agg #[.int .i64 o, .slice A1 l1.length c1, .slice A2 0 c2]] W fun e w' => e = .returned (.int .i64 0) ∧ Below W.heap.size W w' := fun W hW => by
    exact fluxionref11_Check.calls k v o A1 c1 l1 A2 c2 [] 0 W (Kd.C_below hr1 hW) hc1 (C_empty2 A2 W) (Nat.zero_le _) hck
  have HNo : ∀ W, Calls Try.prog 28 #[.int .i64 v, .int .i64 o] W fun e w' => e = .returned (.bool true) ∧ Drawn0 W w' := fun W => fluxionref11_None.calls k v o true W hno
  have HM := Aside0.mk hm
  clear hm
  have hnd := World.alloc_heap_new w (.cells #[.int .i64 o, .slice A1 l1.length c1, .slice A2 0 c2] 25)
  have h0 := Aside0.mk (show Below w.heap.size w (w.alloc (.cells #[.int .i64 o, .slice A1 l1.length c1, .slice A2 0 c2] 25)) from below_alloc (Below.refl _ _) _)
  go_enter Try.func15, Try.ntmps15
  go_wp2_with (first | (go_at_call 11; refine (HCk _ h0.out).mono ?_; rintro e w6 ⟨rfl, hb6⟩; have hnd6 := (hb6.block w.heap.size (by simp)).trans hnd; have nw6_0 : w6.cell? ⟨w.heap.size, 0, none⟩ = some (.int .i64 o) := row_cell hnd6 0 _ rfl; have nw6_1 : w6.cell? ⟨w.heap.size, 1, none⟩ = some (.slice A1 l1.length c1) := row_cell hnd6 1 _ rfl; have nw6_2 : w6.cell? ⟨w.heap.size, 2, none⟩ = some (.slice A2 0 c2) := row_cell hnd6 2 _ rfl; have HB6 := Aside0.mk (h0.out.trans (hb6.mono h0.out.size)); clear hb6) | (go_at_call 28; refine (HNo _).mono ?_; rintro e w7 ⟨rfl, hn7⟩; obtain ⟨q7, rfl⟩ := hn7; have hnd7 : (w6.drewN q7).heap[w.heap.size]? = some (.cells #[.int .i64 o, .slice A1 l1.length c1, .slice A2 0 c2] 25 (0, 0)) := hnd6; have nq_0 : (w6.drewN q7).cell? ⟨w.heap.size, 0, none⟩ = some (.int .i64 o) := row_cell hnd7 0 _ rfl; have nq_1 : (w6.drewN q7).cell? ⟨w.heap.size, 1, none⟩ = some (.slice A1 l1.length c1) := row_cell hnd7 1 _ rfl; have nq_2 : (w6.drewN q7).cell? ⟨w.heap.size, 2, none⟩ = some (.slice A2 0 c2) := row_cell hnd7 2 _ rfl; have HB7 := Aside0.mk (pw_below_drewN HB6.out q7)))
  go_loopw [7, 9] (fun v7 v9 wr => ∃ (j : Nat) (Av : Option Addr) (cv : Nat), j ≤ m ∧ v9 = .int .i64 ((j : Int)) ∧ v7 = .slice Av j cv ∧ Aside0 (Kd.R (Kd.int .i64) 3 wr w.heap.size (fun _ => True) (.slice Av j cv) (upToI j)) ∧ Aside0 (Below w.heap.size w wr)) (fun _ v9 _ => m - (intOf v9).toNat)
  case atStart => exact ⟨0, none, 0, by omega, rfl, rfl, ⟨Kd.R_nil _ _ _ _ _⟩, HB7⟩
  case round =>
    obtain ⟨j, Av, cv, hj, rfl, rfl, HV, HB⟩ := hrel
    by_cases hlti : j < m
    · have hd : decide ((j : Int) < 0) = true := decide_eq_true (by have := HM.out; omega)
      go_wp2_with ((with_reducible refine gate_builtin (b := .append) (xs := #[.tmp 61, .tmp 63]) rfl ?_); at_builtin; refine Kd.R_append (Kd.int .i64) (w0 := w) w.heap.size rfl (.tmp 61) (.tmp 63) 23 3 (.int .i64 0) 8 rfl Try.underlying23 info3 rfl (by decide) (by omega) (.slice Av j cv) (upToI j) ((j : Int)) [.int .i64 ((j : Int))] (fun _ => True) (fun _ => False) rfl rfl ?aP (fun _ hk => hk.elim) ?aF ?aO ?aB ?aS ?aL ?_; (case aP => exact rfl); (case aB => exact HB.out); (case aF => exact (fun _ _ => trivial)); (case aO => exact HV.out); (case aS => exact HB.out.size); (case aL => rw [upToI_length]; have := HM.out; omega); intro v' w9 ho hb hg hat; rw [← upToI_succ] at ho; obtain ⟨Av', cv', rfl, hl', _⟩ := Kd.R_reads ho; rw [upToI_length] at ho ⊢; have HV' := Aside0.mk ho; have HB' := Aside0.mk hb; clear ho hb hg hat hl')
      go_roundw
      case rel => exact ⟨j + 1, Av', cv', by omega, by (have := HM.out; rw [show wrap64 ((j : Int) + 1) = ((j + 1 : Nat) : Int) from (by unfold wrap64; omega)]), rfl, HV', HB'⟩
      case measure => have := HM.out; rw [show wrap64 ((j : Int) + 1) = ((j + 1 : Nat) : Int) from (by unfold wrap64; omega)]; simp [intOf]; omega
    · obtain rfl : j = m := by omega
      have hd : decide ((j : Int) < 0) = false := decide_eq_false (by have := HM.out; omega)
      go_wp2
      go_ret
      obtain ⟨_, hl', hC⟩ := Kd.R_reads' HV.out
      exact ⟨Av, cv, (by rw [upToI_length]; rfl), (by rw [upToI_length]; exact hl'), hC, HB.out⟩

set_option maxRecDepth 100000 in
set_option maxHeartbeats 16000000 in
theorem ref_pow_b (v x : Int) (A1 : Option Addr) (c1 : Nat) (l1 : List Int) (A2 : Option Addr) (c2 : Nat) (k : Nat) (w : World) (hr1 : Kd.C (Kd.int .i64) w A1 l1.length l1) (hc1 : l1.length ≤ c1) (hx : decide (x < 0) = false) (hx4 : decide (4 < x) = true) (hck : fluxionref11_Check.f k v 6 l1 [] = some 0) (hno : fluxionref11_None.f k v 6 = some true) :
    Calls Try.prog 15 #[.int .i64 v, .agg #[.int .i64 6, .slice A1 l1.length c1, .slice A2 0 c2], .int .i64 x] w fun e w' => ∃ (A' : Option Addr) (c' : Nat), e = .returned (.slice A' (([2] : List Int)).length c') ∧ (([2] : List Int)).length ≤ c' ∧ Kd.C (Kd.int .i64) w' A' (([2] : List Int)).length (([2] : List Int)) ∧ Below w.heap.size w w' := by
  have HCk : ∀ W, Below w.heap.size w W → Calls Try.prog 11 #[.int .i64 v, .agg #[.int .i64 6, .slice A1 l1.length c1, .slice A2 0 c2]] W fun e w' => e = .returned (.int .i64 0) ∧ Below W.heap.size W w' := fun W hW => by
    exact fluxionref11_Check.calls k v 6 A1 c1 l1 A2 c2 [] 0 W (Kd.C_below hr1 hW) hc1 (C_empty2 A2 W) (Nat.zero_le _) hck
  have HNo : ∀ W, Calls Try.prog 28 #[.int .i64 v, .int .i64 6] W fun e w' => e = .returned (.bool true) ∧ Drawn0 W w' := fun W => fluxionref11_None.calls k v 6 true W hno
  have hnd := World.alloc_heap_new w (.cells #[.int .i64 6, .slice A1 l1.length c1, .slice A2 0 c2] 25)
  have h0 := Aside0.mk (show Below w.heap.size w (w.alloc (.cells #[.int .i64 6, .slice A1 l1.length c1, .slice A2 0 c2] 25)) from below_alloc (Below.refl _ _) _)
  go_enter Try.func15, Try.ntmps15
  go_wp2_with (first | (go_at_call 11; refine (HCk _ h0.out).mono ?_; rintro e w6 ⟨rfl, hb6⟩; have hnd6 := (hb6.block w.heap.size (by simp)).trans hnd; have nw6_0 : w6.cell? ⟨w.heap.size, 0, none⟩ = some (.int .i64 6) := row_cell hnd6 0 _ rfl; have nw6_1 : w6.cell? ⟨w.heap.size, 1, none⟩ = some (.slice A1 l1.length c1) := row_cell hnd6 1 _ rfl; have nw6_2 : w6.cell? ⟨w.heap.size, 2, none⟩ = some (.slice A2 0 c2) := row_cell hnd6 2 _ rfl; have HB6 := Aside0.mk (h0.out.trans (hb6.mono h0.out.size)); clear hb6) | (go_at_call 28; refine (HNo _).mono ?_; rintro e w7 ⟨rfl, hn7⟩; obtain ⟨q7, rfl⟩ := hn7; have hnd7 : (w6.drewN q7).heap[w.heap.size]? = some (.cells #[.int .i64 6, .slice A1 l1.length c1, .slice A2 0 c2] 25 (0, 0)) := hnd6; have nq_0 : (w6.drewN q7).cell? ⟨w.heap.size, 0, none⟩ = some (.int .i64 6) := row_cell hnd7 0 _ rfl; have nq_1 : (w6.drewN q7).cell? ⟨w.heap.size, 1, none⟩ = some (.slice A1 l1.length c1) := row_cell hnd7 1 _ rfl; have nq_2 : (w6.drewN q7).cell? ⟨w.heap.size, 2, none⟩ = some (.slice A2 0 c2) := row_cell hnd7 2 _ rfl; have HB7 := Aside0.mk (pw_below_drewN HB6.out q7)))
  go_ret
  exact ⟨_, _, rfl, Nat.le_refl _, lit1_C _ _, below_alloc HB7.out _⟩

set_option maxRecDepth 100000 in
set_option maxHeartbeats 16000000 in
theorem ref_concat_b (v x : Int) (A1 : Option Addr) (c1 : Nat) (l1 : List Int) (A2 : Option Addr) (c2 : Nat) (k : Nat) (w : World) (hr1 : Kd.C (Kd.int .i64) w A1 l1.length l1) (hc1 : l1.length ≤ c1) (hx : decide (x < 0) = false) (hx4 : decide (4 < x) = true) (hck : fluxionref11_Check.f k v 17 l1 [] = some 0) (hno : fluxionref11_None.f k v 17 = some true) :
    Calls Try.prog 15 #[.int .i64 v, .agg #[.int .i64 17, .slice A1 l1.length c1, .slice A2 0 c2], .int .i64 x] w fun e w' => ∃ (A' : Option Addr) (c' : Nat), e = .returned (.slice A' (([0] : List Int)).length c') ∧ (([0] : List Int)).length ≤ c' ∧ Kd.C (Kd.int .i64) w' A' (([0] : List Int)).length (([0] : List Int)) ∧ Below w.heap.size w w' := by
  have HCk : ∀ W, Below w.heap.size w W → Calls Try.prog 11 #[.int .i64 v, .agg #[.int .i64 17, .slice A1 l1.length c1, .slice A2 0 c2]] W fun e w' => e = .returned (.int .i64 0) ∧ Below W.heap.size W w' := fun W hW => by
    exact fluxionref11_Check.calls k v 17 A1 c1 l1 A2 c2 [] 0 W (Kd.C_below hr1 hW) hc1 (C_empty2 A2 W) (Nat.zero_le _) hck
  have HNo : ∀ W, Calls Try.prog 28 #[.int .i64 v, .int .i64 17] W fun e w' => e = .returned (.bool true) ∧ Drawn0 W w' := fun W => fluxionref11_None.calls k v 17 true W hno
  have hnd := World.alloc_heap_new w (.cells #[.int .i64 17, .slice A1 l1.length c1, .slice A2 0 c2] 25)
  have h0 := Aside0.mk (show Below w.heap.size w (w.alloc (.cells #[.int .i64 17, .slice A1 l1.length c1, .slice A2 0 c2] 25)) from below_alloc (Below.refl _ _) _)
  go_enter Try.func15, Try.ntmps15
  go_wp2_with (first | (go_at_call 11; refine (HCk _ h0.out).mono ?_; rintro e w6 ⟨rfl, hb6⟩; have hnd6 := (hb6.block w.heap.size (by simp)).trans hnd; have nw6_0 : w6.cell? ⟨w.heap.size, 0, none⟩ = some (.int .i64 17) := row_cell hnd6 0 _ rfl; have nw6_1 : w6.cell? ⟨w.heap.size, 1, none⟩ = some (.slice A1 l1.length c1) := row_cell hnd6 1 _ rfl; have nw6_2 : w6.cell? ⟨w.heap.size, 2, none⟩ = some (.slice A2 0 c2) := row_cell hnd6 2 _ rfl; have HB6 := Aside0.mk (h0.out.trans (hb6.mono h0.out.size)); clear hb6) | (go_at_call 28; refine (HNo _).mono ?_; rintro e w7 ⟨rfl, hn7⟩; obtain ⟨q7, rfl⟩ := hn7; have hnd7 : (w6.drewN q7).heap[w.heap.size]? = some (.cells #[.int .i64 17, .slice A1 l1.length c1, .slice A2 0 c2] 25 (0, 0)) := hnd6; have nq_0 : (w6.drewN q7).cell? ⟨w.heap.size, 0, none⟩ = some (.int .i64 17) := row_cell hnd7 0 _ rfl; have nq_1 : (w6.drewN q7).cell? ⟨w.heap.size, 1, none⟩ = some (.slice A1 l1.length c1) := row_cell hnd7 1 _ rfl; have nq_2 : (w6.drewN q7).cell? ⟨w.heap.size, 2, none⟩ = some (.slice A2 0 c2) := row_cell hnd7 2 _ rfl; have HB7 := Aside0.mk (pw_below_drewN HB6.out q7)))
  go_ret
  exact ⟨_, _, rfl, Nat.le_refl _, lit1_C _ _, below_alloc HB7.out _⟩

set_option maxRecDepth 100000 in
set_option maxHeartbeats 16000000 in
theorem ref_turn_b (m : Nat) (v x : Int) (A1 : Option Addr) (c1 : Nat) (l1 : List Int) (A2 : Option Addr) (c2 : Nat) (k : Nat) (w : World) (hr1 : Kd.C (Kd.int .i64) w A1 l1.length l1) (hc1 : l1.length ≤ c1) (hx : decide (x < 0) = false) (hx4 : decide (4 < x) = true) (hm : (0 : Int) = (m : Int) ∧ m ≤ 4) (hck : fluxionref11_Check.f k v 11 l1 [] = some 0) (hno : fluxionref11_None.f k v 11 = some true) :
    Calls Try.prog 15 #[.int .i64 v, .agg #[.int .i64 11, .slice A1 l1.length c1, .slice A2 0 c2], .int .i64 x] w fun e w' => ∃ (A' : Option Addr) (c' : Nat), e = .returned (.slice A' ((upToI m).reverse).length c') ∧ ((upToI m).reverse).length ≤ c' ∧ Kd.C (Kd.int .i64) w' A' ((upToI m).reverse).length ((upToI m).reverse) ∧ Below w.heap.size w w' := by
  have HCk : ∀ W, Below w.heap.size w W → Calls Try.prog 11 #[.int .i64 v, .agg #[.int .i64 11, .slice A1 l1.length c1, .slice A2 0 c2]] W fun e w' => e = .returned (.int .i64 0) ∧ Below W.heap.size W w' := fun W hW => by
    exact fluxionref11_Check.calls k v 11 A1 c1 l1 A2 c2 [] 0 W (Kd.C_below hr1 hW) hc1 (C_empty2 A2 W) (Nat.zero_le _) hck
  have HNo : ∀ W, Calls Try.prog 28 #[.int .i64 v, .int .i64 11] W fun e w' => e = .returned (.bool true) ∧ Drawn0 W w' := fun W => fluxionref11_None.calls k v 11 true W hno
  have HM := Aside0.mk hm
  clear hm
  have hnd := World.alloc_heap_new w (.cells #[.int .i64 11, .slice A1 l1.length c1, .slice A2 0 c2] 25)
  have h0 := Aside0.mk (show Below w.heap.size w (w.alloc (.cells #[.int .i64 11, .slice A1 l1.length c1, .slice A2 0 c2] 25)) from below_alloc (Below.refl _ _) _)
  go_enter Try.func15, Try.ntmps15
  go_wp2_with (first | (go_at_call 11; refine (HCk _ h0.out).mono ?_; rintro e w6 ⟨rfl, hb6⟩; have hnd6 := (hb6.block w.heap.size (by simp)).trans hnd; have nw6_0 : w6.cell? ⟨w.heap.size, 0, none⟩ = some (.int .i64 11) := row_cell hnd6 0 _ rfl; have nw6_1 : w6.cell? ⟨w.heap.size, 1, none⟩ = some (.slice A1 l1.length c1) := row_cell hnd6 1 _ rfl; have nw6_2 : w6.cell? ⟨w.heap.size, 2, none⟩ = some (.slice A2 0 c2) := row_cell hnd6 2 _ rfl; have HB6 := Aside0.mk (h0.out.trans (hb6.mono h0.out.size)); clear hb6) | (go_at_call 28; refine (HNo _).mono ?_; rintro e w7 ⟨rfl, hn7⟩; obtain ⟨q7, rfl⟩ := hn7; have hnd7 : (w6.drewN q7).heap[w.heap.size]? = some (.cells #[.int .i64 11, .slice A1 l1.length c1, .slice A2 0 c2] 25 (0, 0)) := hnd6; have nq_0 : (w6.drewN q7).cell? ⟨w.heap.size, 0, none⟩ = some (.int .i64 11) := row_cell hnd7 0 _ rfl; have nq_1 : (w6.drewN q7).cell? ⟨w.heap.size, 1, none⟩ = some (.slice A1 l1.length c1) := row_cell hnd7 1 _ rfl; have nq_2 : (w6.drewN q7).cell? ⟨w.heap.size, 2, none⟩ = some (.slice A2 0 c2) := row_cell hnd7 2 _ rfl; have HB7 := Aside0.mk (pw_below_drewN HB6.out q7)))
  go_loopw [7, 8] (fun v7 v8 wr => ∃ (j : Nat) (Av : Option Addr) (cv : Nat), j ≤ m ∧ v8 = .int .i64 ((m : Int) - 1 - (j : Int)) ∧ v7 = .slice Av j cv ∧ Aside0 (Kd.R (Kd.int .i64) 3 wr w.heap.size (fun _ => True) (.slice Av j cv) (downI m j)) ∧ Aside0 (Below w.heap.size w wr)) (fun _ v8 _ => (intOf v8 + 1).toNat)
  case atStart => exact ⟨0, none, 0, by omega, by (have := HM.out; first | (congr 1; omega) | rw [show wrap64 ((0 : Int) - 1) = (m : Int) - 1 - ((0 : Nat) : Int) from (by unfold wrap64; omega)]), rfl, ⟨Kd.R_nil _ _ _ _ _⟩, HB7⟩
  case round =>
    obtain ⟨j, Av, cv, hj, rfl, rfl, HV, HB⟩ := hrel
    by_cases hlti : j < m
    · have hd : decide (0 ≤ (m : Int) - 1 - (j : Int)) = true := decide_eq_true (by have := HM.out; omega)
      go_wp2_with ((with_reducible refine gate_builtin (b := .append) (xs := #[.tmp 51, .tmp 53]) rfl ?_); at_builtin; refine Kd.R_append (Kd.int .i64) (w0 := w) w.heap.size rfl (.tmp 51) (.tmp 53) 23 3 (.int .i64 0) 8 rfl Try.underlying23 info3 rfl (by decide) (by omega) (.slice Av j cv) (downI m j) ((m : Int) - 1 - (j : Int)) [.int .i64 ((m : Int) - 1 - (j : Int))] (fun _ => True) (fun _ => False) rfl rfl ?aP (fun _ hk => hk.elim) ?aF ?aO ?aB ?aS ?aL ?_; (case aP => exact rfl); (case aB => exact HB.out); (case aF => exact (fun _ _ => trivial)); (case aO => exact HV.out); (case aS => exact HB.out.size); (case aL => rw [downI_length]; have := HM.out; omega); intro v' w9 ho hb hg hat; rw [show downI m j ++ [(m : Int) - 1 - (j : Int)] = downI m (j + 1) from rfl] at ho; obtain ⟨Av', cv', rfl, hl', _⟩ := Kd.R_reads ho; rw [downI_length] at ho ⊢; have HV' := Aside0.mk ho; have HB' := Aside0.mk hb; clear ho hb hg hat hl')
      go_roundw
      case rel => exact ⟨j + 1, Av', cv', by omega, by (have := HM.out; rw [show wrap64 ((m : Int) - 1 - (j : Int) - 1) = (m : Int) - 1 - ((j + 1 : Nat) : Int) from (by unfold wrap64; omega)]), rfl, HV', HB'⟩
      case measure => have := HM.out; rw [show wrap64 ((m : Int) - 1 - (j : Int) - 1) = (m : Int) - 1 - ((j + 1 : Nat) : Int) from (by unfold wrap64; omega)]; simp [intOf]; omega
    · obtain rfl : j = m := by omega
      have hd : decide (0 ≤ (j : Int) - 1 - (j : Int)) = false := decide_eq_false (by have := HM.out; omega)
      go_wp2
      go_ret
      obtain ⟨_, hl', hC⟩ := Kd.R_reads' HV.out
      rw [← downI_all j (by have := HM.out; omega)]; exact ⟨Av, cv, (by rw [downI_length]; rfl), (by rw [downI_length]; exact hl'), hC, HB.out⟩

set_option maxRecDepth 100000 in
set_option maxHeartbeats 16000000 in
theorem ref_up_b (o : Int) (m : Nat) (v x : Int) (A1 : Option Addr) (c1 : Nat) (l1 : List Int) (A2 : Option Addr) (c2 : Nat) (k : Nat) (w : World) (hr1 : Kd.C (Kd.int .i64) w A1 l1.length l1) (hc1 : l1.length ≤ c1) (hx : decide (x < 0) = false) (hx4 : decide (4 < x) = true) (hm : (0 : Int) = (m : Int) ∧ m ≤ 4) (he6 : (o == 6) = false) (he17 : (o == 17) = false) (he11 : (o == 11) = false) (hck : fluxionref11_Check.f k v o l1 [] = some 0) (hno : fluxionref11_None.f k v o = some true) :
    Calls Try.prog 15 #[.int .i64 v, .agg #[.int .i64 o, .slice A1 l1.length c1, .slice A2 0 c2], .int .i64 x] w fun e w' => ∃ (A' : Option Addr) (c' : Nat), e = .returned (.slice A' (upToI m).length c') ∧ (upToI m).length ≤ c' ∧ Kd.C (Kd.int .i64) w' A' (upToI m).length (upToI m) ∧ Below w.heap.size w w' := by
  have HCk : ∀ W, Below w.heap.size w W → Calls Try.prog 11 #[.int .i64 v, .agg #[.int .i64 o, .slice A1 l1.length c1, .slice A2 0 c2]] W fun e w' => e = .returned (.int .i64 0) ∧ Below W.heap.size W w' := fun W hW => by
    exact fluxionref11_Check.calls k v o A1 c1 l1 A2 c2 [] 0 W (Kd.C_below hr1 hW) hc1 (C_empty2 A2 W) (Nat.zero_le _) hck
  have HNo : ∀ W, Calls Try.prog 28 #[.int .i64 v, .int .i64 o] W fun e w' => e = .returned (.bool true) ∧ Drawn0 W w' := fun W => fluxionref11_None.calls k v o true W hno
  have HM := Aside0.mk hm
  clear hm
  have hnd := World.alloc_heap_new w (.cells #[.int .i64 o, .slice A1 l1.length c1, .slice A2 0 c2] 25)
  have h0 := Aside0.mk (show Below w.heap.size w (w.alloc (.cells #[.int .i64 o, .slice A1 l1.length c1, .slice A2 0 c2] 25)) from below_alloc (Below.refl _ _) _)
  go_enter Try.func15, Try.ntmps15
  go_wp2_with (first | (go_at_call 11; refine (HCk _ h0.out).mono ?_; rintro e w6 ⟨rfl, hb6⟩; have hnd6 := (hb6.block w.heap.size (by simp)).trans hnd; have nw6_0 : w6.cell? ⟨w.heap.size, 0, none⟩ = some (.int .i64 o) := row_cell hnd6 0 _ rfl; have nw6_1 : w6.cell? ⟨w.heap.size, 1, none⟩ = some (.slice A1 l1.length c1) := row_cell hnd6 1 _ rfl; have nw6_2 : w6.cell? ⟨w.heap.size, 2, none⟩ = some (.slice A2 0 c2) := row_cell hnd6 2 _ rfl; have HB6 := Aside0.mk (h0.out.trans (hb6.mono h0.out.size)); clear hb6) | (go_at_call 28; refine (HNo _).mono ?_; rintro e w7 ⟨rfl, hn7⟩; obtain ⟨q7, rfl⟩ := hn7; have hnd7 : (w6.drewN q7).heap[w.heap.size]? = some (.cells #[.int .i64 o, .slice A1 l1.length c1, .slice A2 0 c2] 25 (0, 0)) := hnd6; have nq_0 : (w6.drewN q7).cell? ⟨w.heap.size, 0, none⟩ = some (.int .i64 o) := row_cell hnd7 0 _ rfl; have nq_1 : (w6.drewN q7).cell? ⟨w.heap.size, 1, none⟩ = some (.slice A1 l1.length c1) := row_cell hnd7 1 _ rfl; have nq_2 : (w6.drewN q7).cell? ⟨w.heap.size, 2, none⟩ = some (.slice A2 0 c2) := row_cell hnd7 2 _ rfl; have HB7 := Aside0.mk (pw_below_drewN HB6.out q7)))
  go_loopw [7, 9] (fun v7 v9 wr => ∃ (j : Nat) (Av : Option Addr) (cv : Nat), j ≤ m ∧ v9 = .int .i64 ((j : Int)) ∧ v7 = .slice Av j cv ∧ Aside0 (Kd.R (Kd.int .i64) 3 wr w.heap.size (fun _ => True) (.slice Av j cv) (upToI j)) ∧ Aside0 (Below w.heap.size w wr)) (fun _ v9 _ => m - (intOf v9).toNat)
  case atStart => exact ⟨0, none, 0, by omega, rfl, rfl, ⟨Kd.R_nil _ _ _ _ _⟩, HB7⟩
  case round =>
    obtain ⟨j, Av, cv, hj, rfl, rfl, HV, HB⟩ := hrel
    by_cases hlti : j < m
    · have hd : decide ((j : Int) < 0) = true := decide_eq_true (by have := HM.out; omega)
      go_wp2_with ((with_reducible refine gate_builtin (b := .append) (xs := #[.tmp 61, .tmp 63]) rfl ?_); at_builtin; refine Kd.R_append (Kd.int .i64) (w0 := w) w.heap.size rfl (.tmp 61) (.tmp 63) 23 3 (.int .i64 0) 8 rfl Try.underlying23 info3 rfl (by decide) (by omega) (.slice Av j cv) (upToI j) ((j : Int)) [.int .i64 ((j : Int))] (fun _ => True) (fun _ => False) rfl rfl ?aP (fun _ hk => hk.elim) ?aF ?aO ?aB ?aS ?aL ?_; (case aP => exact rfl); (case aB => exact HB.out); (case aF => exact (fun _ _ => trivial)); (case aO => exact HV.out); (case aS => exact HB.out.size); (case aL => rw [upToI_length]; have := HM.out; omega); intro v' w9 ho hb hg hat; rw [← upToI_succ] at ho; obtain ⟨Av', cv', rfl, hl', _⟩ := Kd.R_reads ho; rw [upToI_length] at ho ⊢; have HV' := Aside0.mk ho; have HB' := Aside0.mk hb; clear ho hb hg hat hl')
      go_roundw
      case rel => exact ⟨j + 1, Av', cv', by omega, by (have := HM.out; rw [show wrap64 ((j : Int) + 1) = ((j + 1 : Nat) : Int) from (by unfold wrap64; omega)]), rfl, HV', HB'⟩
      case measure => have := HM.out; rw [show wrap64 ((j : Int) + 1) = ((j + 1 : Nat) : Int) from (by unfold wrap64; omega)]; simp [intOf]; omega
    · obtain rfl : j = m := by omega
      have hd : decide ((j : Int) < 0) = false := decide_eq_false (by have := HM.out; omega)
      go_wp2
      go_ret
      obtain ⟨_, hl', hC⟩ := Kd.R_reads' HV.out
      exact ⟨Av, cv, (by rw [upToI_length]; rfl), (by rw [upToI_length]; exact hl'), hC, HB.out⟩

set_option maxRecDepth 100000 in
set_option maxHeartbeats 16000000 in
theorem ref_pow_o (v x : Int) (A1 : Option Addr) (c1 : Nat) (l1 : List Int) (A2 : Option Addr) (c2 : Nat) (k : Nat) (w : World) (hr1 : Kd.C (Kd.int .i64) w A1 l1.length l1) (hc1 : l1.length ≤ c1) (hx : decide (x < 0) = false) (hx4 : decide (4 < x) = false) (hck : fluxionref11_Check.f k v 6 l1 [] = some 0) (hno : fluxionref11_None.f k v 6 = some true) :
    Calls Try.prog 15 #[.int .i64 v, .agg #[.int .i64 6, .slice A1 l1.length c1, .slice A2 0 c2], .int .i64 x] w fun e w' => ∃ (A' : Option Addr) (c' : Nat), e = .returned (.slice A' (([2] : List Int)).length c') ∧ (([2] : List Int)).length ≤ c' ∧ Kd.C (Kd.int .i64) w' A' (([2] : List Int)).length (([2] : List Int)) ∧ Below w.heap.size w w' := by
  have HCk : ∀ W, Below w.heap.size w W → Calls Try.prog 11 #[.int .i64 v, .agg #[.int .i64 6, .slice A1 l1.length c1, .slice A2 0 c2]] W fun e w' => e = .returned (.int .i64 0) ∧ Below W.heap.size W w' := fun W hW => by
    exact fluxionref11_Check.calls k v 6 A1 c1 l1 A2 c2 [] 0 W (Kd.C_below hr1 hW) hc1 (C_empty2 A2 W) (Nat.zero_le _) hck
  have HNo : ∀ W, Calls Try.prog 28 #[.int .i64 v, .int .i64 6] W fun e w' => e = .returned (.bool true) ∧ Drawn0 W w' := fun W => fluxionref11_None.calls k v 6 true W hno
  have hnd := World.alloc_heap_new w (.cells #[.int .i64 6, .slice A1 l1.length c1, .slice A2 0 c2] 25)
  have h0 := Aside0.mk (show Below w.heap.size w (w.alloc (.cells #[.int .i64 6, .slice A1 l1.length c1, .slice A2 0 c2] 25)) from below_alloc (Below.refl _ _) _)
  go_enter Try.func15, Try.ntmps15
  go_wp2_with (first | (go_at_call 11; refine (HCk _ h0.out).mono ?_; rintro e w6 ⟨rfl, hb6⟩; have hnd6 := (hb6.block w.heap.size (by simp)).trans hnd; have nw6_0 : w6.cell? ⟨w.heap.size, 0, none⟩ = some (.int .i64 6) := row_cell hnd6 0 _ rfl; have nw6_1 : w6.cell? ⟨w.heap.size, 1, none⟩ = some (.slice A1 l1.length c1) := row_cell hnd6 1 _ rfl; have nw6_2 : w6.cell? ⟨w.heap.size, 2, none⟩ = some (.slice A2 0 c2) := row_cell hnd6 2 _ rfl; have HB6 := Aside0.mk (h0.out.trans (hb6.mono h0.out.size)); clear hb6) | (go_at_call 28; refine (HNo _).mono ?_; rintro e w7 ⟨rfl, hn7⟩; obtain ⟨q7, rfl⟩ := hn7; have hnd7 : (w6.drewN q7).heap[w.heap.size]? = some (.cells #[.int .i64 6, .slice A1 l1.length c1, .slice A2 0 c2] 25 (0, 0)) := hnd6; have nq_0 : (w6.drewN q7).cell? ⟨w.heap.size, 0, none⟩ = some (.int .i64 6) := row_cell hnd7 0 _ rfl; have nq_1 : (w6.drewN q7).cell? ⟨w.heap.size, 1, none⟩ = some (.slice A1 l1.length c1) := row_cell hnd7 1 _ rfl; have nq_2 : (w6.drewN q7).cell? ⟨w.heap.size, 2, none⟩ = some (.slice A2 0 c2) := row_cell hnd7 2 _ rfl; have HB7 := Aside0.mk (pw_below_drewN HB6.out q7)))
  go_ret
  exact ⟨_, _, rfl, Nat.le_refl _, lit1_C _ _, below_alloc HB7.out _⟩

set_option maxRecDepth 100000 in
set_option maxHeartbeats 16000000 in
theorem ref_concat_o (v x : Int) (A1 : Option Addr) (c1 : Nat) (l1 : List Int) (A2 : Option Addr) (c2 : Nat) (k : Nat) (w : World) (hr1 : Kd.C (Kd.int .i64) w A1 l1.length l1) (hc1 : l1.length ≤ c1) (hx : decide (x < 0) = false) (hx4 : decide (4 < x) = false) (hck : fluxionref11_Check.f k v 17 l1 [] = some 0) (hno : fluxionref11_None.f k v 17 = some true) :
    Calls Try.prog 15 #[.int .i64 v, .agg #[.int .i64 17, .slice A1 l1.length c1, .slice A2 0 c2], .int .i64 x] w fun e w' => ∃ (A' : Option Addr) (c' : Nat), e = .returned (.slice A' (([0] : List Int)).length c') ∧ (([0] : List Int)).length ≤ c' ∧ Kd.C (Kd.int .i64) w' A' (([0] : List Int)).length (([0] : List Int)) ∧ Below w.heap.size w w' := by
  have HCk : ∀ W, Below w.heap.size w W → Calls Try.prog 11 #[.int .i64 v, .agg #[.int .i64 17, .slice A1 l1.length c1, .slice A2 0 c2]] W fun e w' => e = .returned (.int .i64 0) ∧ Below W.heap.size W w' := fun W hW => by
    exact fluxionref11_Check.calls k v 17 A1 c1 l1 A2 c2 [] 0 W (Kd.C_below hr1 hW) hc1 (C_empty2 A2 W) (Nat.zero_le _) hck
  have HNo : ∀ W, Calls Try.prog 28 #[.int .i64 v, .int .i64 17] W fun e w' => e = .returned (.bool true) ∧ Drawn0 W w' := fun W => fluxionref11_None.calls k v 17 true W hno
  have hnd := World.alloc_heap_new w (.cells #[.int .i64 17, .slice A1 l1.length c1, .slice A2 0 c2] 25)
  have h0 := Aside0.mk (show Below w.heap.size w (w.alloc (.cells #[.int .i64 17, .slice A1 l1.length c1, .slice A2 0 c2] 25)) from below_alloc (Below.refl _ _) _)
  go_enter Try.func15, Try.ntmps15
  go_wp2_with (first | (go_at_call 11; refine (HCk _ h0.out).mono ?_; rintro e w6 ⟨rfl, hb6⟩; have hnd6 := (hb6.block w.heap.size (by simp)).trans hnd; have nw6_0 : w6.cell? ⟨w.heap.size, 0, none⟩ = some (.int .i64 17) := row_cell hnd6 0 _ rfl; have nw6_1 : w6.cell? ⟨w.heap.size, 1, none⟩ = some (.slice A1 l1.length c1) := row_cell hnd6 1 _ rfl; have nw6_2 : w6.cell? ⟨w.heap.size, 2, none⟩ = some (.slice A2 0 c2) := row_cell hnd6 2 _ rfl; have HB6 := Aside0.mk (h0.out.trans (hb6.mono h0.out.size)); clear hb6) | (go_at_call 28; refine (HNo _).mono ?_; rintro e w7 ⟨rfl, hn7⟩; obtain ⟨q7, rfl⟩ := hn7; have hnd7 : (w6.drewN q7).heap[w.heap.size]? = some (.cells #[.int .i64 17, .slice A1 l1.length c1, .slice A2 0 c2] 25 (0, 0)) := hnd6; have nq_0 : (w6.drewN q7).cell? ⟨w.heap.size, 0, none⟩ = some (.int .i64 17) := row_cell hnd7 0 _ rfl; have nq_1 : (w6.drewN q7).cell? ⟨w.heap.size, 1, none⟩ = some (.slice A1 l1.length c1) := row_cell hnd7 1 _ rfl; have nq_2 : (w6.drewN q7).cell? ⟨w.heap.size, 2, none⟩ = some (.slice A2 0 c2) := row_cell hnd7 2 _ rfl; have HB7 := Aside0.mk (pw_below_drewN HB6.out q7)))
  go_ret
  exact ⟨_, _, rfl, Nat.le_refl _, lit1_C _ _, below_alloc HB7.out _⟩

set_option maxRecDepth 100000 in
set_option maxHeartbeats 16000000 in
theorem ref_turn_o (m : Nat) (v x : Int) (A1 : Option Addr) (c1 : Nat) (l1 : List Int) (A2 : Option Addr) (c2 : Nat) (k : Nat) (w : World) (hr1 : Kd.C (Kd.int .i64) w A1 l1.length l1) (hc1 : l1.length ≤ c1) (hx : decide (x < 0) = false) (hx4 : decide (4 < x) = false) (hm : (x : Int) = (m : Int) ∧ m ≤ 4) (hck : fluxionref11_Check.f k v 11 l1 [] = some 0) (hno : fluxionref11_None.f k v 11 = some true) :
    Calls Try.prog 15 #[.int .i64 v, .agg #[.int .i64 11, .slice A1 l1.length c1, .slice A2 0 c2], .int .i64 x] w fun e w' => ∃ (A' : Option Addr) (c' : Nat), e = .returned (.slice A' ((upToI m).reverse).length c') ∧ ((upToI m).reverse).length ≤ c' ∧ Kd.C (Kd.int .i64) w' A' ((upToI m).reverse).length ((upToI m).reverse) ∧ Below w.heap.size w w' := by
  have HCk : ∀ W, Below w.heap.size w W → Calls Try.prog 11 #[.int .i64 v, .agg #[.int .i64 11, .slice A1 l1.length c1, .slice A2 0 c2]] W fun e w' => e = .returned (.int .i64 0) ∧ Below W.heap.size W w' := fun W hW => by
    exact fluxionref11_Check.calls k v 11 A1 c1 l1 A2 c2 [] 0 W (Kd.C_below hr1 hW) hc1 (C_empty2 A2 W) (Nat.zero_le _) hck
  have HNo : ∀ W, Calls Try.prog 28 #[.int .i64 v, .int .i64 11] W fun e w' => e = .returned (.bool true) ∧ Drawn0 W w' := fun W => fluxionref11_None.calls k v 11 true W hno
  have HM := Aside0.mk hm
  clear hm
  have hnd := World.alloc_heap_new w (.cells #[.int .i64 11, .slice A1 l1.length c1, .slice A2 0 c2] 25)
  have h0 := Aside0.mk (show Below w.heap.size w (w.alloc (.cells #[.int .i64 11, .slice A1 l1.length c1, .slice A2 0 c2] 25)) from below_alloc (Below.refl _ _) _)
  go_enter Try.func15, Try.ntmps15
  go_wp2_with (first | (go_at_call 11; refine (HCk _ h0.out).mono ?_; rintro e w6 ⟨rfl, hb6⟩; have hnd6 := (hb6.block w.heap.size (by simp)).trans hnd; have nw6_0 : w6.cell? ⟨w.heap.size, 0, none⟩ = some (.int .i64 11) := row_cell hnd6 0 _ rfl; have nw6_1 : w6.cell? ⟨w.heap.size, 1, none⟩ = some (.slice A1 l1.length c1) := row_cell hnd6 1 _ rfl; have nw6_2 : w6.cell? ⟨w.heap.size, 2, none⟩ = some (.slice A2 0 c2) := row_cell hnd6 2 _ rfl; have HB6 := Aside0.mk (h0.out.trans (hb6.mono h0.out.size)); clear hb6) | (go_at_call 28; refine (HNo _).mono ?_; rintro e w7 ⟨rfl, hn7⟩; obtain ⟨q7, rfl⟩ := hn7; have hnd7 : (w6.drewN q7).heap[w.heap.size]? = some (.cells #[.int .i64 11, .slice A1 l1.length c1, .slice A2 0 c2] 25 (0, 0)) := hnd6; have nq_0 : (w6.drewN q7).cell? ⟨w.heap.size, 0, none⟩ = some (.int .i64 11) := row_cell hnd7 0 _ rfl; have nq_1 : (w6.drewN q7).cell? ⟨w.heap.size, 1, none⟩ = some (.slice A1 l1.length c1) := row_cell hnd7 1 _ rfl; have nq_2 : (w6.drewN q7).cell? ⟨w.heap.size, 2, none⟩ = some (.slice A2 0 c2) := row_cell hnd7 2 _ rfl; have HB7 := Aside0.mk (pw_below_drewN HB6.out q7)))
  go_loopw [7, 8] (fun v7 v8 wr => ∃ (j : Nat) (Av : Option Addr) (cv : Nat), j ≤ m ∧ v8 = .int .i64 ((m : Int) - 1 - (j : Int)) ∧ v7 = .slice Av j cv ∧ Aside0 (Kd.R (Kd.int .i64) 3 wr w.heap.size (fun _ => True) (.slice Av j cv) (downI m j)) ∧ Aside0 (Below w.heap.size w wr)) (fun _ v8 _ => (intOf v8 + 1).toNat)
  case atStart => exact ⟨0, none, 0, by omega, by (have := HM.out; first | (congr 1; omega) | rw [show wrap64 ((x : Int) - 1) = (m : Int) - 1 - ((0 : Nat) : Int) from (by unfold wrap64; omega)]), rfl, ⟨Kd.R_nil _ _ _ _ _⟩, HB7⟩
  case round =>
    obtain ⟨j, Av, cv, hj, rfl, rfl, HV, HB⟩ := hrel
    by_cases hlti : j < m
    · have hd : decide (0 ≤ (m : Int) - 1 - (j : Int)) = true := decide_eq_true (by have := HM.out; omega)
      go_wp2_with ((with_reducible refine gate_builtin (b := .append) (xs := #[.tmp 51, .tmp 53]) rfl ?_); at_builtin; refine Kd.R_append (Kd.int .i64) (w0 := w) w.heap.size rfl (.tmp 51) (.tmp 53) 23 3 (.int .i64 0) 8 rfl Try.underlying23 info3 rfl (by decide) (by omega) (.slice Av j cv) (downI m j) ((m : Int) - 1 - (j : Int)) [.int .i64 ((m : Int) - 1 - (j : Int))] (fun _ => True) (fun _ => False) rfl rfl ?aP (fun _ hk => hk.elim) ?aF ?aO ?aB ?aS ?aL ?_; (case aP => exact rfl); (case aB => exact HB.out); (case aF => exact (fun _ _ => trivial)); (case aO => exact HV.out); (case aS => exact HB.out.size); (case aL => rw [downI_length]; have := HM.out; omega); intro v' w9 ho hb hg hat; rw [show downI m j ++ [(m : Int) - 1 - (j : Int)] = downI m (j + 1) from rfl] at ho; obtain ⟨Av', cv', rfl, hl', _⟩ := Kd.R_reads ho; rw [downI_length] at ho ⊢; have HV' := Aside0.mk ho; have HB' := Aside0.mk hb; clear ho hb hg hat hl')
      go_roundw
      case rel => exact ⟨j + 1, Av', cv', by omega, by (have := HM.out; rw [show wrap64 ((m : Int) - 1 - (j : Int) - 1) = (m : Int) - 1 - ((j + 1 : Nat) : Int) from (by unfold wrap64; omega)]), rfl, HV', HB'⟩
      case measure => have := HM.out; rw [show wrap64 ((m : Int) - 1 - (j : Int) - 1) = (m : Int) - 1 - ((j + 1 : Nat) : Int) from (by unfold wrap64; omega)]; simp [intOf]; omega
    · obtain rfl : j = m := by omega
      have hd : decide (0 ≤ (j : Int) - 1 - (j : Int)) = false := decide_eq_false (by have := HM.out; omega)
      go_wp2
      go_ret
      obtain ⟨_, hl', hC⟩ := Kd.R_reads' HV.out
      rw [← downI_all j (by have := HM.out; omega)]; exact ⟨Av, cv, (by rw [downI_length]; rfl), (by rw [downI_length]; exact hl'), hC, HB.out⟩

set_option maxRecDepth 100000 in
set_option maxHeartbeats 16000000 in
theorem ref_up_o (o : Int) (m : Nat) (v x : Int) (A1 : Option Addr) (c1 : Nat) (l1 : List Int) (A2 : Option Addr) (c2 : Nat) (k : Nat) (w : World) (hr1 : Kd.C (Kd.int .i64) w A1 l1.length l1) (hc1 : l1.length ≤ c1) (hx : decide (x < 0) = false) (hx4 : decide (4 < x) = false) (hm : (x : Int) = (m : Int) ∧ m ≤ 4) (he6 : (o == 6) = false) (he17 : (o == 17) = false) (he11 : (o == 11) = false) (hck : fluxionref11_Check.f k v o l1 [] = some 0) (hno : fluxionref11_None.f k v o = some true) :
    Calls Try.prog 15 #[.int .i64 v, .agg #[.int .i64 o, .slice A1 l1.length c1, .slice A2 0 c2], .int .i64 x] w fun e w' => ∃ (A' : Option Addr) (c' : Nat), e = .returned (.slice A' (upToI m).length c') ∧ (upToI m).length ≤ c' ∧ Kd.C (Kd.int .i64) w' A' (upToI m).length (upToI m) ∧ Below w.heap.size w w' := by
  have HCk : ∀ W, Below w.heap.size w W → Calls Try.prog 11 #[.int .i64 v, .agg #[.int .i64 o, .slice A1 l1.length c1, .slice A2 0 c2]] W fun e w' => e = .returned (.int .i64 0) ∧ Below W.heap.size W w' := fun W hW => by
    exact fluxionref11_Check.calls k v o A1 c1 l1 A2 c2 [] 0 W (Kd.C_below hr1 hW) hc1 (C_empty2 A2 W) (Nat.zero_le _) hck
  have HNo : ∀ W, Calls Try.prog 28 #[.int .i64 v, .int .i64 o] W fun e w' => e = .returned (.bool true) ∧ Drawn0 W w' := fun W => fluxionref11_None.calls k v o true W hno
  have HM := Aside0.mk hm
  clear hm
  have hnd := World.alloc_heap_new w (.cells #[.int .i64 o, .slice A1 l1.length c1, .slice A2 0 c2] 25)
  have h0 := Aside0.mk (show Below w.heap.size w (w.alloc (.cells #[.int .i64 o, .slice A1 l1.length c1, .slice A2 0 c2] 25)) from below_alloc (Below.refl _ _) _)
  go_enter Try.func15, Try.ntmps15
  go_wp2_with (first | (go_at_call 11; refine (HCk _ h0.out).mono ?_; rintro e w6 ⟨rfl, hb6⟩; have hnd6 := (hb6.block w.heap.size (by simp)).trans hnd; have nw6_0 : w6.cell? ⟨w.heap.size, 0, none⟩ = some (.int .i64 o) := row_cell hnd6 0 _ rfl; have nw6_1 : w6.cell? ⟨w.heap.size, 1, none⟩ = some (.slice A1 l1.length c1) := row_cell hnd6 1 _ rfl; have nw6_2 : w6.cell? ⟨w.heap.size, 2, none⟩ = some (.slice A2 0 c2) := row_cell hnd6 2 _ rfl; have HB6 := Aside0.mk (h0.out.trans (hb6.mono h0.out.size)); clear hb6) | (go_at_call 28; refine (HNo _).mono ?_; rintro e w7 ⟨rfl, hn7⟩; obtain ⟨q7, rfl⟩ := hn7; have hnd7 : (w6.drewN q7).heap[w.heap.size]? = some (.cells #[.int .i64 o, .slice A1 l1.length c1, .slice A2 0 c2] 25 (0, 0)) := hnd6; have nq_0 : (w6.drewN q7).cell? ⟨w.heap.size, 0, none⟩ = some (.int .i64 o) := row_cell hnd7 0 _ rfl; have nq_1 : (w6.drewN q7).cell? ⟨w.heap.size, 1, none⟩ = some (.slice A1 l1.length c1) := row_cell hnd7 1 _ rfl; have nq_2 : (w6.drewN q7).cell? ⟨w.heap.size, 2, none⟩ = some (.slice A2 0 c2) := row_cell hnd7 2 _ rfl; have HB7 := Aside0.mk (pw_below_drewN HB6.out q7)))
  go_loopw [7, 9] (fun v7 v9 wr => ∃ (j : Nat) (Av : Option Addr) (cv : Nat), j ≤ m ∧ v9 = .int .i64 ((j : Int)) ∧ v7 = .slice Av j cv ∧ Aside0 (Kd.R (Kd.int .i64) 3 wr w.heap.size (fun _ => True) (.slice Av j cv) (upToI j)) ∧ Aside0 (Below w.heap.size w wr)) (fun _ v9 _ => m - (intOf v9).toNat)
  case atStart => exact ⟨0, none, 0, by omega, rfl, rfl, ⟨Kd.R_nil _ _ _ _ _⟩, HB7⟩
  case round =>
    obtain ⟨j, Av, cv, hj, rfl, rfl, HV, HB⟩ := hrel
    by_cases hlti : j < m
    · have hd : decide ((j : Int) < x) = true := decide_eq_true (by have := HM.out; omega)
      go_wp2_with ((with_reducible refine gate_builtin (b := .append) (xs := #[.tmp 61, .tmp 63]) rfl ?_); at_builtin; refine Kd.R_append (Kd.int .i64) (w0 := w) w.heap.size rfl (.tmp 61) (.tmp 63) 23 3 (.int .i64 0) 8 rfl Try.underlying23 info3 rfl (by decide) (by omega) (.slice Av j cv) (upToI j) ((j : Int)) [.int .i64 ((j : Int))] (fun _ => True) (fun _ => False) rfl rfl ?aP (fun _ hk => hk.elim) ?aF ?aO ?aB ?aS ?aL ?_; (case aP => exact rfl); (case aB => exact HB.out); (case aF => exact (fun _ _ => trivial)); (case aO => exact HV.out); (case aS => exact HB.out.size); (case aL => rw [upToI_length]; have := HM.out; omega); intro v' w9 ho hb hg hat; rw [← upToI_succ] at ho; obtain ⟨Av', cv', rfl, hl', _⟩ := Kd.R_reads ho; rw [upToI_length] at ho ⊢; have HV' := Aside0.mk ho; have HB' := Aside0.mk hb; clear ho hb hg hat hl')
      go_roundw
      case rel => exact ⟨j + 1, Av', cv', by omega, by (have := HM.out; rw [show wrap64 ((j : Int) + 1) = ((j + 1 : Nat) : Int) from (by unfold wrap64; omega)]), rfl, HV', HB'⟩
      case measure => have := HM.out; rw [show wrap64 ((j : Int) + 1) = ((j + 1 : Nat) : Int) from (by unfold wrap64; omega)]; simp [intOf]; omega
    · obtain rfl : j = m := by omega
      have hd : decide ((j : Int) < x) = false := decide_eq_false (by have := HM.out; omega)
      go_wp2
      go_ret
      obtain ⟨_, hl', hC⟩ := Kd.R_reads' HV.out
      exact ⟨Av, cv, (by rw [upToI_length]; rfl), (by rw [upToI_length]; exact hl'), hC, HB.out⟩

/-! The contract in one -/
def rkS (x : Int) : Int := if 0 ≤ x ∧ x ≤ 4 then x else 0
def refE.f (k : Nat) (a0 a1_0 : Int) (l1_1 l1_2 : List Int) (a2 : Int) : Option (List Int) :=
  (fluxionref11_Check.f k a0 a1_0 l1_1 l1_2).bind fun c => (fluxionref11_None.f k a0 a1_0).bind fun b => some (if c = 0 ∧ l1_2.length = 0 ∧ b = true then explS a1_0 (rkS a2) else l1_2)
theorem refE.mono : ∀ a0 a1 a2 a3 a4 k, LeO (refE.f k a0 a1 a2 a3 a4) (refE.f (k + 1) a0 a1 a2 a3 a4) := by
  intro a0 a1 a2 a3 a4 k
  unfold refE.f
  exact LeO.bind (fluxionref11_Check.mono _ _ _ _ _) (fun _ => LeO.bind (fluxionref11_None.mono _ _ _) (fun _ => LeO.refl _))
theorem refE.calls (k : Nat) (a0 : Int) (a1_0 : Int) (A1_1 : Option Addr) (c1_1 : Nat) (l1_1 : List Int) (A1_2 : Option Addr) (c1_2 : Nat) (l1_2 : List Int) (a2 : Int) (r : List Int) (w : World) (hr1_1 : Kd.C (Kd.int .i64) w A1_1 l1_1.length l1_1) (hc1_1 : l1_1.length ≤ c1_1) (hr1_2 : Kd.C (Kd.int .i64) w A1_2 l1_2.length l1_2) (hc1_2 : l1_2.length ≤ c1_2) (h : refE.f k a0 a1_0 l1_1 l1_2 a2 = some r) :
    Calls Try.prog 15 #[.int .i64 a0, .agg #[.int .i64 a1_0, .slice A1_1 l1_1.length c1_1, .slice A1_2 l1_2.length c1_2], .int .i64 a2] w fun e w' => ∃ (A' : Option Addr) (c' : Nat), e = .returned (.slice A' (r).length c') ∧ (r).length ≤ c' ∧ Kd.C (Kd.int .i64) w' A' (r).length (r) ∧ Below w.heap.size w w' := by
  unfold refE.f at h
  obtain ⟨c, hck, h⟩ := Option.bind_eq_some_iff.1 h
  obtain ⟨b, hno, h⟩ := Option.bind_eq_some_iff.1 h
  obtain rfl := Option.some.inj h
  by_cases hc : ¬ c = 0
  · rw [if_neg (fun x => hc x.1)]
    exact ref_back_c a1_0 l1_2 l1_2.length a0 a2 A1_1 c1_1 l1_1 A1_2 c1_2 k w hr1_1 hc1_1 rfl hr1_2 hc1_2 c hck (by simpa using hc) (by simpa using hc)
  replace hc : c = 0 := Decidable.not_not.1 hc
  subst hc
  by_cases hl : ¬ l1_2.length = 0
  · rw [if_neg (fun x => hl x.2.1)]
    exact ref_back_l a1_0 l1_2 l1_2.length a0 a2 A1_1 c1_1 l1_1 A1_2 c1_2 k w hr1_1 hc1_1 rfl hr1_2 hc1_2 hck (decide_eq_true (by omega)) (by omega)
  replace hl : l1_2.length = 0 := Decidable.not_not.1 hl
  obtain rfl : l1_2 = [] := List.eq_nil_of_length_eq_zero hl
  cases b with
  | false =>
    rw [if_neg (fun x => absurd x.2.2 (by decide))]
    exact ref_back_n a1_0 a0 a2 A1_1 c1_1 l1_1 A1_2 c1_2 k w hr1_1 hc1_1 hck hno
  | true =>
    rw [if_pos ⟨rfl, rfl, rfl⟩]
    have z4 : (0 : Int) = ((0 : Nat) : Int) ∧ 0 ≤ 4 := ⟨rfl, by omega⟩
    have e6 : ∀ x, explS 6 x = [2] := fun x => rfl
    have e17 : ∀ x, explS 17 x = [0] := fun x => rfl
    by_cases h0 : 0 ≤ a2
    · have hx : decide (a2 < 0) = false := decide_eq_false (by omega)
      by_cases h4 : a2 ≤ 4
      · have hx4 : decide (4 < a2) = false := decide_eq_false (by omega)
        have hm : (a2 : Int) = (a2.toNat : Int) ∧ a2.toNat ≤ 4 := ⟨by omega, by omega⟩
        rw [show rkS a2 = a2 by unfold rkS; rw [if_pos ⟨h0, h4⟩]]
        by_cases h6 : a1_0 = 6
        · subst h6; exact ref_pow_o a0 a2 A1_1 c1_1 l1_1 A1_2 c1_2 k w hr1_1 hc1_1 hx hx4 hck hno
        by_cases h17 : a1_0 = 17
        · subst h17; exact ref_concat_o a0 a2 A1_1 c1_1 l1_1 A1_2 c1_2 k w hr1_1 hc1_1 hx hx4 hck hno
        by_cases h11 : a1_0 = 11
        · subst h11; exact ref_turn_o (a2.toNat) a0 a2 A1_1 c1_1 l1_1 A1_2 c1_2 k w hr1_1 hc1_1 hx hx4 hm hck hno
        rw [show explS a1_0 a2 = upToI (a2.toNat) by unfold explS; rw [if_neg h6, if_neg h17, if_neg h11]]
        exact ref_up_o a1_0 (a2.toNat) a0 a2 A1_1 c1_1 l1_1 A1_2 c1_2 k w hr1_1 hc1_1 hx hx4 hm (by simpa using h6) (by simpa using h17) (by simpa using h11) hck hno
      · have hx4 : decide (4 < a2) = true := decide_eq_true (by omega)
        rw [show rkS a2 = 0 by unfold rkS; rw [if_neg (fun c => h4 c.2)]]
        by_cases h6 : a1_0 = 6
        · subst h6; exact ref_pow_b a0 a2 A1_1 c1_1 l1_1 A1_2 c1_2 k w hr1_1 hc1_1 hx hx4 hck hno
        by_cases h17 : a1_0 = 17
        · subst h17; exact ref_concat_b a0 a2 A1_1 c1_1 l1_1 A1_2 c1_2 k w hr1_1 hc1_1 hx hx4 hck hno
        by_cases h11 : a1_0 = 11
        · subst h11; exact ref_turn_b (0) a0 a2 A1_1 c1_1 l1_1 A1_2 c1_2 k w hr1_1 hc1_1 hx hx4 z4 hck hno
        rw [show explS a1_0 0 = upToI (0) by unfold explS; rw [if_neg h6, if_neg h17, if_neg h11]; rfl]
        exact ref_up_b a1_0 (0) a0 a2 A1_1 c1_1 l1_1 A1_2 c1_2 k w hr1_1 hc1_1 hx hx4 z4 (by simpa using h6) (by simpa using h17) (by simpa using h11) hck hno
    · have hx : decide (a2 < 0) = true := decide_eq_true (by omega)
      rw [show rkS a2 = 0 by unfold rkS; rw [if_neg (fun c => h0 c.1)]]
      by_cases h6 : a1_0 = 6
      · subst h6; exact ref_pow_n a0 a2 A1_1 c1_1 l1_1 A1_2 c1_2 k w hr1_1 hc1_1 hx hck hno
      by_cases h17 : a1_0 = 17
      · subst h17; exact ref_concat_n a0 a2 A1_1 c1_1 l1_1 A1_2 c1_2 k w hr1_1 hc1_1 hx hck hno
      by_cases h11 : a1_0 = 11
      · subst h11; exact ref_turn_n (0) a0 a2 A1_1 c1_1 l1_1 A1_2 c1_2 k w hr1_1 hc1_1 hx z4 hck hno
      rw [show explS a1_0 0 = upToI (0) by unfold explS; rw [if_neg h6, if_neg h17, if_neg h11]; rfl]
      exact ref_up_n a1_0 (0) a0 a2 A1_1 c1_1 l1_1 A1_2 c1_2 k w hr1_1 hc1_1 hx z4 (by simpa using h6) (by simpa using h17) (by simpa using h11) hck hno
end Go.Proofs.Ytbefcdidlfkmnaa.Print
