/- Written by wip/tools/claimtexts.py: these texts, one behind another, without what this claim does not use: HBack, HFormat, HDig, HNatural, HRead, HStr. -/
import Derived.Test.YthppjdmkinbccaaGreatDoorMgMost2
import Derived.Test.YthppjdmkinbccaaGreatDoorMgMost3
import Derived.RangeFuncNested
import Derived.RangeFuncBound
import Derived.RangeFuncCalls
import Derived.RangeFuncLeaves
import Derived.RangeFuncBox
import Derived.Shelf.Abstract
import Derived.Shelf.RegionOpen
import Derived.WalkKit
import Derived.OwnWalkIn
import Derived.TacticsInMore
import Derived.LoopNIn
import Derived.LoopIn
import Derived.Lib.OthersKept
import Derived.Lib.BufferKept
import Derived.Ground.NamesProg
import Derived.Shelf.Lay
import Derived.Shelf.LaysM
import Derived.Shelf.Strconv.Itoa1
import Derived.Shelf.Strconv.Itoa2
import Derived.Lib.Walk
import Derived.Lib.ItoaMem
import Derived.Lib.AppendIntMem
import Derived.Lib.LaidTab
import Derived.BigCall
import Derived.BigGuard
import Derived.Shelf.Strings.Builder1
import Derived.Shelf.Strings.BuilderK
import Derived.Shelf.Strings.OnBuilder
import Derived.Shelf.Strings.Repeat
import Derived.Maps.AppendAt
import Derived.Deep.RegionHeld3
import Derived.Ground.GgwProg
import Derived.Laws.RangeString
import Derived.Laws.RangeAny
import Derived.Shelf.GgClosure.StringsIndexFuncTop
import Derived.Ground.MpProg
import Derived.Lib.AtoiErrMem
import Derived.Shelf.Pu.ParseUintPublic10
import Derived.Shelf.Strings.Search3
import Derived.Shelf.Small.Wraps
import Derived.Laws.Strings3
namespace Go.Proofs.YthppjdmkinbccaaGreatDoor.Print
open Go.RowKit Go.Shelf Go.Proofs.YthppjdmkinbccaaGreatDoorW.PrintWords Go.Proofs.YthppjdmkinbccaaGreatDoorW.PrintLast Go.Proofs.YthppjdmkinbccaaGreatDoorW.PrintMore Go.Proofs.YthppjdmkinbccaaGreatDoor.Base
attribute [local go_sem] Oper.semAt_some
set_option linter.unusedVariables false
def rearL (n : Nat) : List (Fin n) := (List.finRange n).reverse
theorem rearL_length (n : Nat) : (rearL n).length = n := by simp [rearL]
theorem rearL_take (n j : Nat) (h : j < n) : (rearL n).take (n - j) = (rearL n).take (n - 1 - j) ++ [⟨j, h⟩] := by
  rw [show n - j = n - 1 - j + 1 by omega, List.take_succ_eq_append_getElem (by rw [rearL_length]; omega)]
  congr 2
  apply Fin.ext
  simp [rearL]
  omega
def RearKeeps (n₀ Bs : Nat) (W W' : World) : Prop := Below n₀ W W' ∧ ∀ v, Boxed W Bs 22 v → Boxed W' Bs 22 v
theorem RearKeeps.refl (n₀ Bs : Nat) (W : World) : RearKeeps n₀ Bs W W := ⟨Below.refl _ _, fun _ h => h⟩
theorem RearKeeps.trans {n₀ Bs : Nat} {A B C : World} (h : RearKeeps n₀ Bs A B) (k : RearKeeps n₀ Bs B C) : RearKeeps n₀ Bs A C := ⟨h.1.trans k.1, fun v hv => k.2 v (h.2 v hv)⟩
theorem rearKeeps_b {n₀ Bs : Nat} {w : World} (hn : n₀ ≤ w.heap.size) (W : World) (l : Nat) (o o' : Obj) (hl : w.heap.size ≤ l) (h : W.heap[l]? = some o) (hc : o.isCells = false) (hk : o.isWalk = false) : RearKeeps n₀ Bs W (W.putObj l o') :=
  ⟨belowK_b hn W l o o' hl h hc hk, fun v hv => hv.kept (grownBy_putObj' W l o') (fun e => by
    obtain rfl : Bs = l := by simpa using e
    rw [show W.heap[Bs]? = _ from hv] at h; cases h; cases hc)⟩
set_option maxRecDepth 100000 in
set_option maxHeartbeats 2000000 in
theorem rear1_in (F : Fence) (n : Nat) (h7 : F.fn 75) (hro : F.round = none) (hn : 1 ≤ n) (l Bs : Nat) (A : Option Addr) (c : Nat) (xs : List Int) (w0 : World) (hr : Kd.C (Kd.int .u32) w0 A xs.length xs) (J Jx : List (Fin xs.length) → World → Prop)
    (hY : ∀ (pre : List (Fin xs.length)) (x : Fin xs.length) (W : World), J pre W → pre.length < xs.length → YieldAt F (n - 1) Tryz.prog l #[.int .i64 (x.1 : Int), .int .u32 (rd xs (x.1 : Int))] W fun e W' =>
      (e = .returned (.bool true) ∧ J (pre ++ [x]) W' ∧ RearKeeps w0.heap.size Bs W W') ∨ (e = .returned (.bool false) ∧ Jx (pre ++ [x]) W'))
    (W : World) (hB : Below w0.heap.size w0 W) (hBs : Boxed W Bs 22 (.slice A xs.length c)) (h0 : J [] W) :
    CallsIn F n Tryz.prog 75 #[.func (.yield l) #[] #[], .pointer (some ⟨Bs, 0, none⟩)] W fun e W' => (∃ v, e = .returned v) ∧
      ((∃ ys, ys = rearL xs.length ∧ J ys W') ∨ (∃ pre, True ∧ Jx pre W')) := by
  have hmax : xs.length ≤ 9223372036854775807 := Kd.C_max hr
  refine callsIn_of_wp Tryz.func75 rfl h7 ?_ hro
  simp only [Tryz.ntmps75, List.size_toArray, List.length_cons, List.length_nil, Nat.reduceAdd, Nat.reduceSub, Array.replicate_succ, Array.replicate_zero, List.push_toArray, List.append_toArray, List.nil_append, List.cons_append]
  have hc0 := hBs.cell
  gi_wp2
  gi_loopw [3] (fun v wr => ∃ i : Int, -1 ≤ i ∧ i < xs.length ∧ v = .int .i64 i ∧ J ((rearL xs.length).take (((xs.length : Int) - 1 - i).toNat)) wr ∧ RearKeeps w0.heap.size Bs W wr)
    (fun v _ => ((intOf v) + 1).toNat)
  case atStart => exact ⟨(xs.length : Int) - 1, by omega, by omega, rfl, by rw [show ((xs.length : Int) - 1 - ((xs.length : Int) - 1)).toNat = 0 by omega]; exact h0, RearKeeps.refl _ _ _⟩
  case round =>
    obtain ⟨i, hi0, hi1, rfl, hJs, hkp⟩ := hrel
    by_cases hlt : 0 ≤ i
    · have hbx := (hkp.2 _ hBs).cell
      obtain ⟨ad, hA, hcell⟩ := Kd.at_int (Kd.cB9 hr (hB.trans hkp.1)) i hlt hi1
      obtain ⟨j, rfl⟩ : ∃ j : Nat, i = j := ⟨i.toNat, by omega⟩
      have hj : j < xs.length := by omega
      obtain ⟨fn, tmps, assign, body, hy, hR⟩ := hY _ (⟨j, hj⟩ : Fin xs.length) wr hJs (by rw [List.length_take, rearL_length]; omega)
      dsimp only at hy
      cases hA
      rw [Int.toNat_natCast] at hcell
      gi_wp2
      refine hR.mono ?_
      rintro e W3 (⟨rfl, hJ3, hk3⟩ | ⟨rfl, hJx3⟩)
      · gi_wp2
        go_roundw
        case rel => exact ⟨(j : Int) - 1, by omega, by omega, rfl, by rw [show ((xs.length : Int) - 1 - ((j : Int) - 1)).toNat = xs.length - j by omega, rearL_take _ _ hj]; rw [show ((xs.length : Int) - 1 - (j : Int)).toNat = xs.length - 1 - j by omega] at hJ3; exact hJ3, hkp.trans hk3⟩
        case measure => simp [intOf]
      · gi_wp2
        refine bodyPost_ret (results_none rfl _ _ _) rfl ?_
        exact ⟨⟨_, rfl⟩, .inr ⟨_, trivial, hJx3⟩⟩
    · obtain rfl : i = -1 := by omega
      have hd : decide ((0 : Int) ≤ -1) = false := by decide
      gi_wp2
      go_end0
      rw [show ((xs.length : Int) - 1 - (-1)).toNat = xs.length by omega, List.take_of_length_le (by rw [rearL_length]; omega)] at hJs
      exact ⟨⟨_, rfl⟩, .inl hJs⟩
set_option maxHeartbeats 1000000 in
theorem rear_in (F : Fence) (n : Nat) (h5 : F.fn 47) (hro : F.round = none) (a : Option Addr) (len cap : Nat) (w : World) :
    CallsIn F n Tryz.prog 47 #[.slice a len cap] w fun e w' => e = .returned (.func (.func 75) #[] #[.pointer (some ⟨w.heap.size, 0, none⟩)]) ∧ w' = w.alloc (.cells #[.slice a len cap] 22) := by
  refine callsIn_of_wp Tryz.func47 rfl h5 ?_ hro
  simp only [Tryz.ntmps47, List.size_toArray, List.length_cons, List.length_nil, Nat.reduceAdd, Nat.reduceSub, Array.replicate_succ, Array.replicate_zero, List.push_toArray, List.append_toArray, List.nil_append, List.cons_append]
  gi_wp2
  go_ret
  exact ⟨rfl, rfl⟩
theorem rear_stops (F : Fence) (n : Nat) (h7 : F.fn 75) (hro : F.round = none) (hn : 1 ≤ n) (Bs : Nat) (A : Option Addr) (c : Nat) (xs : List Int) (w0 w : World) (hr : Kd.C (Kd.int .u32) w0 A xs.length xs) (h0 : Below w0.heap.size w0 w) (hBs : Boxed w Bs 22 (.slice A xs.length c)) :
    SeqStopsK F n Tryz.prog 75 #[.pointer (some ⟨Bs, 0, none⟩)] (fun x : Fin xs.length => #[Value.int .i64 (x.1 : Int), Value.int .u32 (rd xs (x.1 : Int))]) (RearKeeps w0.heap.size Bs) (fun ys => ys = rearL xs.length) (fun _ => True) xs.length w := fun l J Jx W hW _ _ hY hj => by
  have hb : Boxed W Bs 22 (.slice A xs.length c) := (hW.block Bs hBs.lt).trans hBs
  exact rear1_in F n h7 hro hn l Bs A c xs w0 hr J Jx hY W (h0.trans (hW.mono h0.size)) hb hj
def grp1 (xs : List Int) (x : Fin xs.length) : List UInt8 :=
  if x.1 < xs.length - 1 then List.replicate (9 - (Lib.decDigits (rd xs (x.1 : Int)).toNat).length) 48 ++ Lib.decDigits (rd xs (x.1 : Int)).toNat else Lib.decDigits (rd xs (x.1 : Int)).toNat
def grps (xs : List Int) (pre : List (Fin xs.length)) : List UInt8 := (pre.map (grp1 xs)).flatten
theorem grps_snoc (xs : List Int) (pre : List (Fin xs.length)) (x : Fin xs.length) : grps xs (pre ++ [x]) = grps xs pre ++ grp1 xs x := by simp [grps]
theorem rd_fin (xs : List Int) (x : Fin xs.length) : rd xs (x.1 : Int) = xs[x.1] := by simp [rd, x.2]
theorem rd_dig {B : Nat} {xs : List Int} (h : DigB B xs) (x : Fin xs.length) : 0 ≤ rd xs (x.1 : Int) ∧ rd xs (x.1 : Int) < (B : Int) := by
  rw [rd_fin]
  exact h _ (List.getElem_mem x.2)
theorem dec9 {p : Nat} (h : p < 1000000000) : (Lib.decDigits p).length ≤ 9 ∧ padD 9 p = List.replicate (9 - (Lib.decDigits p).length) 48 ++ Lib.decDigits p := padD_dec 8 p h
theorem grp1_len {xs : List Int} (h : DigB 1000000000 xs) (x : Fin xs.length) : (grp1 xs x).length ≤ 9 := by
  have hx := rd_dig h x
  have := (dec9 (p := (rd xs (x.1 : Int)).toNat) (by omega)).1
  unfold grp1
  split
  · simp; omega
  · exact this
theorem grps_len {xs : List Int} (h : DigB 1000000000 xs) : ∀ pre : List (Fin xs.length), (grps xs pre).length ≤ 9 * pre.length
  | [] => by simp [grps]
  | x :: r => by
    have := grps_len h r
    have := grp1_len h x
    simp only [grps, List.map_cons, List.flatten_cons, List.length_append, List.length_cons] at *
    omega
theorem drop_rd (xs : List Int) (j : Nat) (h : j < xs.length) : xs.drop j = rd xs (j : Int) :: xs.drop (j + 1) := by
  rw [List.drop_eq_getElem_cons h, ← rd_fin xs ⟨j, h⟩]
theorem grps_rear {xs : List Int} (h : GoodB 1000000000 xs) : ∀ k, 1 ≤ k → k ≤ xs.length → grps xs ((rearL xs.length).take k) = Lib.decDigits (valB 1000000000 (xs.drop (xs.length - k)))
  | 0, h0, _ => absurd h0 (by decide)
  | k + 1, _, hk => by
    have hj : xs.length - 1 - k < xs.length := by omega
    have e1 := rearL_take xs.length (xs.length - 1 - k) hj
    rw [show xs.length - (xs.length - 1 - k) = k + 1 by omega, show xs.length - 1 - (xs.length - 1 - k) = k by omega] at e1
    rw [e1, grps_snoc, show xs.length - (k + 1) = xs.length - 1 - k by omega, drop_rd xs _ hj, valB_cons]
    have hx := rd_dig h.1 ⟨xs.length - 1 - k, hj⟩
    simp only at hx
    obtain ⟨p, hp⟩ : ∃ p, (rd xs ((xs.length - 1 - k : Nat) : Int)).toNat = p := ⟨_, rfl⟩
    have hp9 : p < 1000000000 := by omega
    rcases Nat.eq_zero_or_pos k with e | e
    · subst e
      have : xs.drop (xs.length - 1 - 0 + 1) = [] := by apply List.drop_eq_nil_of_le; omega
      rw [this, valB_nil]
      simp only [grp1, hp, List.take_zero, grps, List.map_nil, List.flatten_nil, List.nil_append]
      rw [if_neg (by omega)]
      simp
    · have ih := grps_rear h k e (by omega)
      have hv : 0 < valB 1000000000 (xs.drop (xs.length - k)) := by
        rcases Nat.eq_zero_or_pos (valB 1000000000 (xs.drop (xs.length - k))) with z | z
        · have hg : GoodB 1000000000 (xs.drop (xs.length - k)) := ⟨fun d hd => h.1 d (List.mem_of_mem_drop hd), by
            rw [List.getLast?_drop]; rw [if_neg (by omega)]; exact h.2⟩
          have := congrArg List.length (hg.zero z)
          simp at this
          omega
        · exact z
      rw [ih, show xs.length - 1 - k + 1 = xs.length - k by omega, hp]
      have e2 := dec_pad 9 _ p hv hp9
      rw [(dec9 hp9).2] at e2
      rw [show p + 1000000000 * valB 1000000000 (xs.drop (xs.length - k)) = valB 1000000000 (xs.drop (xs.length - k)) * 10 ^ 9 + p by omega, e2]
      simp only [grp1, hp]
      rw [if_pos (by omega)]
theorem grps_all {v : Nat} (h : 0 < v) {xs : List Int} (hx : xs = digB 1000000000 v) : grps xs (rearL xs.length) = Lib.decDigits v := by
  have hg := digB_good 1000000000 (by decide) v
  have hv := digB_val 1000000000 (by decide) v
  rw [← hx] at hg hv
  have hl : 1 ≤ xs.length := by
    rcases Nat.eq_zero_or_pos xs.length with e | e
    · rw [List.eq_nil_of_length_eq_zero e, valB_nil] at hv; omega
    · exact e
  have e := grps_rear hg xs.length hl (Nat.le_refl _)
  rw [List.take_of_length_le (by rw [rearL_length]; omega), Nat.sub_self, List.drop_zero, hv] at e
  exact e
theorem digB_step {B : Nat} (hB : 2 ≤ B) {v : Nat} (h : 0 < v) : digB B v = ((v % B : Nat) : Int) :: digB B (v / B) := by
  have hg := digB_good B hB (v / B)
  have hv := digB_val B hB (v / B)
  have hm : v % B < B := Nat.mod_lt _ (by omega)
  refine GoodB.inj (digB_good B hB v) ⟨DigB.cons (by omega) (by omega) hg.1, ?_⟩ ?_
  · cases hd : digB B (v / B) with
    | nil =>
      rw [hd, valB_nil] at hv
      have : v < B := by
        rcases Nat.lt_or_ge v B with c | c
        · exact c
        · have := Nat.div_pos c (by omega); omega
      rw [Nat.mod_eq_of_lt this]
      simp; omega
    | cons d r => rw [List.getLast?_cons_cons]; rw [← hd]; exact hg.2
  · rw [digB_val B hB, valB_cons, hv, Int.toNat_natCast]
    have := Nat.mod_add_div v B
    omega
end Go.Proofs.YthppjdmkinbccaaGreatDoor.Print

namespace Go.Proofs
open Go.RowKit Go.Shelf
shelf_lay Lays.n283 Nm 283 at Tryz as Tryz.laySmall
shelf_lay LaysM.n284 Nm 284 at Tryz as Tryz.layNumDigits
shelf_lay Lays.n285 Nm 285 at Tryz as Tryz.layBase10
end Go.Proofs
namespace Go.Proofs.YthppjdmkinbccaaGreatDoor.Print
open Go.RowKit Go.Shelf Go.Sort Go.Lib Go.Proofs.YthppjdmkinbccaaGreatDoorW.PrintWords Go.Proofs.YthppjdmkinbccaaGreatDoorW.PrintLast Go.Proofs.YthppjdmkinbccaaGreatDoorW.PrintMore
set_option linter.unusedVariables false
set_option linter.unusedSimpArgs false
def PowTab (w : World) : Prop := Lib.TabIs Tryz.prog w "internal/strconv.uint64pow10" .u64 Lib.pow10Tab
theorem PowTab.below {w0 w : World} (h : PowTab w0) (hb : Below w0.heap.size w0 w) : PowTab w := by
  unfold PowTab Lib.TabIs World.var? at h ⊢
  obtain ⟨g, hg, h⟩ := Option.bind_eq_some_iff.1 h
  rw [hg, Option.bind_some]
  cases hw : w0.heap[g]? with
  | none => rw [hw] at h; cases h
  | some o =>
    have hlt := (Array.getElem?_eq_some_iff.1 hw).1
    rw [hb.block g hlt, hw]
    rw [hw] at h; exact h
theorem below_grow (B : Nat) (w : World) (os : Array Obj) (hB : B ≤ w.heap.size) : Below B w (Sort.grow w os) := by
  refine ⟨rfl, rfl, rfl, by simp [Sort.grow], fun j hj => ?_⟩
  simp only [Sort.grow]
  rw [Array.getElem?_append_left (by omega)]
def decB (u : Nat) : ByteArray := ⟨(Lib.decDigits u).toArray⟩
set_option maxHeartbeats 6400000 in
set_option maxRecDepth 100000 in
theorem formatUint_in (u : Nat) (hu64 : u < 18446744073709551616) (w : World) (htab : PowTab w) :
    Calls Tryz.prog 76 #[.int .u64 (u : Int), .int .i64 10] w fun e w' => e = .returned (.string (decB u)) ∧ Below w.heap.size w w' := by
  by_cases hs : u < 100
  · have hd : decide ((u : Int) < 100) = true := decide_eq_true (by omega)
    go_enter Tryz.func76, Tryz.ntmps76
    go_wp2_with (go_at_call 99; refine (Any.internal_strconv_small Tryz.laySmall u hs _).mono ?_; rintro e w' ⟨rfl, rfl⟩)
    go_ret
    exact ⟨rfl, Below.refl _ _⟩
  · have hd : decide ((u : Int) < 100) = false := decide_eq_false (by omega)
    have hu1 : 1 ≤ u := by omega
    have hnd20 : Lib.nDigits u ≤ 20 := by have := Lib.numDigits_eq u hu1 hu64; split at this <;> omega
    have hal : Tryz.prog.arrayLen 128 = 24 := by kernel_rfl
    have hsl1 : ∀ W, (Instr.sliceAt 128 (.pointer (some ⟨w.heap.size, 0, none⟩)) none (some (.int .i64 (Lib.nDigits u : Int))) none).run Tryz.prog W = .ok (.slice (some ⟨w.heap.size, 0, none⟩) (Lib.nDigits u) 24) W := fun W => by
      rw [run_sliceAt_array_h W 128 ⟨w.heap.size, 0, none⟩ (by kernel_rfl) .i64 (Lib.nDigits u : Int) (by omega) (by rw [hal]; omega)]
      go_simp
    have hH0 := Lib.holds_zero0 w 128 (Lib.nDigits u) (by omega)
    have hfmt := Any.internal_strconv_formatBase10 Tryz.layBase10 w.heap.size 0 24 u (Array.replicate (Lib.nDigits u) 0) (w.alloc (.cells Lib.zeros24 128)) hH0 (by rw [Array.size_replicate]; exact Lib.lt_pow_nDigits u) hu64 (by rw [Array.size_replicate]; omega)
    rw [Array.size_replicate] at hfmt
    have HH0 := Lib.hid hH0
    clear hH0 hal
    go_enter Tryz.func76, Tryz.ntmps76
    go_wp2_with (first | (go_at_call 100; refine (Any.internal_strconv_numDigits Tryz.layNumDigits u hu1 hu64 _ (Lib.tabIs_alloc htab _)).mono ?_; rintro e w' ⟨rfl, rfl⟩))
    go_at_call 101
    refine hfmt.mono ?_
    rintro e w' ⟨rfl, k, v', dk, rfl, hF⟩
    have hcv : (convert 77 9 (.slice (some ⟨w.heap.size, 0, none⟩) (Lib.nDigits u) 24)).run Tryz.prog ((putRow (fun (b : UInt8) => Value.int .u8 (b.toNat : Int)) (w.alloc (.cells Lib.zeros24 128)) w.heap.size 0 dk).drewN k) = .ok (.string ⟨(Lib.decDigits u).toArray⟩) ((putRow (fun (b : UInt8) => Value.int .u8 (b.toNat : Int)) (w.alloc (.cells Lib.zeros24 128)) w.heap.size 0 dk).drewN k) := by
      have h := run_convert_bytes_back (P := Tryz.prog) ((putRow (fun (b : UInt8) => Value.int .u8 (b.toNat : Int)) (w.alloc (.cells Lib.zeros24 128)) w.heap.size 0 dk).drewN k) 77 9 5 ⟨w.heap.size, 0, none⟩ 24 (Lib.decDigits u) Tryz.underlying77 Tryz.underlying5 Tryz.underlying9 (fun j hj => by
        rw [Lib.row_is_numeral hF j hj, Lib.add_plain, World.cell?_drewN]
        exact cell?_putRow (fun (b : UInt8) => Value.int .u8 (b.toNat : Int)) _ w.heap.size 0 _ dk HH0.out (by rw [hF.size, Array.size_replicate]) j (by rw [hF.size]; rw [Lib.decDigits_length] at hj; exact hj))
      rw [Lib.decDigits_length] at h
      exact h
    go_wp2
    go_ret
    obtain ⟨os, eo⟩ := Lib.fin_at w (.cells Lib.zeros24 128) dk k 0
    exact ⟨rfl, by rw [eo]; exact (bN9 (Below.refl _ _) k).trans (below_grow _ _ _ (by simp))⟩
def strconv_FormatUint.f (a0 a1 : Int) : Option ByteArray := if a1 = 10 ∧ 0 ≤ a0 ∧ a0 < 18446744073709551616 then some (decB a0.toNat) else none
theorem strconv_FormatUint.calls (a0 a1 : Int) (r : ByteArray) (w : World) (ht : PowTab w) (h : strconv_FormatUint.f a0 a1 = some r) :
    Calls Tryz.prog 48 #[.int .u64 a0, .int .i64 a1] w fun e w' => e = .returned (.string r) ∧ Below w.heap.size w w' := by
  unfold strconv_FormatUint.f at h
  by_cases ha : a1 = 10 ∧ 0 ≤ a0 ∧ a0 < 18446744073709551616
  · rw [if_pos ha] at h
    obtain rfl := Option.some.inj h
    obtain ⟨rfl, h0, h1⟩ := ha
    obtain ⟨u, rfl⟩ : ∃ u : Nat, a0 = u := ⟨a0.toNat, by omega⟩
    have hF := formatUint_in u (by omega) w ht
    go_enter Tryz.func48, Tryz.ntmps48
    go_wp2_with (go_at_call 76; refine hF.mono ?_; rintro e w' ⟨rfl, hb⟩)
    go_ret
    exact ⟨by rw [Int.toNat_natCast]; rfl, hb⟩
  · rw [if_neg ha] at h; cases h
end Go.Proofs.YthppjdmkinbccaaGreatDoor.Print

namespace Go.Proofs
open Go.RowKit Go.Shelf
shelf_lay Lays.n105 Nm 105 at Tryz as Tryz.layRep
set_option maxRecDepth 100000 in
theorem Tryz.extraRep : Builder.Extra Tryz.prog Tryz.layRep_ren where
  sizeBuilder := by kernel_rfl
  liesBuilder := by kernel_rfl
  t5 := Tryz.underlying5
  a5 := Tryz.isAgg5
  z5 := Tryz.sizeOf5
  v5 := Tryz.zeroValue5
  infoByte := by kernel_rfl
  cellsByte := by kernel_rfl
  sizeByte := by kernel_rfl
  neB5 := by decide
end Go.Proofs
namespace Go.Proofs.YthppjdmkinbccaaGreatDoor.Print
open Go.RowKit Go.Shelf Go.Proofs.YthppjdmkinbccaaGreatDoorW.PrintWords Go.Proofs.YthppjdmkinbccaaGreatDoorW.PrintLast Go.Proofs.YthppjdmkinbccaaGreatDoorW.PrintMore Go.Proofs.YthppjdmkinbccaaGreatDoor.Base
attribute [local go_sem] Oper.semAt_some
set_option linter.unusedVariables false
set_option linter.unusedSimpArgs false
theorem rowF_own {W W' : World} {row : Option Nat} {B : Nat} {e : TypeId} {size : Nat} {v : Value} {n : Nat} {bs : List Value} (h : W.ownsRowF B e size v n bs) (hg : W.grownBy W' row) (hr : ∀ r, row = some r → ∃ o : Obj, W.heap[r]? = some o ∧ o.isCells = false) : W'.ownsRowF B e size v n bs := by
  refine h.kept hg ?_
  rcases h.2 with ⟨rfl, _⟩ | ⟨g, cap, cur, fz, rfl, _, hc, _⟩
  · left; simp [Value.ownBlock]
  · right
    intro ek
    obtain ⟨o, ho, hc2⟩ := hr g (by rw [← ek]; simp [Value.ownBlock])
    rw [hc] at ho; cases ho; cases hc2
theorem builder_own (T e : TypeId) (B b : Nat) {β : Type} (bs : β → List Value) : Own (fun s W => Lib.IsBuilderF T e B b (bs s) W) := by
  have key : ∀ (s : β) (p : Value) (W W' : World) (row : Option Nat), Lib.BuilderAtF T e B b p (bs s) W → W.grownBy W' row → (∀ r, row = some r → ∃ o : Obj, W.heap[r]? = some o ∧ o.isCells = false) → Lib.BuilderAtF T e B b p (bs s) W' := by
    rintro s p W W' row ⟨h0, v, hb, hv, hn⟩ hg hr
    refine ⟨h0, v, ?_, rowF_own hv hg hr, hn⟩
    refine (hg.block b (Array.getElem?_eq_some_iff.1 hb).1 (fun ek => ?_)).trans hb
    obtain ⟨o, ho, hc2⟩ := hr b ek.symm
    rw [hb] at ho; cases ho; cases hc2
  intro s W W' row h hg hr
  rcases h with h | h
  · exact .inl (key s _ W W' row h hg hr)
  · exact .inr (key s _ W W' row h hg hr)
theorem others_of_builder {T e : TypeId} {B b : Nat} {p : Value} {bs : List Value} {W W' : World} (h : Lib.BuilderAtF T e B b p bs W) (hs : W.heap.size ≤ W'.heap.size) (ho : Lib.OthersKept e (some b) W W') : KeepsOthers W W' :=
  ⟨hs, fun k o hk hc => ho k o hk (fun ek => by
    cases ek
    obtain ⟨_, v, hb, _⟩ := h
    rw [hb] at hk; cases hk; cases hc) (fun c fz e => by subst e; cases hc)⟩
theorem others_isBuilder {T e : TypeId} {B b : Nat} {bs : List Value} {W W' : World} (h : Lib.IsBuilderF T e B b bs W) (hs : W.heap.size ≤ W'.heap.size) (ho : Lib.OthersKept e (some b) W W') : KeepsOthers W W' :=
  h.elim (fun h => others_of_builder h hs ho) (fun h => others_of_builder h hs ho)
theorem builder_below {T e : TypeId} {B b : Nat} {bs : List Value} {W W' : World} (h : Lib.IsBuilderF T e B b bs W) (hb : Below W.heap.size W W') : Lib.IsBuilderF T e B b bs W' := by
  have mv : ∀ k o, W.heap[k]? = some o → W'.heap[k]? = some o := fun k o hk => (hb.block k (Array.getElem?_eq_some_iff.1 hk).1).trans hk
  have key : ∀ p, Lib.BuilderAtF T e B b p bs W → Lib.BuilderAtF T e B b p bs W' := by
    rintro p ⟨h0, v, hv, hr, hn⟩
    refine ⟨h0, v, mv _ _ hv, ⟨hr.1, ?_⟩, hn⟩
    rcases hr.2 with h | ⟨g, cap, cur, fz, e1, e2, e3, rest⟩
    · exact .inl h
    · exact .inr ⟨g, cap, cur, fz, e1, e2, mv _ _ e3, rest⟩
  exact h.imp (key _) (key _)
def Turn (n₀ Bs : Nat) (W W' : World) : Prop := RearKeeps n₀ Bs W W' ∧ KeepsOthers W W'
theorem Turn.trans {n₀ Bs : Nat} {A B C : World} (h : Turn n₀ Bs A B) (k : Turn n₀ Bs B C) : Turn n₀ Bs A C := ⟨h.1.trans k.1, h.2.trans k.2⟩
theorem Turn.of_below {n₀ Bs : Nat} {W W' : World} (hn : n₀ ≤ W.heap.size) (hb : Below W.heap.size W W') : Turn n₀ Bs W W' :=
  ⟨⟨hb.mono hn, fun v hv => (hb.block _ (Boxed.lt hv)).trans hv⟩, ⟨hb.size, fun k o hk _ => (hb.block k (Array.getElem?_eq_some_iff.1 hk).1).trans hk⟩⟩
theorem size_toList (s : ByteArray) : s.size = s.data.toList.length := by cases s; rfl
theorem write_calls (B b : Nat) (l : List UInt8) (s : ByteArray) (w : World) (h : Lib.IsBuilderF 79 5 B b (Lib.byteCells l) w) (hl : l.length + s.size ≤ 140737488355328) (hB : B ≤ w.heap.size) :
    Calls Tryz.prog 49 #[.pointer (some ⟨b, 0, none⟩), .string s] w fun e w' => e = .returned (.tuple #[.int .i64 s.size, .nilIface]) ∧ Lib.IsBuilderF 79 5 B b (Lib.byteCells (l ++ s.data.toList)) w' ∧ Below B w w' ∧ KeepsOthers w w' ∧ ∀ k v, k ≠ b → Boxed w k 22 v → Boxed w' k 22 v :=
  (Any.Builder_WriteString_k { Tryz.layRep with } Tryz.extraRep B b (Lib.byteCells l) s w h (by simpa [Lib.byteCells] using hl) hB).mono fun e w' ⟨he, h1, h2, h3⟩ =>
    ⟨he, .inr (by rw [show Lib.byteCells (l ++ s.data.toList) = Lib.byteCells l ++ Lib.strCells s from by simp [Lib.strCells, Lib.byteCells]]; exact h1), h2, others_isBuilder h h2.size h3, fun k v hk hv => h3 k _ hv (fun e => hk (by cases e; rfl)) (fun c fz e => by cases e)⟩
theorem string_calls (B b : Nat) (l : List UInt8) (w : World) (h : Lib.IsBuilderF 79 5 B b (Lib.byteCells l) w) (hB : B ≤ w.heap.size) :
    Calls Tryz.prog 51 #[.pointer (some ⟨b, 0, none⟩)] w fun e w' => e = .returned (.string ⟨l.toArray⟩) ∧ Below B w w' ∧ KeepsOthers w w' :=
  (Any.Builder_String_any_k { Tryz.layRep with } Tryz.extraRep B b l w h hB).mono fun e w' ⟨he, _, h2, h3⟩ => ⟨he, h2, others_isBuilder h h2.size h3⟩
theorem repeat_eq (c : Nat) : Lib.repeatL [48] c = List.replicate c (48 : UInt8) := by
  induction c with
  | zero => rfl
  | succ n ih => simp [Lib.repeatL, List.replicate_succ] at *; exact ih
theorem zeros_calls (c : Nat) (hc : c ≤ 9) (w : World) :
    Calls Tryz.prog 50 #[.string ⟨#[48]⟩, .int .i64 (c : Int)] w fun e w' => e = .returned (.string ⟨(List.replicate c (48 : UInt8)).toArray⟩) ∧ Below w.heap.size w w' := by
  have h := Any.strings_Repeat Tryz.layRep Tryz.extraRep ⟨#[48]⟩ c w (by omega) (by show 1 * c ≤ _; omega)
  rw [show (⟨#[48]⟩ : ByteArray).data.toList = [48] from rfl, repeat_eq] at h
  exact h
theorem trim2_calls (A : Option Addr) (c : Nat) (l : List Int) (w : World) (hr : Kd.C (Kd.int .u32) w A l.length l) (hc : l.length ≤ c) (hk : okN l = true) :
    Calls Tryz.prog 45 #[.slice A l.length c] w fun e w' => ∃ A' c', e = .returned (.slice A' (digB 4294967296 (valB 4294967296 l)).length c') ∧ (digB 4294967296 (valB 4294967296 l)).length ≤ c' ∧ Kd.C (Kd.int .u32) w' A' (digB 4294967296 (valB 4294967296 l)).length (digB 4294967296 (valB 4294967296 l)) ∧ Below w.heap.size w w' := by
  refine (nat_Trim.calls A c l _ w hr hc (trim_f hk)).mono ?_
  rw [trimL_eq (by decide) (okN_iff.1 hk).2]
  rintro e w' ⟨v, rfl, h, hb⟩
  obtain ⟨A', c', rfl, h1, h2⟩ := Kd.R_reads h
  exact ⟨A', c', rfl, h1, h2, hb⟩
theorem short2_calls (A : Option Addr) (c v : Nat) (l : List Int) (w : World) (hr : Kd.C (Kd.int .u32) w A l.length l) (hc : l.length ≤ c) (hl : l = digB 4294967296 v) (hn : l.length ≤ 1048576) :
    Calls Tryz.prog 46 #[.slice A l.length c, .int .u32 1000000000] w fun e w' => ∃ A' c', ∃ q : List Int, e = .returned (.tuple #[.slice A' q.length c', .int .u32 ((v % 1000000000 : Nat) : Int), .int .i64 0]) ∧ q = digB 4294967296 (v / 1000000000) ∧ q.length ≤ 1048576 ∧ q.length ≤ c' ∧ Kd.R (Kd.int .u32) 56 w' w.heap.size (fun _ => True) (.slice A' q.length c') q ∧ Below w.heap.size w w' := by
  have hk : okN l = true := okN_iff.2 ⟨hn, hl ▸ (digB_good 4294967296 (by decide) v).1⟩
  have hv : valB 4294967296 l = v := by rw [hl, digB_val 4294967296 (by decide)]
  refine (quo_ShortC.calls A c l 1000000000 (digB 4294967296 (v / 1000000000)) ((v % 1000000000 : Nat) : Int) 0 w hr hc ?_).mono ?_
  · unfold quo_ShortC.f
    rw [if_pos ⟨hk, by decide, by decide⟩, if_neg (by decide), hv]
    rfl
  rintro e w' ⟨u, rfl, h, hb⟩
  obtain ⟨A', c', rfl, h1, h2⟩ := Kd.R_reads h
  refine ⟨A', c', _, rfl, rfl, ?_, h1, h, hb⟩
  have := digB_len (B := 4294967296) (by decide) (v := v / 1000000000) (n := l.length) (by
    have := valB_lt 4294967296 l (okN_iff.1 hk).2
    rw [hv] at this
    exact Nat.lt_of_le_of_lt (Nat.div_le_self _ _) this)
  omega
theorem groups_len {l : List Int} (hk : okN l = true) : (digB 1000000000 (valB 4294967296 l)).length ≤ 2097152 := by
  refine digB_len (by decide) (Nat.lt_of_lt_of_le (valB_lt 4294967296 l (okN_iff.1 hk).2) ?_)
  calc 4294967296 ^ l.length ≤ (1000000000 ^ 2) ^ l.length := Nat.pow_le_pow_left (by decide) _
    _ = 1000000000 ^ (2 * l.length) := by rw [Nat.pow_mul]
    _ ≤ 1000000000 ^ 2097152 := Nat.pow_le_pow_right (by decide) (by have := (okN_iff.1 hk).1; omega)
def digits_Nat.f (l0 : List Int) : Option ByteArray := if okN l0 = true then some (decB (valB 4294967296 l0)) else none
set_option maxRecDepth 100000 in
set_option maxHeartbeats 16000000 in
theorem digits_Nat.calls (A0 : Option Addr) (c0 : Nat) (l0 : List Int) (r : ByteArray) (w : World) (ht : PowTab w) (hr0 : Kd.C (Kd.int .u32) w A0 l0.length l0) (hc0 : l0.length ≤ c0) (h : digits_Nat.f l0 = some r) :
    Calls Tryz.prog 23 #[.slice A0 l0.length c0] w fun e w' => e = .returned (.string r) ∧ Below w.heap.size w w' := by
  unfold digits_Nat.f at h
  have hk : okN l0 = true := by
    by_cases hk : okN l0 = true
    · exact hk
    · rw [if_neg hk] at h; cases h
  rw [if_pos hk] at h
  obtain rfl := Option.some.inj h
  have GL := groups_len hk
  have TRIM := fun W hr => trim2_calls A0 c0 l0 W hr hc0 hk
  have hk1 := okN_iff.1 hk
  have TL : (digB 4294967296 (valB 4294967296 l0)).length ≤ 1048576 := Nat.le_trans (digB_len (by decide) (valB_lt 4294967296 l0 hk1.2)) hk1.1
  obtain ⟨va, hva⟩ : ∃ va, valB 4294967296 l0 = va := ⟨_, rfl⟩
  rw [hva] at GL TRIM TL ⊢
  have HR0 := Aside0.mk hr0
  have HT := Aside0.mk ht
  have HGL := Aside0.mk GL
  have HTL := Aside0.mk TL
  obtain ⟨i0, hi, hz0, hz1, hz2⟩ := info_parts infoU32
  obtain ⟨x0, hx0⟩ : ∃ x0, digB 4294967296 va = x0 := ⟨_, rfl⟩
  rw [hx0] at TRIM HTL
  have HX := Aside0.mk hx0
  clear h hk hk1 hva hx0 hr0 ht GL TL hc0
  refine callsIn_wide (n := 8).1 ?_
  refine callsIn_of_wp_marks Tryz.func23 rfl trivial ?_ rfl
  refine wpIn_wide.2 ?_
  simp only [Tryz.ntmps23, List.size_toArray, List.length_cons, List.length_nil, Nat.reduceAdd, Nat.reduceSub, Array.replicate_succ, Array.replicate_zero, List.push_toArray, List.append_toArray, List.nil_append, List.cons_append]
  go_wp2_with (go_at_call 45; refine (TRIM _ (Kd.cA9 HR0.out _)).mono ?_; rintro e w1 ⟨A1, c1, rfl, hc1, hr1, hb1⟩; have HC1 := Aside0.mk hc1; have HR1 := Aside0.mk hr1; have HB1 := Aside0.mk hb1; clear hc1 hr1 hb1)
  go_loopg [0] (va + 1) (fun kq v0 wr => ∃ (A : Option Addr) (c : Nat) (xs ps : List Int) (v : Nat) (pv : Value), v0 = .slice A xs.length c ∧ Aside0 (v < kq) ∧ Aside0 (xs = digB 4294967296 v ∧ xs.length ≤ 1048576 ∧ xs.length ≤ c ∧ ps ++ digB 1000000000 v = digB 1000000000 va) ∧ Aside0 (Kd.C (Kd.int .u32) wr A xs.length xs) ∧ Aside0 (Boxed wr w.heap.size 22 pv ∧ wr.ownsRow w.heap.size 56 1 pv ps.length (ps.map (Value.int .u32))) ∧ Aside0 (Below w.heap.size w wr))
  case atStart =>
    refine ⟨A1, c1, x0, [], va, .slice none 0 0, rfl, ⟨Nat.lt_succ_self _⟩, ⟨HX.out.symm, HTL.out, HC1.out, rfl⟩, HR1, ⟨?_, World.ownsRow_nil _ _ _ _⟩, ⟨(bA9 (Below.refl _ _) _).trans (HB1.out.mono (by simp))⟩⟩
    exact (HB1.out.block _ (by simp)).trans (Boxed.new w 22 (.slice none 0 0))
  case round =>
    obtain ⟨A, c, xs, ps, v, pv, rfl, HK, HF, HC, HP, HB⟩ := hrel
    by_cases h0 : 0 < xs.length
    · have hd0 : decide (0 < (xs.length : Int)) = true := decide_eq_true (by omega)
      have SH := short2_calls A c v xs wr HC.out HF.out.2.2.1 HF.out.1 HF.out.2.1
      have hp1 := HP.out.1
      have PL := Aside0.mk (show ps.length ≤ 2097152 by have e := congrArg List.length HF.out.2.2.2; have := HGL.out; rw [List.length_append] at e; omega)
      have hvp : 0 < v := by
        rcases Nat.eq_zero_or_pos v with e | e
        · have e2 := HF.out.1; rw [e, digB_zero _ (by decide)] at e2; rw [e2] at h0; cases h0
        · exact e
      have VP := Aside0.mk hvp
      obtain ⟨y, hy⟩ : ∃ y : Int, ((v % 1000000000 : Nat) : Int) = y := ⟨_, rfl⟩
      rw [hy] at SH
      have hw : (Lit.int .u32 y).wf = true := by
        have := Nat.mod_lt v (show 0 < 1000000000 by decide)
        exact WalkArith.wf_u32 ⟨by omega, by omega⟩
      have HY := Aside0.mk hy
      clear hy hvp hp1
      have own2 := fun (W : World) (h : Below wr.heap.size wr W) => own_move HP.out.2 (fun k hk => h.block k (own_lt HP.out.2 k hk))
      go_wp2_with (first | (go_at_call 46; refine SH.mono ?_; rintro e w2 ⟨A2, c2, qs, rfl, hq, hql, hqc, hq3, hb2⟩; have bx : Boxed w2 w.heap.size 22 pv := (hb2.block _ HP.out.1.lt).trans HP.out.1; have bx1 := Boxed.cell bx; have bx2 := Boxed.frozen bx; have BX := Aside0.mk bx; have HQ := Aside0.mk (And.intro hq (And.intro hql hqc)); have HQ3 := Aside0.mk hq3; have HB2 := Aside0.mk hb2; have hrow := own2 w2 hb2; have bw : w.heap.size ≤ w2.heap.size := Nat.le_trans HB.out.size hb2.size; clear hq hql hqc hq3 hb2 bx) | (at_builtin; refine wpList_append_own _ rfl _ _ 22 rfl w.heap.size 56 i0 (.int .u32 0) 1 4 Tryz.underlying22 hi hz0 hz1 hz2 rfl (by decide) _ _ _ rfl (hrow.alloc _) ⟨w2.heap.size, 0, none⟩ 1 1 [.int .u32 y] rfl rfl (cell_one_new _ _ _) (by simp [Value.oneCell']) (by have := PL.out; unfold maxLen; omega) (by have := PL.out; omega) (by simp; omega) ?_; intro v' w3 hown' hgrow _; obtain ⟨g', cap', rfl⟩ := ownsRow_succ hown'; obtain ⟨hv1, hv2, hr2, hk2, hb3⟩ := BX.out.appended (by decide) hrow bw (Nat.le_refl _) hown' hgrow; have hc1 := hv1.cell; have hf1 := hv1.frozen; have GR := Aside0.mk hgrow; have V2 := Aside0.mk hv2; have R2 := Aside0.mk hr2; have B3 := Aside0.mk hb3; clear hgrow hv2 hr2 hb3))
      cases gk with
      | zero => exact absurd HK.out (Nat.not_lt_zero _)
      | succ k1 =>
        go_roundg k1
        case measure => omega
        case rel =>
          refine ⟨A2, c2, qs, ps ++ [y], v / 1000000000, _, rfl, ⟨?_⟩, ⟨HQ.out.1, HQ.out.2.1, HQ.out.2.2, ?_⟩, ⟨?_⟩, ⟨V2.out, ?_⟩, ⟨(HB.out.trans (HB2.out.mono HB.out.size)).trans B3.out⟩⟩
          · have h1 := HK.out
            have h2 := Nat.div_lt_self VP.out (show 1 < 1000000000 by decide)
            omega
          · have h1 := HF.out.2.2.2
            rw [digB_step (by decide) VP.out, HY.out] at h1
            rw [List.append_assoc]
            exact h1
          · have r1 := Kd.rA9 (Kd.R_bound HQ3.out) (.cells #[.int .u32 y] 56)
            have r3 := Kd.R_grown r1 GR.out (fun k hk e => by have h1 := own_lt HP.out.2 k e.symm; have h2 := hk.2.1; omega)
            exact (Kd.rR9 (Kd.R_far r3 (p := ⟨w.heap.size, 0, none⟩) (fun k hk => by have h1 := hk.2.1; have h2 := HP.out.1.lt; show k ≠ w.heap.size; omega) _)).2.2
          · have h := R2.out
            simpa using h
    · have hd0 : decide (0 < (xs.length : Int)) = false := decide_eq_false (by omega)
      have hv0 : v = 0 := by
        have e1 := HF.out.1
        rw [List.eq_nil_of_length_eq_zero (by omega : xs.length = 0)] at e1
        have e2 := digB_val 4294967296 (by decide) v
        rw [← e1, valB_nil] at e2
        exact e2.symm
      have hps : ps = digB 1000000000 va := by
        have e := HF.out.2.2.2
        rw [hv0, digB_zero _ (by decide), List.append_nil] at e
        exact e
      have rR : Kd.R (Kd.int .u32) 56 wr w.heap.size (fun _ => True) pv ps := Kd.R_of_own (by simpa [nums, encs] using HP.out.2) (fun _ _ => trivial)
      obtain ⟨Ap, cp, rfl, hpc, hpC⟩ := Kd.R_reads rR
      have HPS := Aside0.mk hps
      have HPC := Aside0.mk hpc
      have HPR := Aside0.mk hpC
      have hc3 := HP.out.1.cell
      have hf3 := HP.out.1.frozen
      clear hps hpc hpC rR hv0
      by_cases hz : va = 0
      · have hn : ps.length = 0 := by rw [HPS.out, hz, digB_zero _ (by decide)]; rfl
        have hn2 : ((ps.length : Int) == 0) = true := by rw [hn]; rfl
        go_wp2
        refine ⟨_, results_tmp rfl _ _ _, ?_, HB.out⟩
        rw [hz]
        unfold decB
        rw [dec_small (by decide)]
        rfl
      · have hn : 0 < ps.length := by
          rcases Nat.eq_zero_or_pos ps.length with e | e
          · have e2 := digB_val 1000000000 (by decide) va
            rw [← HPS.out, List.eq_nil_of_length_eq_zero e, valB_nil] at e2
            exact absurd e2.symm hz
          · exact e
        have hn2 : ((ps.length : Int) == 0) = false := by rw [beq_eq_false_iff_ne]; omega
        have hb4 := HP.out.1.alloc (.cells #[.pointer none, .slice none 0 0] 79)
        have hc4 := hb4.cell
        have hf4 := hb4.frozen
        have HPB := Aside0.mk HP.out.1
        clear hb4
        go_wp2_with (go_at_call 47; refine (callsIn_wide.1 (rear_in Fence.wide 8 trivial rfl Ap ps.length cp _)).mono ?_; rintro e w' ⟨rfl, rfl⟩)
        have bU : Lib.IsBuilderF 79 5 wr.heap.size wr.heap.size (Lib.byteCells (grps ps [])) ((wr.alloc (.cells #[.pointer none, .slice none 0 0] 79)).alloc (.cells #[.slice Ap ps.length cp] 22)) :=
          (builder_own _ _ _ _ (fun _ : Unit => Lib.byteCells (grps ps []))).alloc (s := ()) _ (Lib.IsBuilderF.of (.inl ⟨Nat.le_refl _, .slice none 0 0, heap_alloc_new wr _, World.ownsRow_nil _ _ _ _, by simp [Value.ownBlock]⟩))
        have bS0 := Boxed.new (wr.alloc (.cells #[.pointer none, .slice none 0 0] 79)) 22 (.slice Ap ps.length cp)
        rw [World.size_alloc] at bS0
        have hB0 : Below wr.heap.size wr ((wr.alloc (.cells #[.pointer none, .slice none 0 0] 79)).alloc (.cells #[.slice Ap ps.length cp] 22)) := bA9 (bA9 (Below.refl _ _) _) _
        obtain ⟨W0, hW0⟩ : ∃ W0, ((wr.alloc (.cells #[.pointer none, .slice none 0 0] 79)).alloc (.cells #[.slice Ap ps.length cp] 22)) = W0 := ⟨_, rfl⟩
        have hsz : W0.heap.size = wr.heap.size + 2 := by rw [← hW0]; simp
        rw [hW0] at bU bS0 hB0 ⊢
        have hgd : DigB 1000000000 ps := by rw [HPS.out]; exact (digB_good 1000000000 (by decide) va).1
        have LEN := Aside0.mk (show ps.length ≤ 2097152 by rw [HPS.out]; exact HGL.out)
        have HGD := Aside0.mk hgd
        have HN := Aside0.mk hn
        clear hW0 hgd hc4 hf4 hc3 hf3 hn
        refine (wpIn_wide (n := 8)).1 ?_
        refine wpIn_rangeFunc_ownG rfl (by omega) (gf := 75) (lb := #[.pointer (some ⟨wr.heap.size + 1, 0, none⟩)]) rfl trivial (enters_of Tryz.func75 (by kernel_rfl) rfl)
          (rear_stops Fence.wide 7 trivial rfl (by omega) (wr.heap.size + 1) Ap cp ps wr W0 HPR.out hB0 bS0) RearKeeps.trans (rearKeeps_b hB0.size) (Below.refl _ _) (fun _ => rfl)
          (fun pre W => Lib.IsBuilderF 79 5 wr.heap.size wr.heap.size (Lib.byteCells (grps ps pre)) W ∧ Below wr.heap.size wr W)
          (fun _ _ _ => False)
          (OwnFrom.and ((builder_own _ _ _ _ _).from _) (ownFrom_below (Nat.le_refl _) hB0.size))
          (fun _ _ _ _ _ hs _ _ => hs)
          ⟨bU, hB0⟩
          (fun x => { tmps := #[.slice A xs.length c, undef, .string ⟨#[]⟩, .pointer (some ⟨w.heap.size, 0, none⟩), u4, u5, u6, .pointer (some ⟨wr.heap.size, 0, none⟩), .int .i64 (x.1 : Int), .int .u32 (rd ps (x.1 : Int)), undef, .slice A0 l0.length c0, .slice A1 x0.length c1, .slice A xs.length c, .int .i64 xs.length, .bool false, u16, u17, u18, u19, u20, u21, u22, u23, u24, u25, u26, .slice Ap ps.length cp, .int .i64 ps.length, .bool false, .slice Ap ps.length cp, .func (.func 75) #[] #[.pointer (some ⟨wr.heap.size + 1, 0, none⟩)], .int .i64 (x.1 : Int), .int .u32 (rd ps (x.1 : Int)), undef, undef, undef, undef, undef, undef, undef, undef, undef, undef, undef, undef, undef, undef, undef, undef], defers := [] }) ?assign ?body ?done ?stop
        case assign =>
          intro l x W K hK
          gi_wp2
          exact hK
        case body =>
          rintro l pre x W ⟨hU, hB⟩ _
          have hxr := rd_dig HGD.out x
          obtain ⟨y, hy⟩ : ∃ y : Nat, rd ps (x.1 : Int) = (y : Int) := ⟨(rd ps (x.1 : Int)).toNat, by omega⟩
          have hy9 : y < 1000000000 := by omega
          have hbx : Boxed W w.heap.size 22 (.slice Ap ps.length cp) := (hB.block _ HPB.out.lt).trans HPB.out
          have hbx1 := Boxed.cell hbx
          have hbx2 := Boxed.frozen hbx
          obtain ⟨fm, hfm⟩ : ∃ fm, decB y = fm := ⟨_, rfl⟩
          have FM := fun (W : World) (hb : Below wr.heap.size wr W) => strconv_FormatUint.calls (y : Int) 10 fm W (PowTab.below HT.out ((HB.out.trans (hb.mono HB.out.size)))) (by unfold strconv_FormatUint.f; rw [if_pos ⟨rfl, by omega, by omega⟩, Int.toNat_natCast, hfm])
          have hyw : IntKind.u64.wrap (y : Int) = (y : Int) := by rw [IntKind.wrap_u64]; omega
          have hgl := dec9 hy9
          have hfl : fm.size ≤ 9 := by rw [← hfm, size_toList]; simpa [decB] using hgl.1
          have FMi := FM W hB
          have hgr := grps_len HGD.out pre
          by_cases hx : x.1 < ps.length - 1
          · have hxl : decide ((x.1 : Int) < wrap64 ((ps.length : Int) - 1)) = true := decide_eq_true (by have := LEN.out; unfold wrap64; omega)
            have ZR := fun W1 => zeros_calls (9 - fm.size) (by omega) W1
            rw [show (((9 - fm.size : Nat) : Nat) : Int) = wrap64 (9 - (fm.size : Int)) from by unfold wrap64; omega] at ZR
            obtain ⟨zs, hzs⟩ : ∃ zs : ByteArray, ⟨(List.replicate (9 - fm.size) (48 : UInt8)).toArray⟩ = zs := ⟨_, rfl⟩
            rw [hzs] at ZR
            have hzl : zs.data.toList = List.replicate (9 - fm.size) (48 : UInt8) := by rw [← hzs]
            have hz9 : zs.size ≤ 9 := by rw [size_toList, hzl]; simp
            have WR := fun W1 (hb : Below W.heap.size W W1) => write_calls wr.heap.size wr.heap.size (grps ps pre) zs W1 (builder_below hU hb) (by have := LEN.out; omega) (Nat.le_trans hB.size hb.size)
            have WR2 := fun W1 hu (hb : wr.heap.size ≤ W1.heap.size) => write_calls wr.heap.size wr.heap.size (grps ps pre ++ zs.data.toList) fm W1 hu (by have := LEN.out; rw [List.length_append, ← size_toList]; omega) hb
            have HZL := Aside0.mk hzl
            clear hzs hzl hz9
            have BX := Aside0.mk hbx
            have HU := Aside0.mk hU
            have HBB := Aside0.mk hB
            have HFL := Aside0.mk hfl
            have HGL2 := Aside0.mk hgl
            have HFM := Aside0.mk hfm
            have HYW := Aside0.mk hyw
            have HX2 := Aside0.mk hx
            have HY := Aside0.mk hy
            have HSZ := Aside0.mk hsz
            rw [hy]
            clear hbx hU hB hfl hgl hfm hyw hx hxr hy hsz FM
            gi_wp2_with (first | (refine ⟨trivial, ?_⟩; gi_at_call 48; (with_reducible refine (CallsIn.inRound l (callsIn_wide.2 FMi)).mono ?_); rintro e W1 ⟨rfl, hb1⟩; have hc1 := Boxed.cell ((hb1.block _ BX.out.lt).trans BX.out); have hf1 := Boxed.frozen ((hb1.block _ BX.out.lt).trans BX.out); have B1 := Aside0.mk hb1; clear hb1) | (refine ⟨trivial, ?_⟩; gi_at_call 50; (with_reducible refine (CallsIn.inRound l (callsIn_wide.2 (ZR W1))).mono ?_); rintro e W2 ⟨rfl, hb2⟩; have B2 := Aside0.mk (B1.out.trans (hb2.mono B1.out.size)); clear hb2) | (refine ⟨trivial, ?_⟩; gi_at_call 49; (with_reducible refine (CallsIn.inRound l (callsIn_wide.2 (WR W2 B2.out))).mono ?_); rintro e W3 ⟨rfl, hu3, hb3, hk3, hx3⟩; have sz3 := Nat.le_trans (Nat.le_trans HBB.out.size B2.out.size) hb3.size) | (refine ⟨trivial, ?_⟩; gi_at_call 49; (with_reducible refine (CallsIn.inRound l (callsIn_wide.2 (WR2 W3 hu3 sz3))).mono ?_); rintro e W4 ⟨rfl, hu4, hb4, hk4, hx4⟩))
            have T : Turn wr.heap.size (wr.heap.size + 1) W W4 := ((Turn.of_below HBB.out.size B2.out).trans ⟨⟨hb3, fun v hv => hx3 _ _ (by omega) hv⟩, hk3⟩).trans ⟨⟨hb4, fun v hv => hx4 _ _ (by omega) hv⟩, hk4⟩
            refine ⟨T.2.from _, T.1, ⟨?_, HBB.out.trans T.1.1⟩⟩
            rw [grps_snoc]
            have e : grp1 ps x = List.replicate (9 - fm.size) (48 : UInt8) ++ fm.data.toList := by
              unfold grp1
              rw [if_pos HX2.out, HY.out, Int.toNat_natCast, ← HFM.out, size_toList]
              simp [decB]
            rw [e, ← HZL.out, ← List.append_assoc]
            exact hu4
          · have hxl : decide ((x.1 : Int) < wrap64 ((ps.length : Int) - 1)) = false := decide_eq_false (by have := LEN.out; unfold wrap64; omega)
            have WR := fun W1 (hb : Below W.heap.size W W1) => write_calls wr.heap.size wr.heap.size (grps ps pre) fm W1 (builder_below hU hb) (by have := LEN.out; omega) (Nat.le_trans hB.size hb.size)
            have BX := Aside0.mk hbx
            have HU := Aside0.mk hU
            have HBB := Aside0.mk hB
            have HFL := Aside0.mk hfl
            have HGL2 := Aside0.mk hgl
            have HFM := Aside0.mk hfm
            have HYW := Aside0.mk hyw
            have HX2 := Aside0.mk hx
            have HY := Aside0.mk hy
            have HSZ := Aside0.mk hsz
            rw [hy]
            clear hbx hU hB hfl hgl hfm hyw hx hxr hy hsz FM
            gi_wp2_with (first | (refine ⟨trivial, ?_⟩; gi_at_call 48; (with_reducible refine (CallsIn.inRound l (callsIn_wide.2 FMi)).mono ?_); rintro e W1 ⟨rfl, hb1⟩; have hc1 := Boxed.cell ((hb1.block _ BX.out.lt).trans BX.out); have hf1 := Boxed.frozen ((hb1.block _ BX.out.lt).trans BX.out); have B1 := Aside0.mk hb1; clear hb1) | (refine ⟨trivial, ?_⟩; gi_at_call 49; (with_reducible refine (CallsIn.inRound l (callsIn_wide.2 (WR W1 B1.out))).mono ?_); rintro e W2 ⟨rfl, hu2, hb2, hk2, hx2⟩))
            have T : Turn wr.heap.size (wr.heap.size + 1) W W2 := (Turn.of_below HBB.out.size B1.out).trans ⟨⟨hb2, fun v hv => hx2 _ _ (by omega) hv⟩, hk2⟩
            refine ⟨T.2.from _, T.1, ⟨?_, HBB.out.trans T.1.1⟩⟩
            rw [grps_snoc]
            have e : grp1 ps x = fm.data.toList := by
              unfold grp1
              rw [if_neg HX2.out, HY.out, Int.toNat_natCast, ← HFM.out]
              rfl
            rw [e]
            exact hu2
        case done =>
          rintro D ys W hD rfl ⟨hU, hB⟩ hK
          have hva : 0 < va := Nat.pos_of_ne_zero hz
          rw [grps_all hva HPS.out] at hU
          have SC := string_calls wr.heap.size wr.heap.size (Lib.decDigits va) W hU hB.size
          have HK := Aside0.mk hK
          have HB2 := Aside0.mk (HB.out.trans (hB.mono HB.out.size))
          have HD := Aside0.mk (show w.heap.size ≤ D by have := HB.out.size; omega)
          have HBS := Aside0.mk hB.size
          have HBW := Aside0.mk HB.out.size
          clear hK hU hB
          go_wp2_with (go_at_call 51; refine SC.mono ?_; rintro e W2 ⟨rfl, hb2, hk2⟩; have B2 := Aside0.mk hb2; have HK2 := Aside0.mk (hk2.same _ _ HK.out rfl); clear hb2 hk2)
          refine ⟨by simp, .inl ⟨_, _, rfl, run_takeDeferred HK2.out, ?_⟩⟩
          refine ⟨_, results_tmp rfl _ _ _, rfl, ?_⟩
          have h1 := HB2.out.trans (B2.out.mono HBW.out)
          exact h1.trans (belowK_b (w := w) (Nat.le_refl _) W2 D _ _ HD.out HK2.out rfl rfl)
        case stop =>
          rintro D c pre W _ _ h _
          exact h.elim
end Go.Proofs.YthppjdmkinbccaaGreatDoor.Print

namespace Go.Proofs
open Go.RowKit Go.Shelf
shelf_lay LaysGw.n17 Ggw 17 at Tryz as Tryz.layContFunc
end Go.Proofs
namespace Go.Proofs.YthppjdmkinbccaaGreatDoor.Print
open Go.RowKit Go.Shelf Go.Proofs.YthppjdmkinbccaaGreatDoorW.PrintWords Go.Proofs.YthppjdmkinbccaaGreatDoorW.PrintLast Go.Proofs.YthppjdmkinbccaaGreatDoorW.PrintMore Go.Proofs.YthppjdmkinbccaaGreatDoor.Base
set_option linter.unusedVariables false
set_option linter.unusedSimpArgs false
def isDig (c : UInt8) : Bool := decide (48 ≤ c.toNat) && decide (c.toNat ≤ 57)
def natB (l : List UInt8) : Bool := !(l == [] || (decide (1 < l.length) && l.head? == some 48)) && l.all isDig
theorem natB_iff {l : List UInt8} : natB l = true ↔ NatL l := by
  unfold natB NatL DigL
  cases l with
  | nil => simp
  | cons c r =>
    cases r with
    | nil => simp [isDig]
    | cons d r2 =>
      simp [isDig]
      constructor
      · rintro ⟨h1, h2⟩; exact ⟨h2, fun e => by simp_all⟩
      · rintro ⟨h2, h1⟩; exact ⟨fun e => by simp_all, h2⟩
def badR (r : Nat) : Bool := decide (r < 48) || decide (57 < r)
theorem bad_at (w : World) : PredAt Tryz.prog 64 #[] encR badR w := fun W r _ => by
  unfold FnGives
  by_cases h1 : r < 48 <;> by_cases h2 : 57 < r
  all_goals
    have z1 : (r : Int) < 48 ↔ r < 48 := by omega
    have z2 : (57 : Int) < (r : Int) ↔ 57 < r := by omega
    have d1 : decide ((r : Int) < 48) = decide (r < 48) := by simp [z1]
    have d2 : decide ((57 : Int) < (r : Int)) = decide (57 < r) := by simp [z2]
    go_enter Tryz.func64, Tryz.ntmps64
    go_wp2
    all_goals first | (exfalso; omega) | (go_ret; exact ⟨by simp [badR, h1, h2], 0, rfl⟩)
theorem drop_at (s : ByteArray) (pos : Nat) (h : pos < s.size) : s.data.toList.drop pos = s[pos]'h :: s.data.toList.drop (pos + 1) := by
  have hl : pos < s.data.toList.length := by simpa using h
  rw [List.drop_eq_getElem_cons hl]
  rfl
theorem bad_from (s : ByteArray) : ∀ (f pos : Nat), s.size ≤ pos + f → (decide (0 ≤ Lib.idxFuncFrom badR true s f pos)) = !((s.data.toList.drop pos).all isDig)
  | 0, pos, h => by
    have : s.data.toList.drop pos = [] := by apply List.drop_eq_nil_of_le; simpa using h
    rw [this]; rfl
  | f + 1, pos, h => by
    unfold Lib.idxFuncFrom
    by_cases hp : pos < s.size
    · rw [if_pos hp, drop_at s pos hp, List.all_cons]
      by_cases ha : (s[pos]'hp).toNat < 128
      · rw [Go.decode_ascii s pos hp ha]
        by_cases hb : isDig (s[pos]'hp) = true
        · rw [if_neg (by unfold isDig at hb; unfold badR; simp at hb ⊢; omega), hb, Bool.true_and]
          exact bad_from s f (pos + 1) (by omega)
        · rw [if_pos (by unfold isDig at hb; unfold badR; simp at hb ⊢; omega)]
          have : isDig (s[pos]'hp) = false := by simpa using hb
          rw [this]; simp
      · have h8 := (Go.decode_high s pos hp (by omega)).1
        rw [if_pos (by unfold badR; simp; omega)]
        have : isDig (s[pos]'hp) = false := by unfold isDig; simp; omega
        rw [this]; simp
    · rw [if_neg hp]
      have : s.data.toList.drop pos = [] := by apply List.drop_eq_nil_of_le; simpa using Nat.le_of_not_lt hp
      rw [this]; rfl
theorem bad_law (s : ByteArray) : decide (0 ≤ Lib.idxFunc badR true s) = !(s.data.toList.all isDig) := by
  have h := bad_from s s.size 0 (by omega)
  rw [List.drop_zero] at h
  exact h
theorem contf_calls (s : ByteArray) (w : World) :
    Calls Tryz.prog 63 #[.string s, .func (.func 64) #[] #[]] w fun e w' => e = .returned (.bool (!(s.data.toList.all isDig))) ∧ Below w.heap.size w w' := by
  have h := Any.strings_ContainsFunc Tryz.layContFunc 64 #[] (enters_of Tryz.func64 (by kernel_rfl) rfl) badR s w (bad_at w)
  rw [bad_law] at h
  exact h
def digits_natural.f (a0 : ByteArray) : Option Bool := some (natB a0.data.toList)
set_option maxRecDepth 100000 in
set_option maxHeartbeats 4000000 in
theorem digits_natural.calls (a0 : ByteArray) (r : Bool) (w : World) (h : digits_natural.f a0 = some r) :
    Calls Tryz.prog 34 #[.string a0] w fun e w' => e = .returned (.bool r) ∧ Below w.heap.size w w' := by
  unfold digits_natural.f at h
  obtain rfl := Option.some.inj h
  clear h
  have CF := fun W => contf_calls a0 W
  have hb : ∀ b0 : Bool, b0 = natB a0.data.toList → Calls Tryz.prog 34 #[.string a0] w fun e w' => e = .returned (.bool b0) ∧ Below w.heap.size w w' := by
    intro b0 hb0
    obtain ⟨q, hq⟩ : ∃ q, a0.data.toList.all isDig = q := ⟨_, rfl⟩
    rw [hq] at CF
    have HQ := Aside0.mk hq
    have HB := Aside0.mk hb0
    clear hb0 hq
    by_cases h0 : a0 = ⟨#[]⟩
    · have c1 : decide (a0 = ⟨#[]⟩) = true := decide_eq_true h0
      go_enter Tryz.func34, Tryz.ntmps34
      go_wp2
      go_ret
      exact ⟨by rw [HB.out, h0]; rfl, Below.refl _ _⟩
    · obtain ⟨c, r, hl⟩ : ∃ c r, a0.data.toList = c :: r := by
        cases e : a0.data.toList with
        | nil => exact absurd (by cases a0 with | mk d => congr; exact Array.toList_eq_nil_iff.1 e) h0
        | cons c r => exact ⟨c, r, rfl⟩
      have hsz : a0.size = r.length + 1 := by
        have : a0.data.toList.length = a0.size := by cases a0; rfl
        rw [← this, hl]; rfl
      have c1 : a0.toList.isEmpty = false := by rw [ByteArray.toList_eq, hl]; rfl
      have hp0 : 0 < a0.size := by omega
      have hc : a0[0]'hp0 = c := by
        have h := drop_at a0 0 hp0
        rw [List.drop_zero, hl] at h
        exact (List.cons.inj h).1.symm
      have HL := Aside0.mk hl
      have HSZ := Aside0.mk hsz
      clear h0 hl
      by_cases h1 : 1 < a0.size
      · have c2 : decide (1 < (a0.size : Int)) = true := decide_eq_true (by omega)
        by_cases h48 : c = 48
        · have c3 : ((((a0[0]'hp0).toNat : Nat) : Int) == 48) = true := by rw [hc, h48]; rfl
          have H48 := Aside0.mk h48
          clear hc h48 hsz
          go_enter Tryz.func34, Tryz.ntmps34
          go_wp2_with (go_at_call 63; refine (CF _).mono ?_; rintro e w' ⟨rfl, hb1⟩; have HB1 := Aside0.mk hb1; clear hb1)
          go_ret
          refine ⟨?_, Below.refl _ _⟩
          rw [HB.out, HL.out]
          have := HSZ.out
          unfold natB
          rw [H48.out]
          simp
          intro e
          exfalso
          rw [e] at this
          simp at this
          omega
        · have c3 : ((((a0[0]'hp0).toNat : Nat) : Int) == 48) = false := by
            rw [hc, beq_eq_false_iff_ne]
            intro e
            apply h48
            apply UInt8.toNat_inj.1
            exact Int.ofNat.inj e
          have H48 := Aside0.mk h48
          clear hc h48 hsz
          go_enter Tryz.func34, Tryz.ntmps34
          go_wp2_with (go_at_call 63; refine (CF _).mono ?_; rintro e w' ⟨rfl, hb1⟩; have HB1 := Aside0.mk hb1; clear hb1)
          go_ret
          refine ⟨?_, HB1.out⟩
          rw [HB.out]
          unfold natB
          rw [HQ.out, HL.out]
          simp [H48.out]
      · have c2 : decide (1 < (a0.size : Int)) = false := decide_eq_false (by omega)
        clear hc hsz
        go_enter Tryz.func34, Tryz.ntmps34
        go_wp2_with (go_at_call 63; refine (CF _).mono ?_; rintro e w' ⟨rfl, hb1⟩; have HB1 := Aside0.mk hb1; clear hb1)
        go_ret
        refine ⟨?_, HB1.out⟩
        rw [HB.out]
        unfold natB
        rw [HQ.out, HL.out]
        have : r.length = 0 := by have := HSZ.out; omega
        rw [List.eq_nil_of_length_eq_zero this]
        simp
  exact hb _ rfl
end Go.Proofs.YthppjdmkinbccaaGreatDoor.Print

namespace Go.Proofs
open Go.RowKit Go.Shelf
shelf_lay LaysPu.n14 Mp 14 at Tryz as Tryz.layParseUint
end Go.Proofs
namespace Go.Proofs.YthppjdmkinbccaaGreatDoor.Print
open Go.RowKit Go.Shelf Go.Proofs.YthppjdmkinbccaaGreatDoorW.PrintWords Go.Proofs.YthppjdmkinbccaaGreatDoorW.PrintLast Go.Proofs.YthppjdmkinbccaaGreatDoorW.PrintMore Go.Proofs.YthppjdmkinbccaaGreatDoor.Base
set_option linter.unusedVariables false
set_option linter.unusedSimpArgs false
def numF (acc : Nat) (l : List UInt8) : Nat := l.foldl (fun a c => 10 * a + (c.toNat - 48)) acc
theorem numF_eq : ∀ (l : List UInt8) (acc : Nat), numF acc l = acc * 10 ^ l.length + numD l
  | [], acc => by simp [numF, numD]
  | c :: r, acc => by
    have e1 : numF acc (c :: r) = numF (10 * acc + (c.toNat - 48)) r := rfl
    have e2 : numD (c :: r) = numF (10 * 0 + (c.toNat - 48)) r := rfl
    rw [e1, e2, numF_eq r, numF_eq r, List.length_cons, Nat.pow_succ]
    rw [Nat.add_mul, Nat.mul_zero, Nat.zero_add, Nat.add_assoc]
    congr 1
    rw [Nat.mul_comm 10 acc, Nat.mul_assoc, Nat.mul_comm 10]
theorem numD_append (a b : List UInt8) : numD (a ++ b) = numD a * 10 ^ b.length + numD b := by
  rw [← numF_eq]
  simp [numD, numF, List.foldl_append]
theorem numD_lt : ∀ (l : List UInt8), DigL l → numD l < 10 ^ l.length
  | [], _ => by simp [numD]
  | c :: r, h => by
    have hc := h c (List.mem_cons_self ..)
    have ih := numD_lt r (fun x hx => h x (List.mem_cons_of_mem _ hx))
    have e2 : numD (c :: r) = numF (10 * 0 + (c.toNat - 48)) r := rfl
    rw [e2, numF_eq, List.length_cons, Nat.pow_succ, Nat.mul_zero, Nat.zero_add]
    have : (c.toNat - 48) * 10 ^ r.length ≤ 9 * 10 ^ r.length := Nat.mul_le_mul_right _ (by omega)
    omega
theorem parse_from : ∀ (l : List UInt8) (acc : Nat), DigL l → (acc + 1) * 10 ^ l.length ≤ 1000000000 → Lib.parseUintM 4294967295 acc l = .ok (numF acc l)
  | [], acc, _, _ => rfl
  | c :: r, acc, h, hb => by
    have hc := h c (List.mem_cons_self ..)
    rw [List.length_cons, Nat.pow_succ] at hb
    have hp : 1 ≤ 10 ^ r.length := Nat.pos_of_ne_zero (by simp)
    have h1 : (acc + 1) * 10 ≤ 1000000000 := by
      refine Nat.le_trans ?_ hb
      rw [Nat.mul_comm (10 ^ r.length)]
      rw [← Nat.mul_assoc]
      exact Nat.le_mul_of_pos_right _ hp
    unfold Lib.parseUintM
    rw [if_pos hc, if_neg (by omega), if_neg (by omega)]
    have e : acc * 10 + (c.toNat - 48) = 10 * acc + (c.toNat - 48) := by omega
    rw [e]
    refine parse_from r _ (fun x hx => h x (List.mem_cons_of_mem _ hx)) ?_
    refine Nat.le_trans (Nat.mul_le_mul_right _ (show 10 * acc + (c.toNat - 48) + 1 ≤ (acc + 1) * 10 by omega)) ?_
    rw [Nat.mul_assoc, Nat.mul_comm 10]
    exact hb
theorem parse_ok {l : List UInt8} (h : DigL l) (h0 : l ≠ []) (h9 : l.length ≤ 9) : Lib.parseUintB 32 l = .ok (numD l) := by
  unfold Lib.parseUintB
  rw [if_neg h0]
  refine parse_from l 0 h ?_
  rw [Nat.zero_add, Nat.one_mul]
  exact Nat.pow_le_pow_right (by decide) h9
theorem parse_calls (s : ByteArray) (hs : s.size ≤ 9) (h0 : s.data.toList ≠ []) (hd : DigL s.data.toList) (w : World) :
    Calls Tryz.prog 65 #[.string s, .int .i64 10, .int .i64 32] w fun e w' => e = .returned (.tuple #[.int .u64 ((numD s.data.toList : Nat) : Int), .nilIface]) ∧ Below w.heap.size w w' := by
  have hl : s.data.toList.length = s.size := by cases s; rfl
  refine (Any.strconv_ParseUint_10_at32_ok Tryz.layParseUint s (by omega) _ (parse_ok hd h0 (by omega)) w).mono ?_
  rintro e w' ⟨rfl, h⟩
  refine ⟨rfl, ?_⟩
  rcases h with rfl | rfl
  · exact Below.refl _ _
  · exact Lib.bytesWorld_below _ _ _
theorem big_ok {v : Nat} (h : v < (10 ^ 110) ^ 3) : (digB 4294967296 v).length ≤ 35 ∧ okN (digB 4294967296 v) = true := by
  have h2 : v < 4294967296 ^ 35 := Nat.lt_of_lt_of_le h (Nat.le_of_ble_eq_true rfl)
  exact ⟨digB_len (by decide) h2, okN_digB h2 (by decide)⟩
theorem of2_calls (p : Nat) (hp : p < 18446744073709551616) (w : World) :
    Calls Tryz.prog 30 #[.int .u64 (p : Int)] w fun e w' => ∃ A c, ∃ q : List Int, e = .returned (.slice A q.length c) ∧ q = digB 4294967296 p ∧ q.length ≤ c ∧ Kd.C (Kd.int .u32) w' A q.length q ∧ Below w.heap.size w w' := by
  refine (nat_Of.calls (p : Int) (digB 4294967296 p) w (by unfold nat_Of.f; rw [if_pos ⟨by omega, by omega⟩, Int.toNat_natCast])).mono ?_
  rintro e w' ⟨v, rfl, h, hb⟩
  obtain ⟨A, c, rfl, h1, h2⟩ := Kd.R_reads h
  exact ⟨A, c, _, rfl, rfl, h1, h2, hb⟩
theorem mul2_calls (A0 : Option Addr) (c0 : Nat) (x : List Int) (A1 : Option Addr) (c1 : Nat) (y : List Int) (a b : Nat) (w : World) (hr0 : Kd.C (Kd.int .u32) w A0 x.length x) (hc0 : x.length ≤ c0) (hr1 : Kd.C (Kd.int .u32) w A1 y.length y) (hc1 : y.length ≤ c1) (hx : x = digB 4294967296 a) (hy : y = digB 4294967296 b) (ha : a < (10 ^ 110) ^ 3) (hb : b < (10 ^ 110) ^ 3) :
    Calls Tryz.prog 33 #[.slice A0 x.length c0, .slice A1 y.length c1] w fun e w' => ∃ A c, ∃ q : List Int, e = .returned (.slice A q.length c) ∧ q = digB 4294967296 (a * b) ∧ q.length ≤ c ∧ Kd.C (Kd.int .u32) w' A q.length q ∧ Below w.heap.size w w' := by
  have h1 := big_ok ha
  have h2 := big_ok hb
  rw [← hx] at h1
  rw [← hy] at h2
  refine (nat_MulC.calls A0 c0 x A1 c1 y (digB 4294967296 (a * b)) w hr0 hc0 hr1 hc1 ?_).mono ?_
  · unfold nat_MulC.f
    rw [if_pos ⟨h1.2, h2.2, by omega⟩, hx, hy, digB_val 4294967296 (by decide), digB_val 4294967296 (by decide)]
  rintro e w' ⟨v, rfl, h, hb⟩
  obtain ⟨A, c, rfl, h1, h2⟩ := Kd.R_reads h
  exact ⟨A, c, _, rfl, rfl, h1, h2, hb⟩
theorem add2_calls (A0 : Option Addr) (c0 : Nat) (x : List Int) (A1 : Option Addr) (c1 : Nat) (y : List Int) (a b : Nat) (w : World) (hr0 : Kd.C (Kd.int .u32) w A0 x.length x) (hc0 : x.length ≤ c0) (hr1 : Kd.C (Kd.int .u32) w A1 y.length y) (hc1 : y.length ≤ c1) (hx : x = digB 4294967296 a) (hy : y = digB 4294967296 b) (ha : a < (10 ^ 110) ^ 3) (hb : b < (10 ^ 110) ^ 3) :
    Calls Tryz.prog 29 #[.slice A0 x.length c0, .slice A1 y.length c1] w fun e w' => ∃ A c, ∃ q : List Int, e = .returned (.slice A q.length c) ∧ q = digB 4294967296 (a + b) ∧ q.length ≤ c ∧ Kd.R (Kd.int .u32) 56 w' w.heap.size (fun _ => True) (.slice A q.length c) q ∧ Below w.heap.size w w' := by
  have h1 := big_ok ha
  have h2 := big_ok hb
  rw [← hx] at h1
  rw [← hy] at h2
  refine (nat_Add.calls A0 c0 x A1 c1 y (digB 4294967296 (a + b)) w hr0 hc0 hr1 hc1 ?_).mono ?_
  · unfold nat_Add.f
    rw [if_pos ⟨h1.2, h2.2⟩, hx, hy, digB_val 4294967296 (by decide), digB_val 4294967296 (by decide)]
  rintro e w' ⟨v, rfl, h, hb⟩
  obtain ⟨A, c, rfl, h1, h2⟩ := Kd.R_reads h
  exact ⟨A, c, _, rfl, rfl, h1, h, hb⟩
def digits_read.f (a0 : ByteArray) : Option (List Int × Int) := if natB a0.data.toList = true then (if 309 < a0.size then some ([], 14) else if numD a0.data.toList < 4294967296 ^ 32 then some (digB 4294967296 (numD a0.data.toList), 0) else some ([], 14)) else none
theorem size_toList2 (s : ByteArray) : s.data.toList.length = s.size := by cases s; rfl
theorem extract_list (s : ByteArray) (i j : Nat) : (s.extract i j).data.toList = (s.data.toList.drop i).take (j - i) := by
  rw [ByteArray.data_extract, Array.toList_extract, List.extract_eq_take_drop]
theorem lt_add9 {v : Nat} (h : v < (10 ^ 103) ^ 3) : v * 1000000000 < (10 ^ 110) ^ 3 :=
  Nat.lt_of_lt_of_le ((Nat.mul_lt_mul_right (by decide)).2 h) (Nat.le_of_ble_eq_true rfl)
theorem lt_310 {v : Nat} (h : v < (10 ^ 103) ^ 3) : v < (10 ^ 110) ^ 3 := Nat.lt_of_lt_of_le h (Nat.le_of_ble_eq_true rfl)
theorem lt_p9 {p : Nat} (h : p < 1000000000) : p < (10 ^ 110) ^ 3 := Nat.lt_of_lt_of_le h (Nat.le_of_ble_eq_true rfl)
theorem lt_e9 : 1000000000 < (10 ^ 110) ^ 3 := Nat.lt_of_lt_of_le (Nat.lt_succ_self _) (Nat.le_of_ble_eq_true rfl)
theorem pow_le10 {k a b : Nat} (h : k ≤ a * b) : 10 ^ k ≤ (10 ^ a) ^ b := by
  rw [← Nat.pow_mul]
  exact Nat.pow_le_pow_right (by decide) h
set_option maxRecDepth 100000 in
set_option maxHeartbeats 16000000 in
theorem read_calls (a0 : ByteArray) (hd : DigL a0.data.toList) (hs : a0.size ≤ 309) (r1 : List Int) (r2 : Int) (hr : (if numD a0.data.toList < 4294967296 ^ 32 then (digB 4294967296 (numD a0.data.toList), (0 : Int)) else ([], 14)) = (r1, r2)) (w : World) :
    Calls Tryz.prog 35 #[.string a0] w fun e w' => ∃ v0_ : Value, e = .returned (.tuple #[v0_, .int .i64 r2]) ∧ Kd.R (Kd.int .u32) 56 w' w.heap.size (fun _ => True) v0_ r1 ∧ Below w.heap.size w w' := by
  obtain ⟨T, hT⟩ : ∃ T, numD a0.data.toList = T := ⟨_, rfl⟩
  have hT9 : T < (10 ^ 103) ^ 3 := by
    rw [← hT]
    refine Nat.lt_of_lt_of_le (numD_lt _ hd) (pow_le10 ?_)
    rw [size_toList2]; exact hs
  rw [hT] at hr
  have HR := Aside0.mk hr
  have HD := Aside0.mk hd
  have HT := Aside0.mk hT
  have HT9 := Aside0.mk hT9
  have c0 : decide (309 < (a0.size : Int)) = false := decide_eq_false (by omega)
  clear hr hd hT hT9
  go_enter Tryz.func35, Tryz.ntmps35
  go_wp2
  go_loopg [0, 4] (a0.size + 1) (fun kq v0 v4 wr => ∃ (st : ByteArray) (A : Option Addr) (c : Nat) (xs : List Int) (v : Nat), v0 = .string st ∧ v4 = .slice A xs.length c ∧ Aside0 (st.size < kq ∧ st.size ≤ 309) ∧ Aside0 (DigL st.data.toList ∧ xs = digB 4294967296 v ∧ v * 10 ^ st.size + numD st.data.toList = T ∧ (v = 0 ∨ st.size % 9 = 0)) ∧ Aside0 (Kd.R (Kd.int .u32) 56 wr w.heap.size (fun _ => True) (.slice A xs.length c) xs) ∧ Aside0 (Below w.heap.size w wr))
  case atStart => exact ⟨a0, none, 0, [], 0, rfl, rfl, ⟨Nat.lt_succ_self _, hs⟩, ⟨HD.out, (digB_zero _ (by decide)).symm, by rw [HT.out]; simp, .inl rfl⟩, ⟨Kd.R_nil _ _ _ _ _⟩, ⟨Below.refl _ _⟩⟩
  case round =>
    obtain ⟨st, A, c, xs, v, rfl, rfl, HK, HF, HRR, HB⟩ := hrel
    by_cases h0 : 0 < st.size
    · have c1 : decide (0 < (st.size : Int)) = true := decide_eq_true (by omega)
      have hk := HK.out
      obtain ⟨n, hnn⟩ : ∃ n, (st.size - 1) % 9 + 1 = n := ⟨_, rfl⟩
      have hn : n ≤ st.size := by omega
      have hn9 : n ≤ 9 := by omega
      have hn1 : 1 ≤ n := by omega
      have hw : wrap64 ((wrap64 ((st.size : Int) - 1)).tmod 9 + 1) = (n : Int) := by
        rw [show wrap64 ((st.size : Int) - 1) = ((st.size - 1 : Nat) : Int) from by unfold wrap64; omega]
        rw [show ((st.size - 1 : Nat) : Int).tmod 9 = (((st.size - 1) % 9 : Nat) : Int) from rfl]
        unfold wrap64; omega
      have b1 : (0 : Int) ≤ (n : Int) := by omega
      have b2 : (n : Int) ≤ (st.size : Int) := by omega
      have hg : (st.extract 0 n).data.toList = st.data.toList.take n := by rw [extract_list, List.drop_zero, Nat.sub_zero]
      have hgr : (st.extract n st.size).data.toList = st.data.toList.drop n := by
        rw [extract_list]
        exact List.take_of_length_le (by rw [List.length_drop, size_toList2]; omega)
      have hgl : (st.extract 0 n).data.toList.length = n := by rw [hg, List.length_take, size_toList2]; omega
      have hgd : DigL (st.extract 0 n).data.toList := by rw [hg]; exact fun x hx => HF.out.1 x (List.mem_of_mem_take hx)
      have hrd : DigL (st.extract n st.size).data.toList := by rw [hgr]; exact fun x hx => HF.out.1 x (List.mem_of_mem_drop hx)
      have hrs : (st.extract n st.size).size = st.size - n := by rw [← size_toList2, hgr, List.length_drop, size_toList2]
      have PU := parse_calls (st.extract 0 n) (by rw [← size_toList2, hgl]; omega) (by intro e; rw [e] at hgl; simp at hgl; omega) hgd
      have hpl := numD_lt _ hgd
      rw [hgl] at hpl
      have htot : numD st.data.toList = numD (st.extract 0 n).data.toList * 10 ^ (st.size - n) + numD (st.extract n st.size).data.toList := by
        rw [hg, hgr]
        conv => lhs; rw [← List.take_append_drop n st.data.toList]
        rw [numD_append, List.length_drop, size_toList2]
      obtain ⟨p, hp⟩ : ∃ p, numD (st.extract 0 n).data.toList = p := ⟨_, rfl⟩
      rw [hp] at PU hpl htot
      have hp9 : p < 1000000000 := Nat.lt_of_lt_of_le hpl (Nat.pow_le_pow_right (by decide) hn9)
      have hv9 : v < (10 ^ 103) ^ 3 := by
        have h1 := HF.out.2.2.1
        have h2 := HT9.out
        have h3 : 1 ≤ 10 ^ st.size := Nat.pos_of_ne_zero (by simp)
        have h4 : v * 1 ≤ v * 10 ^ st.size := Nat.mul_le_mul_left _ h3
        exact Nat.lt_of_le_of_lt (show v ≤ T by rw [← h1]; omega) h2
      have OF1 : ∀ W, Calls Tryz.prog 30 #[.int .u64 1000000000] W fun e w' => ∃ A c, ∃ q : List Int, e = .returned (.slice A q.length c) ∧ q = digB 4294967296 1000000000 ∧ q.length ≤ c ∧ Kd.C (Kd.int .u32) w' A q.length q ∧ Below W.heap.size W w' := fun W => of2_calls 1000000000 (by decide) W
      have OF2 := fun W => of2_calls p (by omega) W
      have HP9 := Aside0.mk hp9
      have HV9 := Aside0.mk hv9
      have HTOT := Aside0.mk htot
      have HN := Aside0.mk (And.intro hnn (And.intro hn (And.intro hn9 hn1)))
      have HREST := Aside0.mk (And.intro hrd hrs)
      have HH0 := Aside0.mk h0
      have HC := Aside0.mk (Kd.rR9 HRR.out)
      clear hnn hn hn9 hn1 hg hgr hgl hgd hpl htot hp hp9 hv9 hk hrd hrs
      go_wp2_with (first | (go_at_call 65; refine (PU _).mono ?_; rintro e w1 ⟨rfl, hb1⟩; have B1 := Aside0.mk hb1; clear hb1) | (go_at_call 30; (with_reducible refine (OF1 _).mono ?_); rintro e w2 ⟨A2, c2, q2, rfl, hq2, hc2, hr2, hb2⟩; have Q2 := Aside0.mk (And.intro hq2 (And.intro hc2 hr2)); have B2 := Aside0.mk (B1.out.trans (hb2.mono B1.out.size)); clear hq2 hc2 hr2 hb2) | (go_at_call 33; refine (mul2_calls A c xs A2 c2 q2 v 1000000000 w2 (Kd.cB9 HC.out.2.2 B2.out) HC.out.2.1 Q2.out.2.2 Q2.out.2.1 HF.out.2.1 Q2.out.1 (by have := HV9.out; exact lt_310 this) lt_e9).mono ?_; rintro e w3 ⟨A3, c3, q3, rfl, hq3, hc3, hr3, hb3⟩; have Q3 := Aside0.mk (And.intro hq3 (And.intro hc3 hr3)); have B3 := Aside0.mk (B2.out.trans (hb3.mono B2.out.size)); clear hq3 hc3 hr3 hb3) | (go_at_call 30; (with_reducible refine (OF2 _).mono ?_); rintro e w4 ⟨A4, c4, q4, rfl, hq4, hc4, hr4, hb4⟩; have Q4 := Aside0.mk (And.intro hq4 (And.intro hc4 hr4)); have B4 := Aside0.mk (B3.out.trans (hb4.mono B3.out.size)); have B34 := Aside0.mk hb4; clear hq4 hc4 hr4 hb4) | (go_at_call 29; refine (add2_calls A3 c3 q3 A4 c4 q4 (v * 1000000000) p w4 (Kd.cB9 Q3.out.2.2 B34.out) Q3.out.2.1 Q4.out.2.2 Q4.out.2.1 Q3.out.1 Q4.out.1 (by have := HV9.out; exact lt_add9 this) (by have := HP9.out; exact lt_p9 this)).mono ?_; rintro e w5 ⟨A5, c5, q5, rfl, hq5, hc5, hr5, hb5⟩; have Q5 := Aside0.mk (And.intro hq5 (And.intro hc5 hr5)); have B5 := Aside0.mk (B4.out.trans (hb5.mono B4.out.size)); clear hq5 hc5 hr5 hb5) | (go_at_call 30; apply Classical.byContradiction; intro DBG) | (go_at_call 33; apply Classical.byContradiction; intro DBG) | (go_at_call 29; apply Classical.byContradiction; intro DBG) | (go_at_call 65; apply Classical.byContradiction; intro DBG))
      have hsd : wr.heap.size ≤ w4.heap.size := B4.out.size
      cases gk with
      | zero => exact absurd HK.out.1 (Nat.not_lt_zero _)
      | succ k1 =>
        go_roundg k1
        case measure => omega
        case rel =>
          have h1 := HN.out
          have h2 := HREST.out
          have h3 := HK.out
          refine ⟨_, A5, c5, q5, v * 1000000000 + p, rfl, rfl, ⟨by omega, by omega⟩, ⟨h2.1, Q5.out.1, ?_, .inr (by omega)⟩, ⟨Kd.rL9 Q5.out.2.2 (Nat.le_trans HB.out.size hsd)⟩, ⟨HB.out.trans (B5.out.mono HB.out.size)⟩⟩
          have h4 := HF.out.2.2.1
          have h5 := HTOT.out
          rw [h2.2]
          rw [h5] at h4
          rw [← h4, Nat.add_mul, ← Nat.add_assoc]
          congr 2
          rcases HF.out.2.2.2 with e | e
          · rw [e]; simp
          · have hn9 : n = 9 := by omega
            rw [hn9, Nat.mul_assoc]
            congr 1
            rw [show (1000000000 : Nat) = 10 ^ 9 from rfl, ← Nat.pow_add]
            congr 1
            omega
    · have c1 : decide (0 < (st.size : Int)) = false := decide_eq_false (by omega)
      have hz : st.size = 0 := by omega
      have hvT : v = T := by
        have h := HF.out.2.2.1
        have e : st.data.toList = [] := List.eq_nil_of_length_eq_zero (by rw [size_toList2]; exact hz)
        rw [hz, e] at h
        simpa [numD] using h
      have hxs := HF.out.2.1
      rw [hvT] at hxs
      have HX := Aside0.mk hxs
      clear hxs hvT
      by_cases hbig : T < 4294967296 ^ 32
      · have hl : xs.length ≤ 32 := by rw [HX.out]; exact digB_len (by decide) hbig
        have c2 : decide (32 < (xs.length : Int)) = false := decide_eq_false (by omega)
        have hr := HR.out
        rw [if_pos hbig] at hr
        obtain ⟨rfl, rfl⟩ := Prod.mk.inj hr
        clear hr
        go_wp2
        go_ret2
        exact ⟨_, rfl, by rw [← HX.out]; exact HRR.out, HB.out⟩
      · have hl : 32 < xs.length := by rw [HX.out]; exact digB_len_ge (by decide) (Nat.le_of_not_lt hbig)
        have c2 : decide (32 < (xs.length : Int)) = true := decide_eq_true (by omega)
        have hr := HR.out
        rw [if_neg hbig] at hr
        obtain ⟨rfl, rfl⟩ := Prod.mk.inj hr
        clear hr
        go_wp2
        go_ret2
        exact ⟨_, rfl, Kd.R_nil _ _ _ _ _, HB.out⟩
set_option maxRecDepth 100000 in
set_option maxHeartbeats 4000000 in
theorem digits_read.calls (a0 : ByteArray) (r1 : List Int) (r2 : Int) (w : World) (h : digits_read.f a0 = some (r1, r2)) :
    Calls Tryz.prog 35 #[.string a0] w fun e w' => ∃ v0_ : Value, e = .returned (.tuple #[v0_, .int .i64 r2]) ∧ Kd.R (Kd.int .u32) 56 w' w.heap.size (fun _ => True) v0_ r1 ∧ Below w.heap.size w w' := by
  unfold digits_read.f at h
  by_cases hn : natB a0.data.toList = true
  · rw [if_pos hn] at h
    by_cases hs : 309 < a0.size
    · rw [if_pos hs] at h
      obtain ⟨rfl, rfl⟩ := Prod.mk.inj (Option.some.inj h)
      have c0 : decide (309 < (a0.size : Int)) = true := decide_eq_true (by omega)
      clear h hn
      go_enter Tryz.func35, Tryz.ntmps35
      go_wp2
      go_ret2
      exact ⟨_, rfl, Kd.R_nil _ _ _ _ _, Below.refl _ _⟩
    · rw [if_neg hs] at h
      refine read_calls a0 (natB_iff.1 hn).2.1 (by omega) r1 r2 ?_ w
      by_cases hb : numD a0.data.toList < 4294967296 ^ 32
      · rw [if_pos hb] at h ⊢
        exact Option.some.inj h
      · rw [if_neg hb] at h ⊢
        exact Option.some.inj h
  · rw [if_neg hn] at h; cases h
end Go.Proofs.YthppjdmkinbccaaGreatDoor.Print

namespace Go.Proofs
open Go.RowKit Go.Shelf
shelf_lay Lays.n219 Nm 219 at Tryz as Tryz.layIndexLite
shelf_lay Lays.n103 Nm 103 at Tryz as Tryz.layCutPrefix
end Go.Proofs
namespace Go.Proofs.YthppjdmkinbccaaGreatDoor.Print
open Go.RowKit Go.Shelf Go.Proofs.YthppjdmkinbccaaGreatDoorW.PrintWords Go.Proofs.YthppjdmkinbccaaGreatDoorW.PrintLast
set_option linter.unusedVariables false
set_option linter.unusedSimpArgs false
theorem indexByte_lt (l : List UInt8) (c : UInt8) : Lib.indexByte l c < (l.length : Int) := by
  induction l with
  | nil => show (-1 : Int) < 0; decide
  | cons b l ih =>
    unfold Lib.indexByte
    split
    · simp only [List.length_cons]; omega
    · split
      · simp only [List.length_cons]; omega
      · simp only [List.length_cons]; omega
def slAt (s : ByteArray) : Int := Lib.indexByte s.data.toList 47
theorem slAt_lt (s : ByteArray) : slAt s < (s.size : Int) := by
  have := indexByte_lt s.data.toList 47
  have e : s.data.toList.length = s.size := by cases s; rfl
  rw [e] at this; exact this
def cutSL (s : ByteArray) : ByteArray × ByteArray × Bool := if 0 ≤ slAt s then (s.extract 0 (slAt s).toNat, s.extract ((slAt s).toNat + 1) s.size, true) else (s, ⟨#[]⟩, false)
set_option maxRecDepth 100000 in
set_option maxHeartbeats 2000000 in
theorem cutlite_calls (s : ByteArray) (hs : s.size ≤ 140737488351232) (w : World) :
    Calls Tryz.prog 71 #[.string s, .string ⟨#[47]⟩] w fun e w' => e = .returned (.tuple #[.string (cutSL s).1, .string (cutSL s).2.1, .bool (cutSL s).2.2]) ∧ Drawn0 w w' := by
  by_cases h : 0 ≤ slAt s
  · obtain ⟨i, hi⟩ : ∃ i : Nat, slAt s = (i : Int) := ⟨(slAt s).toNat, by omega⟩
    have hlt := slAt_lt s
    rw [show cutSL s = (s.extract 0 (slAt s).toNat, s.extract ((slAt s).toNat + 1) s.size, true) from if_pos h, hi]
    have c1 : (0 : Int) ≤ ↑i := by omega
    have c2 : (↑i : Int) ≤ ↑s.size := by omega
    have c3 : (0 : Int) ≤ ↑i + 1 := by omega
    have c4 : (↑i + 1 : Int) ≤ ↑s.size := by omega
    have c5 : IntKind.i64.wrap ((i : Int) + 1) = (i : Int) + 1 := by rw [i64_w]; unfold wrap64; omega
    have mixed : Tryz.prog.follows .mixedOrders = true := by kernel_rfl
    have hI := fun w => Any.stringslite_Index_one Tryz.layIndexLite s 47 w
    rw [show Lib.indexByte s.data.toList 47 = (i : Int) from hi] at hI
    go_enter Tryz.func71, Tryz.ntmps71
    go_wp2_with (go_at_call 98; refine (hI _).mono ?_; rintro e w' ⟨rfl, rfl⟩)
    go_region_o
    go_wp2
    go_ret3
    exact ⟨rfl, 1, rfl⟩
  · rw [show cutSL s = (s, ⟨#[]⟩, false) from if_neg h]
    have hd : decide (0 ≤ slAt s) = false := decide_eq_false h
    have hI := fun w => Any.stringslite_Index_one Tryz.layIndexLite s 47 w
    rw [show Lib.indexByte s.data.toList 47 = slAt s from rfl] at hI
    generalize slAt s = i at hd hI
    go_enter Tryz.func71, Tryz.ntmps71
    go_wp2_with (go_at_call 98; refine (hI _).mono ?_; rintro e w' ⟨rfl, rfl⟩)
    go_ret3
    exact ⟨rfl, 0, rfl⟩
def strings_Cut.f (a0 a1 : ByteArray) : Option (ByteArray × ByteArray × Bool) := if a1 = ⟨#[47]⟩ ∧ a0.size ≤ 140737488351232 then some (cutSL a0) else none
set_option maxRecDepth 100000 in
theorem strings_Cut.calls (a0 a1 : ByteArray) (r1 r2 : ByteArray) (r3 : Bool) (w : World) (h : strings_Cut.f a0 a1 = some (r1, r2, r3)) :
    Calls Tryz.prog 42 #[.string a0, .string a1] w fun e w' => e = .returned (.tuple #[.string r1, .string r2, .bool r3]) ∧ Drawn0 w w' := by
  unfold strings_Cut.f at h
  by_cases ha : a1 = ⟨#[47]⟩ ∧ a0.size ≤ 140737488351232
  · rw [if_pos ha] at h
    obtain ⟨rfl, hs⟩ := ha
    have h := Option.some.inj h
    have hC := cutlite_calls a0 hs
    rw [h] at hC
    go_enter Tryz.func42, Tryz.ntmps42
    go_wp2_with (go_at_call 71; refine (hC _).mono ?_; rintro e w' ⟨rfl, ⟨n, rfl⟩⟩)
    go_ret3
    exact ⟨rfl, n, rfl⟩
  · rw [if_neg ha] at h; cases h
def strings_CutPrefix.f (a0 a1 : ByteArray) : Option (ByteArray × Bool) := some (⟨(Lib.trimPrefix a0.data.toList a1.data.toList).toArray⟩, Lib.hasPrefix a0.data.toList a1.data.toList)
theorem strings_CutPrefix.calls (a0 a1 : ByteArray) (r1 : ByteArray) (r2 : Bool) (w : World) (h : strings_CutPrefix.f a0 a1 = some (r1, r2)) :
    Calls Tryz.prog 41 #[.string a0, .string a1] w fun e w' => e = .returned (.tuple #[.string r1, .bool r2]) ∧ Drawn0 w w' := by
  unfold strings_CutPrefix.f at h
  have h := Option.some.inj h
  obtain ⟨rfl, rfl⟩ := Prod.mk.inj h
  exact (Any.strings_CutPrefix Tryz.layCutPrefix a0 a1 w).mono fun e w' ⟨he, hw⟩ => ⟨he, 0, by rw [hw]; rfl⟩
end Go.Proofs.YthppjdmkinbccaaGreatDoor.Print
