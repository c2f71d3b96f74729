/- The contract of the program's shape.Perm: what it returns for any list of at most 1000 numbers and any rank, in the printer's form; no condition beyond those written. -/
import Derived.Test.YtbefcdidlfkmnaaHSeq
import Derived.Shelf.SortM.Plain
import Derived.Shelf.SortM.SortNone
import Derived.Shelf.SlGeneric
import Derived.Ground.SlgmProg
import Derived.Lib.SlKeysI
import Derived.Sort.OwnSorted
namespace Go.Proofs
open Go.RowKit Go.Maps Go.Sort Go.Shelf
shelf_lay_g SlLaysM.n5 Slgm 5 at Try 60 as Try.sortA
end Go.Proofs
namespace Go.Proofs.Ytbefcdidlfkmnaa.Print
open Go.RowKit Go.Shelf Go.Sort Go.Proofs.YtbefcdidlfkmnaaW.PrintWords Go.Proofs.YtbefcdidlfkmnaaW.PrintLast
attribute [local go_sem] Oper.semAt_some
set_option linter.unusedVariables false

/-- A list in order. -/
def sortedS (xs : List Int) : List Int := xs.mergeSort fun x y => decide (x ≤ y)
theorem sortedS_length (xs : List Int) : (sortedS xs).length = xs.length := by simp [sortedS]

set_option maxRecDepth 100000 in
set_option maxHeartbeats 2000000 in
/-- slices.Sorted(seq), where seq is slices.Values of a list. -/
theorem sorted_in (n : Nat) (hn : 5 ≤ n) (Bs : Nat) (A : Option Addr) (c : Nat) (xs : List Int) (hx : xs.length ≤ 1000) (w0 w : World) (hr : Kd.C (Kd.int .i64) w0 A xs.length xs) (h0 : Below w0.heap.size w0 w) (hBs : Boxed w Bs 23 (.slice A xs.length c)) :
    CallsIn Fence.wide n Try.prog 56 #[.func (.func 61) #[] #[.pointer (some ⟨Bs, 0, none⟩)]] w fun e w' => ∃ v, e = .returned v ∧
      w'.ownsRow w.heap.size 3 1 v xs.length ((sortedS xs).map (Value.int .i64)) ∧ Below w.heap.size w w' := by
  have h1 : 1 ≤ n := by omega
  have hf : Fence.wide.fn 59 := trivial
  have hf2 : Fence.wide.fn 60 := trivial
  refine callsIn_of_wp Try.func56 rfl trivial ?_ rfl
  simp only [Try.ntmps56, List.size_toArray, List.length_cons, List.length_nil, Nat.reduceAdd, Nat.reduceSub, Array.replicate_succ, Array.replicate_zero, List.push_toArray, List.append_toArray, List.nil_append, List.cons_append]
  gi_wp2_with (gi_at_call 59; refine (collect_in (n - 1) (by omega) Bs A c xs hx w0 w hr h0 hBs).mono ?_; rintro e W ⟨v, rfl, hrow, hb⟩)
  rcases hrow.2 with ⟨rfl, hz⟩ | ⟨gb, cap, cur, rfl, hbase, hgb, r1, r2, r3, r4⟩
  · have hss : xs = [] := List.eq_nil_of_length_eq_zero hz
    subst hss
    have cS : CallsIn Fence.wide (n - 1) Try.prog 60 #[.slice none 0 0] W fun e w' => e = .returned (.tuple #[]) ∧ w' = W := callsIn_wide.2 (AnyM.slices_Sort_int_none Try.sortA none 0 W)
    gi_wp2_with (gi_at_call 60; refine cS.mono ?_; rintro e w' ⟨rfl, rfl⟩)
    go_ret
    exact ⟨.slice none 0 0, rfl, by simpa [sortedS] using hrow, hb⟩
  · have hH : Holds (Value.int .i64) W gb 0 xs.toArray := holds_of_block_i hgb (by simpa using r4)
    have hgl : gb < W.heap.size := (Array.getElem?_eq_some_iff.1 hgb).1
    have cS : CallsIn Fence.wide (n - 1) Try.prog 60 #[.slice (some ⟨gb, 0, none⟩) xs.length cap] W fun e w' => e = .returned (.tuple #[]) ∧ ∃ k os, w' = grow (putRow (Value.int .i64) (Sort.ahead W k) gb 0 (sortedS xs).toArray) os := callsIn_wide.2 (AnyM.slices_Sort_int Try.sortA gb 0 cap xs W hH hgl (by omega))
    gi_wp2_with (gi_at_call 60; refine cS.mono ?_; rintro e w' ⟨rfl, nn, os, rfl⟩)
    go_ret
    exact ⟨_, rfl, ownsRow_sorted_i (sortedS_length xs) hbase hgb r1 r2 r3, hb.grown (grownBy_sorted_i _) hb.size (fun j hj => by cases hj; exact hbase)⟩

/-- What shape.Perm says: 0, or why not. -/
def permS (p : List Int) (rank : Int) : Int := if (∀ i : Nat, i < p.length → rd (sortedS p) (i : Int) = (i : Int)) then (if (p.length : Int) = max rank 0 then 0 else 11) else 11
def shape_Perm.f (l0 : List Int) (a1 : Int) : Option Int := if l0.length ≤ 1000 then some (permS l0 a1) else none

set_option maxRecDepth 100000 in
set_option maxHeartbeats 4000000 in
theorem shape_Perm.calls (A0 : Option Addr) (c0 : Nat) (l0 : List Int) (a1 : Int) (r : Int) (w : World) (hr0 : Kd.C (Kd.int .i64) w A0 l0.length l0) (hc0 : l0.length ≤ c0) (h : shape_Perm.f l0 a1 = some r) :
    Calls Try.prog 52 #[.slice A0 l0.length c0, .int .i64 a1] w fun e w' => e = .returned (.int .i64 r) ∧ Below w.heap.size w w' := by
  unfold shape_Perm.f at h
  by_cases hlen : l0.length ≤ 1000
  · rw [if_pos hlen] at h
    obtain rfl := Option.some.inj h
    clear h
    have HR := Aside0.mk hr0
    clear hr0
    have hbox := Boxed.new w 23 (.slice A0 l0.length c0)
    have hB0 : Below w.heap.size w (w.alloc (.cells #[.slice A0 l0.length c0] 23)) := (Below.refl _ w).alloc (Nat.le_refl _) _
    have cS : Calls Try.prog 56 #[.func (.func 61) #[] #[.pointer (some ⟨w.heap.size, 0, none⟩)]] (w.alloc (.cells #[.slice A0 l0.length c0] 23)) fun e w' => ∃ A c, e = .returned (.slice A l0.length c) ∧ Kd.C (Kd.int .i64) w' A l0.length (sortedS l0) ∧ Below w.heap.size w w' :=
      (callsIn_wide.1 (sorted_in 5 (Nat.le_refl _) w.heap.size A0 c0 l0 hlen w (w.alloc (.cells #[.slice A0 l0.length c0] 23)) HR.out hB0 hbox)).mono (by
        rintro e w' ⟨v, rfl, hrow, hb⟩
        have hR : Kd.R (Kd.int .i64) 3 w' (w.alloc (.cells #[.slice A0 l0.length c0] 23)).heap.size (fun _ => True) v (sortedS l0) := Kd.R_of_own (by rw [sortedS_length]; exact hrow) (fun _ _ => trivial)
        obtain ⟨A, c, rfl, hl, hC⟩ := Kd.R_reads hR
        rw [sortedS_length] at hC ⊢
        exact ⟨A, c, rfl, hC, hB0.trans (hb.mono hB0.size)⟩)
    clear hbox hB0
    go_enter Try.func52, Try.ntmps52
    go_wp2_with (first
      | (go_at_call 57; refine (callsIn_wide.1 (vals_in Fence.wide 5 trivial rfl A0 l0.length c0 _)).mono ?_; rintro e w' ⟨rfl, rfl⟩)
      | (go_at_call 56; refine cS.mono ?_; rintro e w1 ⟨A1, c1, rfl, hC1, hB1⟩; have HC1 := Aside0.mk hC1; have HB1 := Aside0.mk hB1; clear hC1 hB1 cS))
    have hle : l0.length ≤ 9223372036854775807 := by omega
    go_loopw [13] (fun v wr => wr = w1 ∧ ∃ k : Nat, k ≤ l0.length ∧ v = .int .i64 (k : Int) ∧ Aside0 (∀ i : Nat, i < k → rd (sortedS l0) (i : Int) = (i : Int)))
      (fun v _ => l0.length - (intOf v).toNat)
    case atStart => exact ⟨rfl, 0, Nat.zero_le _, rfl, ⟨fun i h => absurd h (by omega)⟩⟩
    case round =>
      obtain ⟨rfl, k, hk, rfl, HI⟩ := hrel
      by_cases hlt : k < l0.length
      · have hd : decide ((k : Int) < (l0.length : Int)) = true := by simp; omega
        obtain ⟨ad, hA, hcell⟩ := Kd.at_int HC1.out (k : Int) (by omega) (by omega)
        cases hA
        rw [Int.toNat_natCast] at hcell
        by_cases he : rd (sortedS l0) (k : Int) = (k : Int)
        · have heb : (rd (sortedS l0) (k : Int) != (k : Int)) = false := by simp [he]
          rw [he] at hcell
          go_wp2
          go_roundw
          case rel => exact ⟨trivial, k + 1, by omega, by simp, ⟨fun i hi => by
            by_cases e : i = k
            · rw [e]; exact he
            · exact HI.out i (by omega)⟩⟩
          case measure => simp [intOf]; omega
        · have heb : (rd (sortedS l0) (k : Int) != (k : Int)) = true := by simp [he]
          have hper : permS l0 a1 = 11 := by
            unfold permS; rw [if_neg (fun h => he (h k hlt))]
          go_wp2
          go_ret
          exact ⟨by rw [hper]; rfl, HB1.out⟩
      · obtain rfl : k = l0.length := by omega
        have hd : decide ((l0.length : Int) < (l0.length : Int)) = false := by simp
        have hper : permS l0 a1 = if (l0.length : Int) = max a1 0 then 0 else 11 := by
          unfold permS; rw [if_pos HI.out]
        by_cases hm : (l0.length : Int) = max a1 0
        · have hmb : ((l0.length : Int) != max a1 0) = false := by simp [hm]
          rw [if_pos hm] at hper
          go_wp2
          go_ret
          exact ⟨by rw [hper]; rfl, HB1.out⟩
        · have hmb : ((l0.length : Int) != max a1 0) = true := by simp [hm]
          rw [if_neg hm] at hper
          go_wp2
          go_ret
          exact ⟨by rw [hper]; rfl, HB1.out⟩
  · rw [if_neg hlen] at h
    exact absurd h (by simp)

end Go.Proofs.Ytbefcdidlfkmnaa.Print
