/- The contract of slices.Reverse over a row of the call's own; no condition beyond those written. -/
import Derived.Test.YtbefcdidlfkmnaaK0
import Derived.Shelf.SlicesG.Reverse
import Derived.Shelf.SlGeneric
import Derived.Ground.SlgnProg
import Derived.Lib.SlKeysI
import Derived.Sort.OwnSorted
namespace Go.Proofs
open Go.RowKit Go.Maps Go.Sort Go.Shelf
shelf_lay_g SlLaysN.n35 Slgn 35 at Try 32 as Try.revA
end Go.Proofs
namespace Go.Proofs.Ytbefcdidlfkmnaa.Print
open Go.RowKit Go.Shelf Go.Sort Go.Proofs.YtbefcdidlfkmnaaW.PrintWords Go.Proofs.YtbefcdidlfkmnaaW.PrintLast
set_option linter.unusedVariables false
theorem rev_calls (base : Nat) (v : Value) (l : List Int) (W : World) (h : Kd.R (Kd.int .i64) 3 W base (fun _ => True) v l) (hb : base ≤ W.heap.size) :
    Calls Try.prog 32 #[v] W fun e w' => e = .returned (.tuple #[]) ∧ Kd.R (Kd.int .i64) 3 w' base (fun _ => True) v l.reverse ∧ Below base W w' := by
  have hmax : l.length ≤ 9223372036854775807 := by
    obtain ⟨A, c, _, _, hC⟩ := Kd.R_reads h
    exact Kd.C_max hC
  have ho := Kd.own_of_R h
  rcases ho.2 with ⟨rfl, hz⟩ | ⟨gb, cap, cur, rfl, hbase, hgb, r1, r2, r3, r4⟩
  · have hl : l = [] := List.eq_nil_of_length_eq_zero hz
    subst hl
    refine (AnyG.slices_Reverse_int_empty Try.revA none 0 W).mono ?_
    rintro e w' ⟨rfl, rfl⟩
    exact ⟨rfl, h, Below.refl _ _⟩
  · have hH : Holds (Value.int .i64) W gb 0 l.toArray := holds_of_block_i hgb (by rw [Nat.mul_one] at r4; exact r4)
    refine (AnyG.slices_Reverse_int Try.revA gb 0 cap l W hH hmax).mono ?_
    rintro e w' ⟨rfl, n, rfl⟩
    have hg : putRow (Value.int .i64) (Sort.ahead W n) gb 0 l.reverse.toArray = grow (putRow (Value.int .i64) (Sort.ahead W n) gb 0 l.reverse.toArray) #[] := (grow_empty _).symm
    rw [hg]
    have hR := ownsRow_sorted_i (n := n) (os := #[]) (ss := l) (ts := l.reverse) (by simp) hbase hgb r1 r2 r3
    refine ⟨rfl, Kd.R_of_own (by rw [List.length_reverse]; exact hR) (fun _ _ => trivial), (Below.refl base W).grown (grownBy_sorted_i _) hb (fun j hj => by cases hj; exact hbase)⟩
end Go.Proofs.Ytbefcdidlfkmnaa.Print
