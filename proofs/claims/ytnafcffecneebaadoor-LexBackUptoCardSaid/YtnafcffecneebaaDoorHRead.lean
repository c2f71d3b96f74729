/- The contract of the program's lex.read, in the printer's form; no condition beyond those written. -/
import Derived.Test.YtnafcffecneebaaDoorHKinds
import Derived.Ground.MpProg
import Derived.Shelf.Lay
import Derived.Shelf.Pu.ParseUintPublic10
namespace Go.Proofs
open Go.RowKit Go.Shelf
shelf_lay LaysPu.n14 Mp 14 at Tryd as Tryd.layParseUint
end Go.Proofs
namespace Go.Proofs.YtnafcffecneebaaDoor.Print
open Go.RowKit Go.Shelf Go.Proofs.YtnafcffecneebaaDoorW.PrintWords Go.Proofs.YtnafcffecneebaaDoorW.PrintLast Go.Proofs.YtnafcffecneebaaDoorW.PrintMore
set_option linter.unusedVariables false
set_option linter.unusedSimpArgs false

theorem below_bytes (w : World) (t : TypeId) (s : ByteArray) : Below w.heap.size w (Lib.bytesWorld w t s) := Lib.bytesWorld_below w t s
def readN (u : Nat) : Int × Int := if 2147483647 < u then (0, 14) else ((u : Int), 0)
def lex_read.f (a0 : ByteArray) : Option (Int × Int) :=
  if a0.size ≤ 140737488351232 then (if natB a0 = true then (match Lib.parseUintB 64 a0.data.toList with | .ok u => some (readN u) | _ => none) else some (0, 19)) else none
set_option maxRecDepth 100000 in
set_option maxHeartbeats 8000000 in
theorem lex_read.calls (a0 : ByteArray) (r1 r2 : Int) (w : World) (h : lex_read.f a0 = some (r1, r2)) :
    Calls Tryd.prog 39 #[.string a0] w fun e w' => e = .returned (.tuple #[.int .i64 r1, .int .i64 r2]) ∧ Below w.heap.size w w' := by
  unfold lex_read.f at h
  by_cases hs : ¬ a0.size ≤ 140737488351232
  · rw [if_neg hs] at h; cases h
  replace hs : a0.size ≤ 140737488351232 := Decidable.not_not.1 hs
  rw [if_pos hs] at h
  have hN := natural_calls a0 hs
  cases hn : natB a0 with
  | false =>
    rw [hn, if_neg (by decide)] at h
    obtain ⟨rfl, rfl⟩ := Prod.mk.inj (Option.some.inj h)
    rw [hn] at hN
    go_enter Tryd.func39, Tryd.ntmps39
    go_wp2_with (go_at_call 36; refine (hN _).mono ?_; rintro e w1 ⟨rfl, hb1⟩; have HB := Aside0.mk hb1; clear hb1)
    go_ret2
    exact ⟨rfl, HB.out⟩
  | true =>
    rw [hn, if_pos rfl] at h
    rw [hn] at hN
    by_cases hok : ∃ u, Lib.parseUintB 64 a0.data.toList = .ok u
    · obtain ⟨u, hp⟩ := hok
      rw [hp] at h
      have hr : readN u = (r1, r2) := Option.some.inj h
      have hP := fun W => Any.strconv_ParseUint_10_at64_ok Tryd.layParseUint a0 (by omega) u hp W
      clear hp h
      unfold readN at hr
      by_cases hu : 2147483647 < u
      · rw [if_pos hu] at hr
        obtain ⟨rfl, rfl⟩ := Prod.mk.inj hr
        have d1 : decide (2147483647 < (u : Int)) = true := decide_eq_true (by omega)
        go_enter Tryd.func39, Tryd.ntmps39
        go_wp2_with (go_at_call 36; refine (hN _).mono ?_; rintro e w1 ⟨rfl, hb1⟩; have HB := Aside0.mk hb1; clear hb1)
        go_wp2_with (go_at_call 50; refine (hP _).mono ?_; rintro e w2 ⟨rfl, hb2⟩; have HB2 := Aside0.mk (HB.out.trans ((show Below w1.heap.size w1 w2 by rcases hb2 with rfl | rfl; exact Below.refl _ _; exact below_bytes _ _ _).mono HB.out.size)); clear hb2)
        go_ret2
        exact ⟨rfl, HB2.out⟩
      · rw [if_neg hu] at hr
        obtain ⟨rfl, rfl⟩ := Prod.mk.inj hr
        have d1 : decide (2147483647 < (u : Int)) = false := decide_eq_false (by omega)
        have HU := Aside0.mk hu
        clear hu
        go_enter Tryd.func39, Tryd.ntmps39
        go_wp2_with (go_at_call 36; refine (hN _).mono ?_; rintro e w1 ⟨rfl, hb1⟩; have HB := Aside0.mk hb1; clear hb1)
        go_wp2_with (go_at_call 50; refine (hP _).mono ?_; rintro e w2 ⟨rfl, hb2⟩; have HB2 := Aside0.mk (HB.out.trans ((show Below w1.heap.size w1 w2 by rcases hb2 with rfl | rfl; exact Below.refl _ _; exact below_bytes _ _ _).mono HB.out.size)); clear hb2)
        go_ret2
        exact ⟨by have := HU.out; rw [show wrap64 (u : Int) = (u : Int) from (by unfold wrap64; omega)]; rfl, HB2.out⟩
    · have hnone : (match Lib.parseUintB 64 a0.data.toList with | .ok u => some (readN u) | _ => none) = (none : Option (Int × Int)) := by
        split
        · rename_i u hp; exact absurd ⟨u, hp⟩ hok
        · rfl
      rw [hnone] at h; cases h
end Go.Proofs.YtnafcffecneebaaDoor.Print
