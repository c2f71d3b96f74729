/- Proved here: DigitsRats, the card of the law: the text of any rational is the document's. Without a condition. Written by wip/tools/claimtexts.py: these texts, one behind another, without what this claim does not use: E3, Qs1, PuRefA, PuRefB, PuRefC, PuOrder, PuNats, A9, A10, PuRats, PureDigitsRats, HRow, LawDigitsRats. -/
import Derived.Test.YthppjdmkinbccaaGreatDoorMgRats2
import Derived.Test.YthppjdmkinbccaaGreatDoorMgRats6
import Derived.Test.YthppjdmkinbccaaGreatDoorMgRats7
import Derived.Test.YthppjdmkinbccaaGreatDoorMgRats3
import Derived.Test.YthppjdmkinbccaaGreatDoorMgRats4
import Derived.Lib.SmallJoins
import Derived.ProofKit
import Derived.OpenShut
import Derived.ShutString
import Derived.ChangeOld
import Derived.SizedLaws
import Derived.Test.YthppjdmkinbccaaGreatDoorMgRats1
import Derived.Test.YthppjdmkinbccaaGreatDoorCards
import Derived.Test.YthppjdmkinbccaaGreatDoorTie
import Derived.WalkKit
import Derived.Below
import Derived.Lay
import Derived.Deep.DeepHandedRow
import Derived.Deep.DeepWitnessRowRef
import Derived.Lib.LaidTab
import Derived.Stop.LaidErr
namespace Go.Proofs.YthppjdmkinbccaaGreatDoor.Print
open Go.RowKit Go.Proofs.YthppjdmkinbccaaGreatDoorW.PrintWords Go.Proofs.YthppjdmkinbccaaGreatDoorW.PrintLast Go.Proofs.YthppjdmkinbccaaGreatDoorW.PrintMore
attribute [local go_sem] max2_int min2_int max_two min_two max_three min_three max_four min_four   -- for this text's walks alone
set_option linter.unusedVariables false
set_option linter.unusedSimpArgs false
def kn9.f (k : Nat)  : Option (Bool) := (digits_ParseNat.f (⟨#[48, 48, 55]⟩ : ByteArray)).bind fun bt152 => ((digits_ParseNat.f (⟨#[49, 120]⟩ : ByteArray)).bind fun bt156 => ((digits_ParseNat.f (⟨#[]⟩ : ByteArray)).bind fun bt160 => ((digits_Nat.f (([0, 1] : List Int))).bind fun t167 => (if t167.toList = ([52, 50, 57, 52, 57, 54, 55, 50, 57, 54] : List UInt8) then ((digits_Rat.f k true (([3] : List Int)) (([4] : List Int))).bind fun t174 => (if t174.toList = ([45, 51, 47, 52] : List UInt8) then ((digits_Rat.f k false (([7] : List Int)) (([1] : List Int))).bind fun t181 => (if t181.toList = ([55] : List UInt8) then (if bt152.2 = 19 then (if bt156.2 = 19 then (if bt160.2 = 19 then ((falls9.f k (⟨#[50, 47, 52]⟩ : ByteArray) 6).bind fun t182 => (if t182 = true then ((falls9.f k (⟨#[51, 47, 49]⟩ : ByteArray) 6).bind fun t183 => (if t183 = true then ((falls9.f k (⟨#[45, 48]⟩ : ByteArray) 6).bind fun t184 => (if t184 = true then ((falls9.f k (⟨#[48, 47, 51]⟩ : ByteArray) 6).bind fun t185 => (if t185 = true then ((falls9.f k (⟨#[49, 47, 48]⟩ : ByteArray) 6).bind fun t186 => (if t186 = true then ((falls9.f k (⟨#[48, 49, 47, 50]⟩ : ByteArray) 19).bind fun t187 => (if t187 = true then ((falls9.f k (⟨#[49, 47]⟩ : ByteArray) 19).bind fun t188 => (if t188 = true then ((falls9.f k (⟨#[45, 47, 50]⟩ : ByteArray) 19).bind fun t189 => (if t189 = true then ((falls9.f k (⟨#[49, 47, 45, 50]⟩ : ByteArray) 19).bind fun t190 => (if t190 = true then ((falls9.f k (⟨#[43, 49]⟩ : ByteArray) 19).bind fun t191 => (some t191)) else (none))) else (none))) else (none))) else (none))) else (none))) else (none))) else (none))) else (none))) else (none))) else (none)) else (none)) else (none)) else (none))) else (none))) else (none)))))
theorem kn9.mono : ∀ k, LeO (kn9.f k ) (kn9.f (k + 1) ) := by
 intro  k
 unfold kn9.f
 repeat' first
   | (with_reducible exact digits_Rat.mono _ _ _ _)
   | (with_reducible exact falls9.mono _ _ _)
   | (with_reducible exact LeO.refl _)
   | (with_reducible exact LeO.none _)
   | (with_reducible refine LeO.ite ?_ ?_)
   | (with_reducible refine LeO.bind ?_ (fun _ => ?_))
   | exact digits_Rat.mono _ _ _ _
   | exact falls9.mono _ _ _
   | exact LeO.none _
   | refine LeO.ite ?_ ?_
   | refine LeO.bind ?_ (fun _ => ?_)
set_option maxHeartbeats 8000000 in
set_option maxRecDepth 100000 in
theorem kn9.calls (k : Nat)  (r : Bool) (w : World) (ht : PowTab w) (h : kn9.f k  = some r) :
  Calls Tryz.prog 15 #[] w fun e w' => e = .returned (.bool r) ∧ Below w.heap.size w w' := by
 have HT := Aside0.mk ht
 clear ht
 have hu35 := Tryz.underlying35
 have HB := Aside0.mk (Below.refl w.heap.size w)
 have H : ((digits_ParseNat.f (⟨#[48, 48, 55]⟩ : ByteArray)).bind fun bt152 => ((digits_ParseNat.f (⟨#[49, 120]⟩ : ByteArray)).bind fun bt156 => ((digits_ParseNat.f (⟨#[]⟩ : ByteArray)).bind fun bt160 => ((digits_Nat.f (([0, 1] : List Int))).bind fun t167 => (if t167.toList = ([52, 50, 57, 52, 57, 54, 55, 50, 57, 54] : List UInt8) then ((digits_Rat.f k true (([3] : List Int)) (([4] : List Int))).bind fun t174 => (if t174.toList = ([45, 51, 47, 52] : List UInt8) then ((digits_Rat.f k false (([7] : List Int)) (([1] : List Int))).bind fun t181 => (if t181.toList = ([55] : List UInt8) then (if bt152.2 = 19 then (if bt156.2 = 19 then (if bt160.2 = 19 then ((falls9.f k (⟨#[50, 47, 52]⟩ : ByteArray) 6).bind fun t182 => (if t182 = true then ((falls9.f k (⟨#[51, 47, 49]⟩ : ByteArray) 6).bind fun t183 => (if t183 = true then ((falls9.f k (⟨#[45, 48]⟩ : ByteArray) 6).bind fun t184 => (if t184 = true then ((falls9.f k (⟨#[48, 47, 51]⟩ : ByteArray) 6).bind fun t185 => (if t185 = true then ((falls9.f k (⟨#[49, 47, 48]⟩ : ByteArray) 6).bind fun t186 => (if t186 = true then ((falls9.f k (⟨#[48, 49, 47, 50]⟩ : ByteArray) 19).bind fun t187 => (if t187 = true then ((falls9.f k (⟨#[49, 47]⟩ : ByteArray) 19).bind fun t188 => (if t188 = true then ((falls9.f k (⟨#[45, 47, 50]⟩ : ByteArray) 19).bind fun t189 => (if t189 = true then ((falls9.f k (⟨#[49, 47, 45, 50]⟩ : ByteArray) 19).bind fun t190 => (if t190 = true then ((falls9.f k (⟨#[43, 49]⟩ : ByteArray) 19).bind fun t191 => (some t191)) else (none))) else (none))) else (none))) else (none))) else (none))) else (none))) else (none))) else (none))) else (none))) else (none)) else (none)) else (none)) else (none))) else (none))) else (none)))))) = some r := h
 clear h
 replace H := Option.bind_eq_some_iff.mp H
 obtain ⟨⟨t152, t153⟩, A10, H⟩ := H
 (try dsimp only at H)
 have A1 := Aside0.mk A10
 clear A10
 replace H := Option.bind_eq_some_iff.mp H
 obtain ⟨⟨t156, t157⟩, A20, H⟩ := H
 (try dsimp only at H)
 have A2 := Aside0.mk A20
 clear A20
 replace H := Option.bind_eq_some_iff.mp H
 obtain ⟨⟨t160, t161⟩, A30, H⟩ := H
 (try dsimp only at H)
 have A3 := Aside0.mk A30
 clear A30
 obtain ⟨y164, hy164⟩ : ∃ y_ : List Int, y_ = (([0, 1] : List Int)) := ⟨_, rfl⟩
 replace H : ((digits_Nat.f y164).bind fun t167 => (if t167.toList = ([52, 50, 57, 52, 57, 54, 55, 50, 57, 54] : List UInt8) then ((digits_Rat.f k true (([3] : List Int)) (([4] : List Int))).bind fun t174 => (if t174.toList = ([45, 51, 47, 52] : List UInt8) then ((digits_Rat.f k false (([7] : List Int)) (([1] : List Int))).bind fun t181 => (if t181.toList = ([55] : List UInt8) then (if t153 = 19 then (if t157 = 19 then (if t161 = 19 then ((falls9.f k (⟨#[50, 47, 52]⟩ : ByteArray) 6).bind fun t182 => (if t182 = true then ((falls9.f k (⟨#[51, 47, 49]⟩ : ByteArray) 6).bind fun t183 => (if t183 = true then ((falls9.f k (⟨#[45, 48]⟩ : ByteArray) 6).bind fun t184 => (if t184 = true then ((falls9.f k (⟨#[48, 47, 51]⟩ : ByteArray) 6).bind fun t185 => (if t185 = true then ((falls9.f k (⟨#[49, 47, 48]⟩ : ByteArray) 6).bind fun t186 => (if t186 = true then ((falls9.f k (⟨#[48, 49, 47, 50]⟩ : ByteArray) 19).bind fun t187 => (if t187 = true then ((falls9.f k (⟨#[49, 47]⟩ : ByteArray) 19).bind fun t188 => (if t188 = true then ((falls9.f k (⟨#[45, 47, 50]⟩ : ByteArray) 19).bind fun t189 => (if t189 = true then ((falls9.f k (⟨#[49, 47, 45, 50]⟩ : ByteArray) 19).bind fun t190 => (if t190 = true then ((falls9.f k (⟨#[43, 49]⟩ : ByteArray) 19).bind fun t191 => (some t191)) else (none))) else (none))) else (none))) else (none))) else (none))) else (none))) else (none))) else (none))) else (none))) else (none)) else (none)) else (none)) else (none))) else (none))) else (none))) = some r := by first | (rw [hy164]; with_reducible exact H) | (have H2_ := (Option.bind_some _ _).symm.trans H; rw [hy164]; with_reducible exact H2_) | (have H2_ := (Option.bind_some _ _).symm.trans H; with_reducible exact H2_) | with_reducible exact H | (rw [hy164]; exact H) | exact H
 have Ny164 := Aside0.mk hy164
 clear hy164
 replace H := Option.bind_eq_some_iff.mp H
 obtain ⟨t167, A40, H⟩ := H
 (try dsimp only at H)
 have A4 := Aside0.mk A40
 clear A40
 by_cases c5 : t167.toList = ([52, 50, 57, 52, 57, 54, 55, 50, 57, 54] : List UInt8)
 ·rw [if_pos c5] at H
  have c5b0 : (t167.toList == ([52, 50, 57, 52, 57, 54, 55, 50, 57, 54] : List UInt8)) = true := beq_iff_eq.mpr c5
  have c5b1 : (t167.toList != ([52, 50, 57, 52, 57, 54, 55, 50, 57, 54] : List UInt8)) = false := bne_eq_false_iff_eq.mpr c5
  clear c5
  obtain ⟨y168, hy168⟩ : ∃ y_ : List Int, y_ = (([3] : List Int)) := ⟨_, rfl⟩
  replace H : ((digits_Rat.f k true y168 (([4] : List Int))).bind fun t174 => (if t174.toList = ([45, 51, 47, 52] : List UInt8) then ((digits_Rat.f k false (([7] : List Int)) (([1] : List Int))).bind fun t181 => (if t181.toList = ([55] : List UInt8) then (if t153 = 19 then (if t157 = 19 then (if t161 = 19 then ((falls9.f k (⟨#[50, 47, 52]⟩ : ByteArray) 6).bind fun t182 => (if t182 = true then ((falls9.f k (⟨#[51, 47, 49]⟩ : ByteArray) 6).bind fun t183 => (if t183 = true then ((falls9.f k (⟨#[45, 48]⟩ : ByteArray) 6).bind fun t184 => (if t184 = true then ((falls9.f k (⟨#[48, 47, 51]⟩ : ByteArray) 6).bind fun t185 => (if t185 = true then ((falls9.f k (⟨#[49, 47, 48]⟩ : ByteArray) 6).bind fun t186 => (if t186 = true then ((falls9.f k (⟨#[48, 49, 47, 50]⟩ : ByteArray) 19).bind fun t187 => (if t187 = true then ((falls9.f k (⟨#[49, 47]⟩ : ByteArray) 19).bind fun t188 => (if t188 = true then ((falls9.f k (⟨#[45, 47, 50]⟩ : ByteArray) 19).bind fun t189 => (if t189 = true then ((falls9.f k (⟨#[49, 47, 45, 50]⟩ : ByteArray) 19).bind fun t190 => (if t190 = true then ((falls9.f k (⟨#[43, 49]⟩ : ByteArray) 19).bind fun t191 => (some t191)) else (none))) else (none))) else (none))) else (none))) else (none))) else (none))) else (none))) else (none))) else (none))) else (none)) else (none)) else (none)) else (none))) else (none))) = some r := by first | (rw [hy168]; with_reducible exact H) | (have H2_ := (Option.bind_some _ _).symm.trans H; rw [hy168]; with_reducible exact H2_) | (have H2_ := (Option.bind_some _ _).symm.trans H; with_reducible exact H2_) | with_reducible exact H | (rw [hy168]; exact H) | exact H
  have Ny168 := Aside0.mk hy168
  clear hy168
  obtain ⟨y171, hy171⟩ : ∃ y_ : List Int, y_ = (([4] : List Int)) := ⟨_, rfl⟩
  replace H : ((digits_Rat.f k true y168 y171).bind fun t174 => (if t174.toList = ([45, 51, 47, 52] : List UInt8) then ((digits_Rat.f k false (([7] : List Int)) (([1] : List Int))).bind fun t181 => (if t181.toList = ([55] : List UInt8) then (if t153 = 19 then (if t157 = 19 then (if t161 = 19 then ((falls9.f k (⟨#[50, 47, 52]⟩ : ByteArray) 6).bind fun t182 => (if t182 = true then ((falls9.f k (⟨#[51, 47, 49]⟩ : ByteArray) 6).bind fun t183 => (if t183 = true then ((falls9.f k (⟨#[45, 48]⟩ : ByteArray) 6).bind fun t184 => (if t184 = true then ((falls9.f k (⟨#[48, 47, 51]⟩ : ByteArray) 6).bind fun t185 => (if t185 = true then ((falls9.f k (⟨#[49, 47, 48]⟩ : ByteArray) 6).bind fun t186 => (if t186 = true then ((falls9.f k (⟨#[48, 49, 47, 50]⟩ : ByteArray) 19).bind fun t187 => (if t187 = true then ((falls9.f k (⟨#[49, 47]⟩ : ByteArray) 19).bind fun t188 => (if t188 = true then ((falls9.f k (⟨#[45, 47, 50]⟩ : ByteArray) 19).bind fun t189 => (if t189 = true then ((falls9.f k (⟨#[49, 47, 45, 50]⟩ : ByteArray) 19).bind fun t190 => (if t190 = true then ((falls9.f k (⟨#[43, 49]⟩ : ByteArray) 19).bind fun t191 => (some t191)) else (none))) else (none))) else (none))) else (none))) else (none))) else (none))) else (none))) else (none))) else (none))) else (none)) else (none)) else (none)) else (none))) else (none))) = some r := by first | (rw [hy171]; with_reducible exact H) | (have H2_ := (Option.bind_some _ _).symm.trans H; rw [hy171]; with_reducible exact H2_) | (have H2_ := (Option.bind_some _ _).symm.trans H; with_reducible exact H2_) | with_reducible exact H | (rw [hy171]; exact H) | exact H
  have Ny171 := Aside0.mk hy171
  clear hy171
  replace H := Option.bind_eq_some_iff.mp H
  obtain ⟨t174, A60, H⟩ := H
  (try dsimp only at H)
  have A6 := Aside0.mk A60
  clear A60
  by_cases c7 : t174.toList = ([45, 51, 47, 52] : List UInt8)
  ·rw [if_pos c7] at H
   have c7b0 : (t174.toList == ([45, 51, 47, 52] : List UInt8)) = true := beq_iff_eq.mpr c7
   have c7b1 : (t174.toList != ([45, 51, 47, 52] : List UInt8)) = false := bne_eq_false_iff_eq.mpr c7
   clear c7
   obtain ⟨y175, hy175⟩ : ∃ y_ : List Int, y_ = (([7] : List Int)) := ⟨_, rfl⟩
   replace H : ((digits_Rat.f k false y175 (([1] : List Int))).bind fun t181 => (if t181.toList = ([55] : List UInt8) then (if t153 = 19 then (if t157 = 19 then (if t161 = 19 then ((falls9.f k (⟨#[50, 47, 52]⟩ : ByteArray) 6).bind fun t182 => (if t182 = true then ((falls9.f k (⟨#[51, 47, 49]⟩ : ByteArray) 6).bind fun t183 => (if t183 = true then ((falls9.f k (⟨#[45, 48]⟩ : ByteArray) 6).bind fun t184 => (if t184 = true then ((falls9.f k (⟨#[48, 47, 51]⟩ : ByteArray) 6).bind fun t185 => (if t185 = true then ((falls9.f k (⟨#[49, 47, 48]⟩ : ByteArray) 6).bind fun t186 => (if t186 = true then ((falls9.f k (⟨#[48, 49, 47, 50]⟩ : ByteArray) 19).bind fun t187 => (if t187 = true then ((falls9.f k (⟨#[49, 47]⟩ : ByteArray) 19).bind fun t188 => (if t188 = true then ((falls9.f k (⟨#[45, 47, 50]⟩ : ByteArray) 19).bind fun t189 => (if t189 = true then ((falls9.f k (⟨#[49, 47, 45, 50]⟩ : ByteArray) 19).bind fun t190 => (if t190 = true then ((falls9.f k (⟨#[43, 49]⟩ : ByteArray) 19).bind fun t191 => (some t191)) else (none))) else (none))) else (none))) else (none))) else (none))) else (none))) else (none))) else (none))) else (none))) else (none)) else (none)) else (none)) else (none))) = some r := by first | (rw [hy175]; with_reducible exact H) | (have H2_ := (Option.bind_some _ _).symm.trans H; rw [hy175]; with_reducible exact H2_) | (have H2_ := (Option.bind_some _ _).symm.trans H; with_reducible exact H2_) | with_reducible exact H | (rw [hy175]; exact H) | exact H
   have Ny175 := Aside0.mk hy175
   clear hy175
   obtain ⟨y178, hy178⟩ : ∃ y_ : List Int, y_ = (([1] : List Int)) := ⟨_, rfl⟩
   replace H : ((digits_Rat.f k false y175 y178).bind fun t181 => (if t181.toList = ([55] : List UInt8) then (if t153 = 19 then (if t157 = 19 then (if t161 = 19 then ((falls9.f k (⟨#[50, 47, 52]⟩ : ByteArray) 6).bind fun t182 => (if t182 = true then ((falls9.f k (⟨#[51, 47, 49]⟩ : ByteArray) 6).bind fun t183 => (if t183 = true then ((falls9.f k (⟨#[45, 48]⟩ : ByteArray) 6).bind fun t184 => (if t184 = true then ((falls9.f k (⟨#[48, 47, 51]⟩ : ByteArray) 6).bind fun t185 => (if t185 = true then ((falls9.f k (⟨#[49, 47, 48]⟩ : ByteArray) 6).bind fun t186 => (if t186 = true then ((falls9.f k (⟨#[48, 49, 47, 50]⟩ : ByteArray) 19).bind fun t187 => (if t187 = true then ((falls9.f k (⟨#[49, 47]⟩ : ByteArray) 19).bind fun t188 => (if t188 = true then ((falls9.f k (⟨#[45, 47, 50]⟩ : ByteArray) 19).bind fun t189 => (if t189 = true then ((falls9.f k (⟨#[49, 47, 45, 50]⟩ : ByteArray) 19).bind fun t190 => (if t190 = true then ((falls9.f k (⟨#[43, 49]⟩ : ByteArray) 19).bind fun t191 => (some t191)) else (none))) else (none))) else (none))) else (none))) else (none))) else (none))) else (none))) else (none))) else (none))) else (none)) else (none)) else (none)) else (none))) = some r := by first | (rw [hy178]; with_reducible exact H) | (have H2_ := (Option.bind_some _ _).symm.trans H; rw [hy178]; with_reducible exact H2_) | (have H2_ := (Option.bind_some _ _).symm.trans H; with_reducible exact H2_) | with_reducible exact H | (rw [hy178]; exact H) | exact H
   have Ny178 := Aside0.mk hy178
   clear hy178
   replace H := Option.bind_eq_some_iff.mp H
   obtain ⟨t181, A80, H⟩ := H
   (try dsimp only at H)
   have A8 := Aside0.mk A80
   clear A80
   by_cases c9 : t181.toList = ([55] : List UInt8)
   ·rw [if_pos c9] at H
    have c9b0 : (t181.toList == ([55] : List UInt8)) = true := beq_iff_eq.mpr c9
    have c9b1 : (t181.toList != ([55] : List UInt8)) = false := bne_eq_false_iff_eq.mpr c9
    clear c9
    by_cases c10 : t153 = 19
    ·rw [if_pos c10] at H
     have c10b0 : (t153 == 19) = true := beq_iff_eq.mpr c10
     have c10b1 : (t153 != 19) = false := bne_eq_false_iff_eq.mpr c10
     clear c10
     by_cases c11 : t157 = 19
     ·rw [if_pos c11] at H
      have c11b0 : (t157 == 19) = true := beq_iff_eq.mpr c11
      have c11b1 : (t157 != 19) = false := bne_eq_false_iff_eq.mpr c11
      clear c11
      by_cases c12 : t161 = 19
      ·rw [if_pos c12] at H
       have c12b0 : (t161 == 19) = true := beq_iff_eq.mpr c12
       have c12b1 : (t161 != 19) = false := bne_eq_false_iff_eq.mpr c12
       clear c12
       replace H := Option.bind_eq_some_iff.mp H
       obtain ⟨t182, A130, H⟩ := H
       (try dsimp only at H)
       have A13 := Aside0.mk A130
       clear A130
       by_cases c14 : t182 = true
       ·subst c14
        have H1 : ((falls9.f k (⟨#[51, 47, 49]⟩ : ByteArray) 6).bind fun t183 => (if t183 = true then ((falls9.f k (⟨#[45, 48]⟩ : ByteArray) 6).bind fun t184 => (if t184 = true then ((falls9.f k (⟨#[48, 47, 51]⟩ : ByteArray) 6).bind fun t185 => (if t185 = true then ((falls9.f k (⟨#[49, 47, 48]⟩ : ByteArray) 6).bind fun t186 => (if t186 = true then ((falls9.f k (⟨#[48, 49, 47, 50]⟩ : ByteArray) 19).bind fun t187 => (if t187 = true then ((falls9.f k (⟨#[49, 47]⟩ : ByteArray) 19).bind fun t188 => (if t188 = true then ((falls9.f k (⟨#[45, 47, 50]⟩ : ByteArray) 19).bind fun t189 => (if t189 = true then ((falls9.f k (⟨#[49, 47, 45, 50]⟩ : ByteArray) 19).bind fun t190 => (if t190 = true then ((falls9.f k (⟨#[43, 49]⟩ : ByteArray) 19).bind fun t191 => (some t191)) else (none))) else (none))) else (none))) else (none))) else (none))) else (none))) else (none))) else (none))) = some r := by rw [if_pos rfl] at H; exact H
        clear H
        have H := H1
        clear H1
        replace H := Option.bind_eq_some_iff.mp H
        obtain ⟨t183, A150, H⟩ := H
        (try dsimp only at H)
        have A15 := Aside0.mk A150
        clear A150
        by_cases c16 : t183 = true
        ·subst c16
         have H1 : ((falls9.f k (⟨#[45, 48]⟩ : ByteArray) 6).bind fun t184 => (if t184 = true then ((falls9.f k (⟨#[48, 47, 51]⟩ : ByteArray) 6).bind fun t185 => (if t185 = true then ((falls9.f k (⟨#[49, 47, 48]⟩ : ByteArray) 6).bind fun t186 => (if t186 = true then ((falls9.f k (⟨#[48, 49, 47, 50]⟩ : ByteArray) 19).bind fun t187 => (if t187 = true then ((falls9.f k (⟨#[49, 47]⟩ : ByteArray) 19).bind fun t188 => (if t188 = true then ((falls9.f k (⟨#[45, 47, 50]⟩ : ByteArray) 19).bind fun t189 => (if t189 = true then ((falls9.f k (⟨#[49, 47, 45, 50]⟩ : ByteArray) 19).bind fun t190 => (if t190 = true then ((falls9.f k (⟨#[43, 49]⟩ : ByteArray) 19).bind fun t191 => (some t191)) else (none))) else (none))) else (none))) else (none))) else (none))) else (none))) else (none))) = some r := by rw [if_pos rfl] at H; exact H
         clear H
         have H := H1
         clear H1
         replace H := Option.bind_eq_some_iff.mp H
         obtain ⟨t184, A170, H⟩ := H
         (try dsimp only at H)
         have A17 := Aside0.mk A170
         clear A170
         by_cases c18 : t184 = true
         ·subst c18
          have H1 : ((falls9.f k (⟨#[48, 47, 51]⟩ : ByteArray) 6).bind fun t185 => (if t185 = true then ((falls9.f k (⟨#[49, 47, 48]⟩ : ByteArray) 6).bind fun t186 => (if t186 = true then ((falls9.f k (⟨#[48, 49, 47, 50]⟩ : ByteArray) 19).bind fun t187 => (if t187 = true then ((falls9.f k (⟨#[49, 47]⟩ : ByteArray) 19).bind fun t188 => (if t188 = true then ((falls9.f k (⟨#[45, 47, 50]⟩ : ByteArray) 19).bind fun t189 => (if t189 = true then ((falls9.f k (⟨#[49, 47, 45, 50]⟩ : ByteArray) 19).bind fun t190 => (if t190 = true then ((falls9.f k (⟨#[43, 49]⟩ : ByteArray) 19).bind fun t191 => (some t191)) else (none))) else (none))) else (none))) else (none))) else (none))) else (none))) = some r := by rw [if_pos rfl] at H; exact H
          clear H
          have H := H1
          clear H1
          replace H := Option.bind_eq_some_iff.mp H
          obtain ⟨t185, A190, H⟩ := H
          (try dsimp only at H)
          have A19 := Aside0.mk A190
          clear A190
          by_cases c20 : t185 = true
          ·subst c20
           have H1 : ((falls9.f k (⟨#[49, 47, 48]⟩ : ByteArray) 6).bind fun t186 => (if t186 = true then ((falls9.f k (⟨#[48, 49, 47, 50]⟩ : ByteArray) 19).bind fun t187 => (if t187 = true then ((falls9.f k (⟨#[49, 47]⟩ : ByteArray) 19).bind fun t188 => (if t188 = true then ((falls9.f k (⟨#[45, 47, 50]⟩ : ByteArray) 19).bind fun t189 => (if t189 = true then ((falls9.f k (⟨#[49, 47, 45, 50]⟩ : ByteArray) 19).bind fun t190 => (if t190 = true then ((falls9.f k (⟨#[43, 49]⟩ : ByteArray) 19).bind fun t191 => (some t191)) else (none))) else (none))) else (none))) else (none))) else (none))) = some r := by rw [if_pos rfl] at H; exact H
           clear H
           have H := H1
           clear H1
           replace H := Option.bind_eq_some_iff.mp H
           obtain ⟨t186, A210, H⟩ := H
           (try dsimp only at H)
           have A21 := Aside0.mk A210
           clear A210
           by_cases c22 : t186 = true
           ·subst c22
            have H1 : ((falls9.f k (⟨#[48, 49, 47, 50]⟩ : ByteArray) 19).bind fun t187 => (if t187 = true then ((falls9.f k (⟨#[49, 47]⟩ : ByteArray) 19).bind fun t188 => (if t188 = true then ((falls9.f k (⟨#[45, 47, 50]⟩ : ByteArray) 19).bind fun t189 => (if t189 = true then ((falls9.f k (⟨#[49, 47, 45, 50]⟩ : ByteArray) 19).bind fun t190 => (if t190 = true then ((falls9.f k (⟨#[43, 49]⟩ : ByteArray) 19).bind fun t191 => (some t191)) else (none))) else (none))) else (none))) else (none))) = some r := by rw [if_pos rfl] at H; exact H
            clear H
            have H := H1
            clear H1
            replace H := Option.bind_eq_some_iff.mp H
            obtain ⟨t187, A230, H⟩ := H
            (try dsimp only at H)
            have A23 := Aside0.mk A230
            clear A230
            by_cases c24 : t187 = true
            ·subst c24
             have H1 : ((falls9.f k (⟨#[49, 47]⟩ : ByteArray) 19).bind fun t188 => (if t188 = true then ((falls9.f k (⟨#[45, 47, 50]⟩ : ByteArray) 19).bind fun t189 => (if t189 = true then ((falls9.f k (⟨#[49, 47, 45, 50]⟩ : ByteArray) 19).bind fun t190 => (if t190 = true then ((falls9.f k (⟨#[43, 49]⟩ : ByteArray) 19).bind fun t191 => (some t191)) else (none))) else (none))) else (none))) = some r := by rw [if_pos rfl] at H; exact H
             clear H
             have H := H1
             clear H1
             replace H := Option.bind_eq_some_iff.mp H
             obtain ⟨t188, A250, H⟩ := H
             (try dsimp only at H)
             have A25 := Aside0.mk A250
             clear A250
             by_cases c26 : t188 = true
             ·subst c26
              have H1 : ((falls9.f k (⟨#[45, 47, 50]⟩ : ByteArray) 19).bind fun t189 => (if t189 = true then ((falls9.f k (⟨#[49, 47, 45, 50]⟩ : ByteArray) 19).bind fun t190 => (if t190 = true then ((falls9.f k (⟨#[43, 49]⟩ : ByteArray) 19).bind fun t191 => (some t191)) else (none))) else (none))) = some r := by rw [if_pos rfl] at H; exact H
              clear H
              have H := H1
              clear H1
              replace H := Option.bind_eq_some_iff.mp H
              obtain ⟨t189, A270, H⟩ := H
              (try dsimp only at H)
              have A27 := Aside0.mk A270
              clear A270
              by_cases c28 : t189 = true
              ·subst c28
               have H1 : ((falls9.f k (⟨#[49, 47, 45, 50]⟩ : ByteArray) 19).bind fun t190 => (if t190 = true then ((falls9.f k (⟨#[43, 49]⟩ : ByteArray) 19).bind fun t191 => (some t191)) else (none))) = some r := by rw [if_pos rfl] at H; exact H
               clear H
               have H := H1
               clear H1
               replace H := Option.bind_eq_some_iff.mp H
               obtain ⟨t190, A290, H⟩ := H
               (try dsimp only at H)
               have A29 := Aside0.mk A290
               clear A290
               by_cases c30 : t190 = true
               ·subst c30
                have H1 : ((falls9.f k (⟨#[43, 49]⟩ : ByteArray) 19).bind fun t191 => (some t191)) = some r := by rw [if_pos rfl] at H; exact H
                clear H
                have H := H1
                clear H1
                replace H := Option.bind_eq_some_iff.mp H
                obtain ⟨t191, A310, H⟩ := H
                replace H : (some t191) = some r := H
                have A31 := Aside0.mk A310
                clear A310
                obtain rfl := Option.some.inj H
                go_enter Tryz.func15, Tryz.ntmps15
                go_wp2_with (first | ((with_reducible refine gC9 (f := 12) rfl ?_); refine goesL_ (some 8) rfl rfl Tryz.func12 (by kernel_rfl) rfl #[.string (⟨#[48, 48, 55]⟩ : ByteArray)] rfl (by (try simp only [List.map_toArray, List.map_cons, List.map_nil]); first | done | rfl | (simp only [List.length_drop, List.length_take]; rfl)) ?_; (with_reducible refine (digits_ParseNat.calls (⟨#[48, 48, 55]⟩ : ByteArray) t152 t153 _ A1.out).mono ?_); rintro e w32 ⟨v154, rfl, ho0, hb⟩; refine ⟨_, rfl, ?_⟩; have n0_ := Aside0.mk (Kd.rL9 ho0 (bZ9 (by repeat (first | (with_reducible first | exact HB.out | apply bA9 | apply bN9 | apply bD9) | exact HB.out)))); have n1_ := Aside0.mk (bT9 (by repeat (first | (with_reducible first | exact HB.out | apply bA9 | apply bN9 | apply bD9) | exact HB.out)) hb); clear HB; have HO155 := n0_; have HB := n1_; clear n0_ n1_; (try clear hb); (try clear hb2); (try clear hk); (try clear hi); (try clear ho0)) | ((with_reducible refine gC9 (f := 12) rfl ?_); refine goesL_ (some 12) rfl rfl Tryz.func12 (by kernel_rfl) rfl #[.string (⟨#[49, 120]⟩ : ByteArray)] rfl (by (try simp only [List.map_toArray, List.map_cons, List.map_nil]); first | done | rfl | (simp only [List.length_drop, List.length_take]; rfl)) ?_; (with_reducible refine (digits_ParseNat.calls (⟨#[49, 120]⟩ : ByteArray) t156 t157 _ A2.out).mono ?_); rintro e w33 ⟨v158, rfl, ho0, hb⟩; refine ⟨_, rfl, ?_⟩; have n0_ := Aside0.mk (Kd.R_elder' (by (with_reducible repeat (first | apply Kd.rA9 | apply Kd.rN9 | apply Kd.rD9)); exact HO155.out) (Kd.R_base ho0) hb); have n1_ := Aside0.mk (Kd.rL9 (Kd.R_new' ho0 (Kd.R_lt (by (with_reducible repeat (first | apply Kd.rA9 | apply Kd.rN9 | apply Kd.rD9)); exact HO155.out))) (bZ9 (by repeat (first | (with_reducible first | exact HB.out | apply bA9 | apply bN9 | apply bD9) | exact HB.out)))); have n2_ := Aside0.mk (bT9 (by repeat (first | (with_reducible first | exact HB.out | apply bA9 | apply bN9 | apply bD9) | exact HB.out)) hb); clear HO155; clear HB; have HO155 := n0_; have HO159 := n1_; have HB := n2_; clear n0_ n1_ n2_; (try clear hb); (try clear hb2); (try clear hk); (try clear hi); (try clear ho0)) | ((with_reducible refine gC9 (f := 12) rfl ?_); refine goesL_ (some 16) rfl rfl Tryz.func12 (by kernel_rfl) rfl #[.string (⟨#[]⟩ : ByteArray)] rfl (by (try simp only [List.map_toArray, List.map_cons, List.map_nil]); first | done | rfl | (simp only [List.length_drop, List.length_take]; rfl)) ?_; (with_reducible refine (digits_ParseNat.calls (⟨#[]⟩ : ByteArray) t160 t161 _ A3.out).mono ?_); rintro e w34 ⟨v162, rfl, ho0, hb⟩; refine ⟨_, rfl, ?_⟩; have n0_ := Aside0.mk (Kd.R_elder' (by (with_reducible repeat (first | apply Kd.rA9 | apply Kd.rN9 | apply Kd.rD9)); exact HO155.out) (Kd.R_base ho0) hb); have n1_ := Aside0.mk (Kd.R_elder' (by (with_reducible repeat (first | apply Kd.rA9 | apply Kd.rN9 | apply Kd.rD9)); exact HO159.out) (Kd.R_base ho0) hb); have n2_ := Aside0.mk (Kd.rL9 (Kd.R_new' (Kd.R_new' ho0 (Kd.R_lt (by (with_reducible repeat (first | apply Kd.rA9 | apply Kd.rN9 | apply Kd.rD9)); exact HO155.out))) (Kd.R_lt (by (with_reducible repeat (first | apply Kd.rA9 | apply Kd.rN9 | apply Kd.rD9)); exact HO159.out))) (bZ9 (by repeat (first | (with_reducible first | exact HB.out | apply bA9 | apply bN9 | apply bD9) | exact HB.out)))); have n3_ := Aside0.mk (bT9 (by repeat (first | (with_reducible first | exact HB.out | apply bA9 | apply bN9 | apply bD9) | exact HB.out)) hb); clear HO155; clear HO159; clear HB; have HO155 := n0_; have HO159 := n1_; have HO163 := n2_; have HB := n3_; clear n0_ n1_ n2_ n3_; (try clear hb); (try clear hb2); (try clear hk); (try clear hi); (try clear ho0)) | ((with_reducible refine gD9 (N := 19) rfl ?_); (try (refine gate_guard (by rfl) ?_; dsimp only)); refine Kd.R_lit (Kd.int .u32) _ 56 ?hg (N := 19) ?hd (xs := ([0, 1] : List Int)) (inner := [.int .u32 0, .int .u32 1]) (ok := fun _ => True) (okp := fun _ => True) ?hr ?hp (fun _ hk => hk) trivial (Below.refl _ _) (Nat.le_refl _) (by simp) ?_; (case hd => rfl); (case hg => rfl); (case hr => first | (go_simp; done) | (go_simp; rfl)); (case hp => exact (Reps.one (show Kd.M (Kd.int .u32) _ _ _ 0 [.int .u32 0] from rfl) (Reps.one (show Kd.M (Kd.int .u32) _ _ _ 1 [.int .u32 1] from rfl) (Reps.none _ _)))); intro v165 w35 ho36 hb hg_ hnew_; clear hg_ hnew_; (first | rw [← Ny164.out] at ho36 | (simp only [Int.reduceToNat] at ho36; rw [← Ny164.out] at ho36)); have n0_ := Aside0.mk (Kd.R_elder' (by (with_reducible repeat (first | apply Kd.rA9 | apply Kd.rN9 | apply Kd.rD9)); exact HO155.out) (Kd.R_base ho36) hb); have n1_ := Aside0.mk (Kd.R_elder' (by (with_reducible repeat (first | apply Kd.rA9 | apply Kd.rN9 | apply Kd.rD9)); exact HO159.out) (Kd.R_base ho36) hb); have n2_ := Aside0.mk (Kd.R_elder' (by (with_reducible repeat (first | apply Kd.rA9 | apply Kd.rN9 | apply Kd.rD9)); exact HO163.out) (Kd.R_base ho36) hb); have n3_ := Aside0.mk (Kd.rL9 (Kd.R_new' (Kd.R_new' (Kd.R_new' ho36 (Kd.R_lt (by (with_reducible repeat (first | apply Kd.rA9 | apply Kd.rN9 | apply Kd.rD9)); exact HO155.out))) (Kd.R_lt (by (with_reducible repeat (first | apply Kd.rA9 | apply Kd.rN9 | apply Kd.rD9)); exact HO159.out))) (Kd.R_lt (by (with_reducible repeat (first | apply Kd.rA9 | apply Kd.rN9 | apply Kd.rD9)); exact HO163.out))) (bZ9 (by repeat (first | (with_reducible first | exact HB.out | apply bA9 | apply bN9 | apply bD9) | exact HB.out)))); have n4_ := Aside0.mk (bT9 (by repeat (first | (with_reducible first | exact HB.out | apply bA9 | apply bN9 | apply bD9) | exact HB.out)) hb); clear HO155; clear HO159; clear HO163; clear HB; have HO155 := n0_; have HO159 := n1_; have HO163 := n2_; have HO166 := n3_; have HB := n4_; clear n0_ n1_ n2_ n3_ n4_; clear hb ho36; obtain ⟨Ao37, co37, eo37⟩ := Kd.rS9 HO166.out; subst eo37) | ((with_reducible refine gC9 (f := 23) rfl ?_); refine goesL_ (some 20) rfl rfl Tryz.func23 (by kernel_rfl) rfl #[.slice Ao37 y164.length co37] rfl (by (try simp only [List.map_toArray, List.map_cons, List.map_nil]); first | done | rfl | (simp only [List.length_drop, List.length_take]; rfl)) ?_; (with_reducible refine (digits_Nat.calls _ _ y164 t167 _ (PowTab.below HT.out (by repeat (first | (with_reducible first | exact HB.out | apply bA9 | apply bN9 | apply bD9) | exact HB.out))) ?side1 ?side2 A4.out).mono ?_); (case side1 => repeat (first | exact (Kd.rR9 HO166.out).2.2 | (with_reducible refine Kd.cA9 ?_ _) | (with_reducible refine Kd.cN9 ?_ _) | (with_reducible refine Kd.cD9 ?_))); (case side2 => exact (Kd.rR9 HO166.out).2.1); rintro e w38 ⟨rfl, hb⟩; refine ⟨_, rfl, ?_⟩; have n0_ := Aside0.mk (Kd.rB9 (by (with_reducible repeat (first | apply Kd.rA9 | apply Kd.rN9 | apply Kd.rD9)); exact HO155.out) hb); have n1_ := Aside0.mk (Kd.rB9 (by (with_reducible repeat (first | apply Kd.rA9 | apply Kd.rN9 | apply Kd.rD9)); exact HO159.out) hb); have n2_ := Aside0.mk (Kd.rB9 (by (with_reducible repeat (first | apply Kd.rA9 | apply Kd.rN9 | apply Kd.rD9)); exact HO163.out) hb); have n3_ := Aside0.mk (Kd.rB9 (by (with_reducible repeat (first | apply Kd.rA9 | apply Kd.rN9 | apply Kd.rD9)); exact HO166.out) hb); have n4_ := Aside0.mk (bT9 (by repeat (first | (with_reducible first | exact HB.out | apply bA9 | apply bN9 | apply bD9) | exact HB.out)) hb); clear HO155; clear HO159; clear HO163; clear HO166; clear HB; have HO155 := n0_; have HO159 := n1_; have HO163 := n2_; have HO166 := n3_; have HB := n4_; clear n0_ n1_ n2_ n3_ n4_; (try clear hb); (try clear hb2); (try clear hk); (try clear hi)) | ((with_reducible refine gD9 (N := 23) rfl ?_); (try (refine gate_guard (by rfl) ?_; dsimp only)); refine Kd.R_lit (Kd.int .u32) _ 56 ?hg (N := 23) ?hd (xs := ([3] : List Int)) (inner := [.int .u32 3]) (ok := fun _ => True) (okp := fun _ => True) ?hr ?hp (fun _ hk => hk) trivial (Below.refl _ _) (Nat.le_refl _) (by simp) ?_; (case hd => rfl); (case hg => rfl); (case hr => first | (go_simp; done) | (go_simp; rfl)); (case hp => exact (Reps.one (show Kd.M (Kd.int .u32) _ _ _ 3 [.int .u32 3] from rfl) (Reps.none _ _))); intro v169 w39 ho40 hb hg_ hnew_; clear hg_ hnew_; (first | rw [← Ny168.out] at ho40 | (simp only [Int.reduceToNat] at ho40; rw [← Ny168.out] at ho40)); have n0_ := Aside0.mk (Kd.R_elder' (by (with_reducible repeat (first | apply Kd.rA9 | apply Kd.rN9 | apply Kd.rD9)); exact HO155.out) (Kd.R_base ho40) hb); have n1_ := Aside0.mk (Kd.R_elder' (by (with_reducible repeat (first | apply Kd.rA9 | apply Kd.rN9 | apply Kd.rD9)); exact HO159.out) (Kd.R_base ho40) hb); have n2_ := Aside0.mk (Kd.R_elder' (by (with_reducible repeat (first | apply Kd.rA9 | apply Kd.rN9 | apply Kd.rD9)); exact HO163.out) (Kd.R_base ho40) hb); have n3_ := Aside0.mk (Kd.R_elder' (by (with_reducible repeat (first | apply Kd.rA9 | apply Kd.rN9 | apply Kd.rD9)); exact HO166.out) (Kd.R_base ho40) hb); have n4_ := Aside0.mk (Kd.rL9 (Kd.R_new' (Kd.R_new' (Kd.R_new' (Kd.R_new' ho40 (Kd.R_lt (by (with_reducible repeat (first | apply Kd.rA9 | apply Kd.rN9 | apply Kd.rD9)); exact HO155.out))) (Kd.R_lt (by (with_reducible repeat (first | apply Kd.rA9 | apply Kd.rN9 | apply Kd.rD9)); exact HO159.out))) (Kd.R_lt (by (with_reducible repeat (first | apply Kd.rA9 | apply Kd.rN9 | apply Kd.rD9)); exact HO163.out))) (Kd.R_lt (by (with_reducible repeat (first | apply Kd.rA9 | apply Kd.rN9 | apply Kd.rD9)); exact HO166.out))) (bZ9 (by repeat (first | (with_reducible first | exact HB.out | apply bA9 | apply bN9 | apply bD9) | exact HB.out)))); have n5_ := Aside0.mk (bT9 (by repeat (first | (with_reducible first | exact HB.out | apply bA9 | apply bN9 | apply bD9) | exact HB.out)) hb); clear HO155; clear HO159; clear HO163; clear HO166; clear HB; have HO155 := n0_; have HO159 := n1_; have HO163 := n2_; have HO166 := n3_; have HO170 := n4_; have HB := n5_; clear n0_ n1_ n2_ n3_ n4_ n5_; clear hb ho40) | ((with_reducible refine gD9 (N := 24) rfl ?_); (try (refine gate_guard (by rfl) ?_; dsimp only)); refine Kd.R_lit (Kd.int .u32) _ 56 ?hg (N := 24) ?hd (xs := ([4] : List Int)) (inner := [.int .u32 4]) (ok := fun _ => True) (okp := fun _ => True) ?hr ?hp (fun _ hk => hk) trivial (Below.refl _ _) (Nat.le_refl _) (by simp) ?_; (case hd => rfl); (case hg => rfl); (case hr => first | (go_simp; done) | (go_simp; rfl)); (case hp => exact (Reps.one (show Kd.M (Kd.int .u32) _ _ _ 4 [.int .u32 4] from rfl) (Reps.none _ _))); intro v172 w41 ho42 hb hg_ hnew_; clear hg_ hnew_; (first | rw [← Ny171.out] at ho42 | (simp only [Int.reduceToNat] at ho42; rw [← Ny171.out] at ho42)); have n0_ := Aside0.mk (Kd.R_elder' (by (with_reducible repeat (first | apply Kd.rA9 | apply Kd.rN9 | apply Kd.rD9)); exact HO155.out) (Kd.R_base ho42) hb); have n1_ := Aside0.mk (Kd.R_elder' (by (with_reducible repeat (first | apply Kd.rA9 | apply Kd.rN9 | apply Kd.rD9)); exact HO159.out) (Kd.R_base ho42) hb); have n2_ := Aside0.mk (Kd.R_elder' (by (with_reducible repeat (first | apply Kd.rA9 | apply Kd.rN9 | apply Kd.rD9)); exact HO163.out) (Kd.R_base ho42) hb); have n3_ := Aside0.mk (Kd.R_elder' (by (with_reducible repeat (first | apply Kd.rA9 | apply Kd.rN9 | apply Kd.rD9)); exact HO166.out) (Kd.R_base ho42) hb); have n4_ := Aside0.mk (Kd.R_elder' (by (with_reducible repeat (first | apply Kd.rA9 | apply Kd.rN9 | apply Kd.rD9)); exact HO170.out) (Kd.R_base ho42) hb); have n5_ := Aside0.mk (Kd.rL9 (Kd.R_new' (Kd.R_new' (Kd.R_new' (Kd.R_new' (Kd.R_new' ho42 (Kd.R_lt (by (with_reducible repeat (first | apply Kd.rA9 | apply Kd.rN9 | apply Kd.rD9)); exact HO155.out))) (Kd.R_lt (by (with_reducible repeat (first | apply Kd.rA9 | apply Kd.rN9 | apply Kd.rD9)); exact HO159.out))) (Kd.R_lt (by (with_reducible repeat (first | apply Kd.rA9 | apply Kd.rN9 | apply Kd.rD9)); exact HO163.out))) (Kd.R_lt (by (with_reducible repeat (first | apply Kd.rA9 | apply Kd.rN9 | apply Kd.rD9)); exact HO166.out))) (Kd.R_lt (by (with_reducible repeat (first | apply Kd.rA9 | apply Kd.rN9 | apply Kd.rD9)); exact HO170.out))) (bZ9 (by repeat (first | (with_reducible first | exact HB.out | apply bA9 | apply bN9 | apply bD9) | exact HB.out)))); have n6_ := Aside0.mk (bT9 (by repeat (first | (with_reducible first | exact HB.out | apply bA9 | apply bN9 | apply bD9) | exact HB.out)) hb); clear HO155; clear HO159; clear HO163; clear HO166; clear HO170; clear HB; have HO155 := n0_; have HO159 := n1_; have HO163 := n2_; have HO166 := n3_; have HO170 := n4_; have HO173 := n5_; have HB := n6_; clear n0_ n1_ n2_ n3_ n4_ n5_ n6_; clear hb ho42; obtain ⟨Ao43, co43, eo43⟩ := Kd.rS9 HO173.out; subst eo43; obtain ⟨Ao44, co44, eo44⟩ := Kd.rS9 HO170.out; subst eo44) | (go_at_call 16; (with_reducible refine (digits_Rat.calls k true _ _ y168 _ _ y171 t174 _ (PowTab.below HT.out (by repeat (first | (with_reducible first | exact HB.out | apply bA9 | apply bN9 | apply bD9) | exact HB.out))) ?side1 ?side2 ?side3 ?side4 A6.out).mono ?_); (case side1 => repeat (first | exact (Kd.rR9 HO170.out).2.2 | (with_reducible refine Kd.cA9 ?_ _) | (with_reducible refine Kd.cN9 ?_ _) | (with_reducible refine Kd.cD9 ?_))); (case side2 => exact (Kd.rR9 HO170.out).2.1); (case side3 => repeat (first | exact (Kd.rR9 HO173.out).2.2 | (with_reducible refine Kd.cA9 ?_ _) | (with_reducible refine Kd.cN9 ?_ _) | (with_reducible refine Kd.cD9 ?_))); (case side4 => exact (Kd.rR9 HO173.out).2.1); rintro e w45 ⟨rfl, hb⟩; have n0_ := Aside0.mk (Kd.rB9 (by (with_reducible repeat (first | apply Kd.rA9 | apply Kd.rN9 | apply Kd.rD9)); exact HO155.out) hb); have n1_ := Aside0.mk (Kd.rB9 (by (with_reducible repeat (first | apply Kd.rA9 | apply Kd.rN9 | apply Kd.rD9)); exact HO159.out) hb); have n2_ := Aside0.mk (Kd.rB9 (by (with_reducible repeat (first | apply Kd.rA9 | apply Kd.rN9 | apply Kd.rD9)); exact HO163.out) hb); have n3_ := Aside0.mk (Kd.rB9 (by (with_reducible repeat (first | apply Kd.rA9 | apply Kd.rN9 | apply Kd.rD9)); exact HO166.out) hb); have n4_ := Aside0.mk (Kd.rB9 (by (with_reducible repeat (first | apply Kd.rA9 | apply Kd.rN9 | apply Kd.rD9)); exact HO170.out) hb); have n5_ := Aside0.mk (Kd.rB9 (by (with_reducible repeat (first | apply Kd.rA9 | apply Kd.rN9 | apply Kd.rD9)); exact HO173.out) hb); have n6_ := Aside0.mk (bT9 (by repeat (first | (with_reducible first | exact HB.out | apply bA9 | apply bN9 | apply bD9) | exact HB.out)) hb); clear HO155; clear HO159; clear HO163; clear HO166; clear HO170; clear HO173; clear HB; have HO155 := n0_; have HO159 := n1_; have HO163 := n2_; have HO166 := n3_; have HO170 := n4_; have HO173 := n5_; have HB := n6_; clear n0_ n1_ n2_ n3_ n4_ n5_ n6_; (try clear hb); (try clear hb2); (try clear hk); (try clear hi)) | ((with_reducible refine gD9 (N := 30) rfl ?_); (try (refine gate_guard (by rfl) ?_; dsimp only)); refine Kd.R_lit (Kd.int .u32) _ 56 ?hg (N := 30) ?hd (xs := ([7] : List Int)) (inner := [.int .u32 7]) (ok := fun _ => True) (okp := fun _ => True) ?hr ?hp (fun _ hk => hk) trivial (Below.refl _ _) (Nat.le_refl _) (by simp) ?_; (case hd => rfl); (case hg => rfl); (case hr => first | (go_simp; done) | (go_simp; rfl)); (case hp => exact (Reps.one (show Kd.M (Kd.int .u32) _ _ _ 7 [.int .u32 7] from rfl) (Reps.none _ _))); intro v176 w46 ho47 hb hg_ hnew_; clear hg_ hnew_; (first | rw [← Ny175.out] at ho47 | (simp only [Int.reduceToNat] at ho47; rw [← Ny175.out] at ho47)); have n0_ := Aside0.mk (Kd.R_elder' (by (with_reducible repeat (first | apply Kd.rA9 | apply Kd.rN9 | apply Kd.rD9)); exact HO155.out) (Kd.R_base ho47) hb); have n1_ := Aside0.mk (Kd.R_elder' (by (with_reducible repeat (first | apply Kd.rA9 | apply Kd.rN9 | apply Kd.rD9)); exact HO159.out) (Kd.R_base ho47) hb); have n2_ := Aside0.mk (Kd.R_elder' (by (with_reducible repeat (first | apply Kd.rA9 | apply Kd.rN9 | apply Kd.rD9)); exact HO163.out) (Kd.R_base ho47) hb); have n3_ := Aside0.mk (Kd.R_elder' (by (with_reducible repeat (first | apply Kd.rA9 | apply Kd.rN9 | apply Kd.rD9)); exact HO166.out) (Kd.R_base ho47) hb); have n4_ := Aside0.mk (Kd.R_elder' (by (with_reducible repeat (first | apply Kd.rA9 | apply Kd.rN9 | apply Kd.rD9)); exact HO170.out) (Kd.R_base ho47) hb); have n5_ := Aside0.mk (Kd.R_elder' (by (with_reducible repeat (first | apply Kd.rA9 | apply Kd.rN9 | apply Kd.rD9)); exact HO173.out) (Kd.R_base ho47) hb); have n6_ := Aside0.mk (Kd.rL9 (Kd.R_new' (Kd.R_new' (Kd.R_new' (Kd.R_new' (Kd.R_new' (Kd.R_new' ho47 (Kd.R_lt (by (with_reducible repeat (first | apply Kd.rA9 | apply Kd.rN9 | apply Kd.rD9)); exact HO155.out))) (Kd.R_lt (by (with_reducible repeat (first | apply Kd.rA9 | apply Kd.rN9 | apply Kd.rD9)); exact HO159.out))) (Kd.R_lt (by (with_reducible repeat (first | apply Kd.rA9 | apply Kd.rN9 | apply Kd.rD9)); exact HO163.out))) (Kd.R_lt (by (with_reducible repeat (first | apply Kd.rA9 | apply Kd.rN9 | apply Kd.rD9)); exact HO166.out))) (Kd.R_lt (by (with_reducible repeat (first | apply Kd.rA9 | apply Kd.rN9 | apply Kd.rD9)); exact HO170.out))) (Kd.R_lt (by (with_reducible repeat (first | apply Kd.rA9 | apply Kd.rN9 | apply Kd.rD9)); exact HO173.out))) (bZ9 (by repeat (first | (with_reducible first | exact HB.out | apply bA9 | apply bN9 | apply bD9) | exact HB.out)))); have n7_ := Aside0.mk (bT9 (by repeat (first | (with_reducible first | exact HB.out | apply bA9 | apply bN9 | apply bD9) | exact HB.out)) hb); clear HO155; clear HO159; clear HO163; clear HO166; clear HO170; clear HO173; clear HB; have HO155 := n0_; have HO159 := n1_; have HO163 := n2_; have HO166 := n3_; have HO170 := n4_; have HO173 := n5_; have HO177 := n6_; have HB := n7_; clear n0_ n1_ n2_ n3_ n4_ n5_ n6_ n7_; clear hb ho47) | ((with_reducible refine gD9 (N := 31) rfl ?_); (try (refine gate_guard (by rfl) ?_; dsimp only)); refine Kd.R_lit (Kd.int .u32) _ 56 ?hg (N := 31) ?hd (xs := ([1] : List Int)) (inner := [.int .u32 1]) (ok := fun _ => True) (okp := fun _ => True) ?hr ?hp (fun _ hk => hk) trivial (Below.refl _ _) (Nat.le_refl _) (by simp) ?_; (case hd => rfl); (case hg => rfl); (case hr => first | (go_simp; done) | (go_simp; rfl)); (case hp => exact (Reps.one (show Kd.M (Kd.int .u32) _ _ _ 1 [.int .u32 1] from rfl) (Reps.none _ _))); intro v179 w48 ho49 hb hg_ hnew_; clear hg_ hnew_; (first | rw [← Ny178.out] at ho49 | (simp only [Int.reduceToNat] at ho49; rw [← Ny178.out] at ho49)); have n0_ := Aside0.mk (Kd.R_elder' (by (with_reducible repeat (first | apply Kd.rA9 | apply Kd.rN9 | apply Kd.rD9)); exact HO155.out) (Kd.R_base ho49) hb); have n1_ := Aside0.mk (Kd.R_elder' (by (with_reducible repeat (first | apply Kd.rA9 | apply Kd.rN9 | apply Kd.rD9)); exact HO159.out) (Kd.R_base ho49) hb); have n2_ := Aside0.mk (Kd.R_elder' (by (with_reducible repeat (first | apply Kd.rA9 | apply Kd.rN9 | apply Kd.rD9)); exact HO163.out) (Kd.R_base ho49) hb); have n3_ := Aside0.mk (Kd.R_elder' (by (with_reducible repeat (first | apply Kd.rA9 | apply Kd.rN9 | apply Kd.rD9)); exact HO166.out) (Kd.R_base ho49) hb); have n4_ := Aside0.mk (Kd.R_elder' (by (with_reducible repeat (first | apply Kd.rA9 | apply Kd.rN9 | apply Kd.rD9)); exact HO170.out) (Kd.R_base ho49) hb); have n5_ := Aside0.mk (Kd.R_elder' (by (with_reducible repeat (first | apply Kd.rA9 | apply Kd.rN9 | apply Kd.rD9)); exact HO173.out) (Kd.R_base ho49) hb); have n6_ := Aside0.mk (Kd.R_elder' (by (with_reducible repeat (first | apply Kd.rA9 | apply Kd.rN9 | apply Kd.rD9)); exact HO177.out) (Kd.R_base ho49) hb); have n7_ := Aside0.mk (Kd.rL9 (Kd.R_new' (Kd.R_new' (Kd.R_new' (Kd.R_new' (Kd.R_new' (Kd.R_new' (Kd.R_new' ho49 (Kd.R_lt (by (with_reducible repeat (first | apply Kd.rA9 | apply Kd.rN9 | apply Kd.rD9)); exact HO155.out))) (Kd.R_lt (by (with_reducible repeat (first | apply Kd.rA9 | apply Kd.rN9 | apply Kd.rD9)); exact HO159.out))) (Kd.R_lt (by (with_reducible repeat (first | apply Kd.rA9 | apply Kd.rN9 | apply Kd.rD9)); exact HO163.out))) (Kd.R_lt (by (with_reducible repeat (first | apply Kd.rA9 | apply Kd.rN9 | apply Kd.rD9)); exact HO166.out))) (Kd.R_lt (by (with_reducible repeat (first | apply Kd.rA9 | apply Kd.rN9 | apply Kd.rD9)); exact HO170.out))) (Kd.R_lt (by (with_reducible repeat (first | apply Kd.rA9 | apply Kd.rN9 | apply Kd.rD9)); exact HO173.out))) (Kd.R_lt (by (with_reducible repeat (first | apply Kd.rA9 | apply Kd.rN9 | apply Kd.rD9)); exact HO177.out))) (bZ9 (by repeat (first | (with_reducible first | exact HB.out | apply bA9 | apply bN9 | apply bD9) | exact HB.out)))); have n8_ := Aside0.mk (bT9 (by repeat (first | (with_reducible first | exact HB.out | apply bA9 | apply bN9 | apply bD9) | exact HB.out)) hb); clear HO155; clear HO159; clear HO163; clear HO166; clear HO170; clear HO173; clear HO177; clear HB; have HO155 := n0_; have HO159 := n1_; have HO163 := n2_; have HO166 := n3_; have HO170 := n4_; have HO173 := n5_; have HO177 := n6_; have HO180 := n7_; have HB := n8_; clear n0_ n1_ n2_ n3_ n4_ n5_ n6_ n7_ n8_; clear hb ho49; obtain ⟨Ao50, co50, eo50⟩ := Kd.rS9 HO180.out; subst eo50; obtain ⟨Ao51, co51, eo51⟩ := Kd.rS9 HO177.out; subst eo51) | (go_at_call 16; (with_reducible refine (digits_Rat.calls k false _ _ y175 _ _ y178 t181 _ (PowTab.below HT.out (by repeat (first | (with_reducible first | exact HB.out | apply bA9 | apply bN9 | apply bD9) | exact HB.out))) ?side1 ?side2 ?side3 ?side4 A8.out).mono ?_); (case side1 => repeat (first | exact (Kd.rR9 HO177.out).2.2 | (with_reducible refine Kd.cA9 ?_ _) | (with_reducible refine Kd.cN9 ?_ _) | (with_reducible refine Kd.cD9 ?_))); (case side2 => exact (Kd.rR9 HO177.out).2.1); (case side3 => repeat (first | exact (Kd.rR9 HO180.out).2.2 | (with_reducible refine Kd.cA9 ?_ _) | (with_reducible refine Kd.cN9 ?_ _) | (with_reducible refine Kd.cD9 ?_))); (case side4 => exact (Kd.rR9 HO180.out).2.1); rintro e w52 ⟨rfl, hb⟩; have n0_ := Aside0.mk (Kd.rB9 (by (with_reducible repeat (first | apply Kd.rA9 | apply Kd.rN9 | apply Kd.rD9)); exact HO155.out) hb); have n1_ := Aside0.mk (Kd.rB9 (by (with_reducible repeat (first | apply Kd.rA9 | apply Kd.rN9 | apply Kd.rD9)); exact HO159.out) hb); have n2_ := Aside0.mk (Kd.rB9 (by (with_reducible repeat (first | apply Kd.rA9 | apply Kd.rN9 | apply Kd.rD9)); exact HO163.out) hb); have n3_ := Aside0.mk (Kd.rB9 (by (with_reducible repeat (first | apply Kd.rA9 | apply Kd.rN9 | apply Kd.rD9)); exact HO166.out) hb); have n4_ := Aside0.mk (Kd.rB9 (by (with_reducible repeat (first | apply Kd.rA9 | apply Kd.rN9 | apply Kd.rD9)); exact HO170.out) hb); have n5_ := Aside0.mk (Kd.rB9 (by (with_reducible repeat (first | apply Kd.rA9 | apply Kd.rN9 | apply Kd.rD9)); exact HO173.out) hb); have n6_ := Aside0.mk (Kd.rB9 (by (with_reducible repeat (first | apply Kd.rA9 | apply Kd.rN9 | apply Kd.rD9)); exact HO177.out) hb); have n7_ := Aside0.mk (Kd.rB9 (by (with_reducible repeat (first | apply Kd.rA9 | apply Kd.rN9 | apply Kd.rD9)); exact HO180.out) hb); have n8_ := Aside0.mk (bT9 (by repeat (first | (with_reducible first | exact HB.out | apply bA9 | apply bN9 | apply bD9) | exact HB.out)) hb); clear HO155; clear HO159; clear HO163; clear HO166; clear HO170; clear HO173; clear HO177; clear HO180; clear HB; have HO155 := n0_; have HO159 := n1_; have HO163 := n2_; have HO166 := n3_; have HO170 := n4_; have HO173 := n5_; have HO177 := n6_; have HO180 := n7_; have HB := n8_; clear n0_ n1_ n2_ n3_ n4_ n5_ n6_ n7_ n8_; (try clear hb); (try clear hb2); (try clear hk); (try clear hi)) | (go_at_call 21; (with_reducible refine (falls9.calls k (⟨#[50, 47, 52]⟩ : ByteArray) 6 true _ A13.out).mono ?_); rintro e w53 ⟨rfl, hb⟩; have n0_ := Aside0.mk (Kd.rB9 (by (with_reducible repeat (first | apply Kd.rA9 | apply Kd.rN9 | apply Kd.rD9)); exact HO155.out) hb); have n1_ := Aside0.mk (Kd.rB9 (by (with_reducible repeat (first | apply Kd.rA9 | apply Kd.rN9 | apply Kd.rD9)); exact HO159.out) hb); have n2_ := Aside0.mk (Kd.rB9 (by (with_reducible repeat (first | apply Kd.rA9 | apply Kd.rN9 | apply Kd.rD9)); exact HO163.out) hb); have n3_ := Aside0.mk (Kd.rB9 (by (with_reducible repeat (first | apply Kd.rA9 | apply Kd.rN9 | apply Kd.rD9)); exact HO166.out) hb); have n4_ := Aside0.mk (Kd.rB9 (by (with_reducible repeat (first | apply Kd.rA9 | apply Kd.rN9 | apply Kd.rD9)); exact HO170.out) hb); have n5_ := Aside0.mk (Kd.rB9 (by (with_reducible repeat (first | apply Kd.rA9 | apply Kd.rN9 | apply Kd.rD9)); exact HO173.out) hb); have n6_ := Aside0.mk (Kd.rB9 (by (with_reducible repeat (first | apply Kd.rA9 | apply Kd.rN9 | apply Kd.rD9)); exact HO177.out) hb); have n7_ := Aside0.mk (Kd.rB9 (by (with_reducible repeat (first | apply Kd.rA9 | apply Kd.rN9 | apply Kd.rD9)); exact HO180.out) hb); have n8_ := Aside0.mk (bT9 (by repeat (first | (with_reducible first | exact HB.out | apply bA9 | apply bN9 | apply bD9) | exact HB.out)) hb); clear HO155; clear HO159; clear HO163; clear HO166; clear HO170; clear HO173; clear HO177; clear HO180; clear HB; have HO155 := n0_; have HO159 := n1_; have HO163 := n2_; have HO166 := n3_; have HO170 := n4_; have HO173 := n5_; have HO177 := n6_; have HO180 := n7_; have HB := n8_; clear n0_ n1_ n2_ n3_ n4_ n5_ n6_ n7_ n8_; (try clear hb); (try clear hb2); (try clear hk); (try clear hi)) | (go_at_call 21; (with_reducible refine (falls9.calls k (⟨#[51, 47, 49]⟩ : ByteArray) 6 true _ A15.out).mono ?_); rintro e w54 ⟨rfl, hb⟩; have n0_ := Aside0.mk (Kd.rB9 (by (with_reducible repeat (first | apply Kd.rA9 | apply Kd.rN9 | apply Kd.rD9)); exact HO155.out) hb); have n1_ := Aside0.mk (Kd.rB9 (by (with_reducible repeat (first | apply Kd.rA9 | apply Kd.rN9 | apply Kd.rD9)); exact HO159.out) hb); have n2_ := Aside0.mk (Kd.rB9 (by (with_reducible repeat (first | apply Kd.rA9 | apply Kd.rN9 | apply Kd.rD9)); exact HO163.out) hb); have n3_ := Aside0.mk (Kd.rB9 (by (with_reducible repeat (first | apply Kd.rA9 | apply Kd.rN9 | apply Kd.rD9)); exact HO166.out) hb); have n4_ := Aside0.mk (Kd.rB9 (by (with_reducible repeat (first | apply Kd.rA9 | apply Kd.rN9 | apply Kd.rD9)); exact HO170.out) hb); have n5_ := Aside0.mk (Kd.rB9 (by (with_reducible repeat (first | apply Kd.rA9 | apply Kd.rN9 | apply Kd.rD9)); exact HO173.out) hb); have n6_ := Aside0.mk (Kd.rB9 (by (with_reducible repeat (first | apply Kd.rA9 | apply Kd.rN9 | apply Kd.rD9)); exact HO177.out) hb); have n7_ := Aside0.mk (Kd.rB9 (by (with_reducible repeat (first | apply Kd.rA9 | apply Kd.rN9 | apply Kd.rD9)); exact HO180.out) hb); have n8_ := Aside0.mk (bT9 (by repeat (first | (with_reducible first | exact HB.out | apply bA9 | apply bN9 | apply bD9) | exact HB.out)) hb); clear HO155; clear HO159; clear HO163; clear HO166; clear HO170; clear HO173; clear HO177; clear HO180; clear HB; have HO155 := n0_; have HO159 := n1_; have HO163 := n2_; have HO166 := n3_; have HO170 := n4_; have HO173 := n5_; have HO177 := n6_; have HO180 := n7_; have HB := n8_; clear n0_ n1_ n2_ n3_ n4_ n5_ n6_ n7_ n8_; (try clear hb); (try clear hb2); (try clear hk); (try clear hi)) | (go_at_call 21; (with_reducible refine (falls9.calls k (⟨#[45, 48]⟩ : ByteArray) 6 true _ A17.out).mono ?_); rintro e w55 ⟨rfl, hb⟩; have n0_ := Aside0.mk (Kd.rB9 (by (with_reducible repeat (first | apply Kd.rA9 | apply Kd.rN9 | apply Kd.rD9)); exact HO155.out) hb); have n1_ := Aside0.mk (Kd.rB9 (by (with_reducible repeat (first | apply Kd.rA9 | apply Kd.rN9 | apply Kd.rD9)); exact HO159.out) hb); have n2_ := Aside0.mk (Kd.rB9 (by (with_reducible repeat (first | apply Kd.rA9 | apply Kd.rN9 | apply Kd.rD9)); exact HO163.out) hb); have n3_ := Aside0.mk (Kd.rB9 (by (with_reducible repeat (first | apply Kd.rA9 | apply Kd.rN9 | apply Kd.rD9)); exact HO166.out) hb); have n4_ := Aside0.mk (Kd.rB9 (by (with_reducible repeat (first | apply Kd.rA9 | apply Kd.rN9 | apply Kd.rD9)); exact HO170.out) hb); have n5_ := Aside0.mk (Kd.rB9 (by (with_reducible repeat (first | apply Kd.rA9 | apply Kd.rN9 | apply Kd.rD9)); exact HO173.out) hb); have n6_ := Aside0.mk (Kd.rB9 (by (with_reducible repeat (first | apply Kd.rA9 | apply Kd.rN9 | apply Kd.rD9)); exact HO177.out) hb); have n7_ := Aside0.mk (Kd.rB9 (by (with_reducible repeat (first | apply Kd.rA9 | apply Kd.rN9 | apply Kd.rD9)); exact HO180.out) hb); have n8_ := Aside0.mk (bT9 (by repeat (first | (with_reducible first | exact HB.out | apply bA9 | apply bN9 | apply bD9) | exact HB.out)) hb); clear HO155; clear HO159; clear HO163; clear HO166; clear HO170; clear HO173; clear HO177; clear HO180; clear HB; have HO155 := n0_; have HO159 := n1_; have HO163 := n2_; have HO166 := n3_; have HO170 := n4_; have HO173 := n5_; have HO177 := n6_; have HO180 := n7_; have HB := n8_; clear n0_ n1_ n2_ n3_ n4_ n5_ n6_ n7_ n8_; (try clear hb); (try clear hb2); (try clear hk); (try clear hi)) | (go_at_call 21; (with_reducible refine (falls9.calls k (⟨#[48, 47, 51]⟩ : ByteArray) 6 true _ A19.out).mono ?_); rintro e w56 ⟨rfl, hb⟩; have n0_ := Aside0.mk (Kd.rB9 (by (with_reducible repeat (first | apply Kd.rA9 | apply Kd.rN9 | apply Kd.rD9)); exact HO155.out) hb); have n1_ := Aside0.mk (Kd.rB9 (by (with_reducible repeat (first | apply Kd.rA9 | apply Kd.rN9 | apply Kd.rD9)); exact HO159.out) hb); have n2_ := Aside0.mk (Kd.rB9 (by (with_reducible repeat (first | apply Kd.rA9 | apply Kd.rN9 | apply Kd.rD9)); exact HO163.out) hb); have n3_ := Aside0.mk (Kd.rB9 (by (with_reducible repeat (first | apply Kd.rA9 | apply Kd.rN9 | apply Kd.rD9)); exact HO166.out) hb); have n4_ := Aside0.mk (Kd.rB9 (by (with_reducible repeat (first | apply Kd.rA9 | apply Kd.rN9 | apply Kd.rD9)); exact HO170.out) hb); have n5_ := Aside0.mk (Kd.rB9 (by (with_reducible repeat (first | apply Kd.rA9 | apply Kd.rN9 | apply Kd.rD9)); exact HO173.out) hb); have n6_ := Aside0.mk (Kd.rB9 (by (with_reducible repeat (first | apply Kd.rA9 | apply Kd.rN9 | apply Kd.rD9)); exact HO177.out) hb); have n7_ := Aside0.mk (Kd.rB9 (by (with_reducible repeat (first | apply Kd.rA9 | apply Kd.rN9 | apply Kd.rD9)); exact HO180.out) hb); have n8_ := Aside0.mk (bT9 (by repeat (first | (with_reducible first | exact HB.out | apply bA9 | apply bN9 | apply bD9) | exact HB.out)) hb); clear HO155; clear HO159; clear HO163; clear HO166; clear HO170; clear HO173; clear HO177; clear HO180; clear HB; have HO155 := n0_; have HO159 := n1_; have HO163 := n2_; have HO166 := n3_; have HO170 := n4_; have HO173 := n5_; have HO177 := n6_; have HO180 := n7_; have HB := n8_; clear n0_ n1_ n2_ n3_ n4_ n5_ n6_ n7_ n8_; (try clear hb); (try clear hb2); (try clear hk); (try clear hi)) | (go_at_call 21; (with_reducible refine (falls9.calls k (⟨#[49, 47, 48]⟩ : ByteArray) 6 true _ A21.out).mono ?_); rintro e w57 ⟨rfl, hb⟩; have n0_ := Aside0.mk (Kd.rB9 (by (with_reducible repeat (first | apply Kd.rA9 | apply Kd.rN9 | apply Kd.rD9)); exact HO155.out) hb); have n1_ := Aside0.mk (Kd.rB9 (by (with_reducible repeat (first | apply Kd.rA9 | apply Kd.rN9 | apply Kd.rD9)); exact HO159.out) hb); have n2_ := Aside0.mk (Kd.rB9 (by (with_reducible repeat (first | apply Kd.rA9 | apply Kd.rN9 | apply Kd.rD9)); exact HO163.out) hb); have n3_ := Aside0.mk (Kd.rB9 (by (with_reducible repeat (first | apply Kd.rA9 | apply Kd.rN9 | apply Kd.rD9)); exact HO166.out) hb); have n4_ := Aside0.mk (Kd.rB9 (by (with_reducible repeat (first | apply Kd.rA9 | apply Kd.rN9 | apply Kd.rD9)); exact HO170.out) hb); have n5_ := Aside0.mk (Kd.rB9 (by (with_reducible repeat (first | apply Kd.rA9 | apply Kd.rN9 | apply Kd.rD9)); exact HO173.out) hb); have n6_ := Aside0.mk (Kd.rB9 (by (with_reducible repeat (first | apply Kd.rA9 | apply Kd.rN9 | apply Kd.rD9)); exact HO177.out) hb); have n7_ := Aside0.mk (Kd.rB9 (by (with_reducible repeat (first | apply Kd.rA9 | apply Kd.rN9 | apply Kd.rD9)); exact HO180.out) hb); have n8_ := Aside0.mk (bT9 (by repeat (first | (with_reducible first | exact HB.out | apply bA9 | apply bN9 | apply bD9) | exact HB.out)) hb); clear HO155; clear HO159; clear HO163; clear HO166; clear HO170; clear HO173; clear HO177; clear HO180; clear HB; have HO155 := n0_; have HO159 := n1_; have HO163 := n2_; have HO166 := n3_; have HO170 := n4_; have HO173 := n5_; have HO177 := n6_; have HO180 := n7_; have HB := n8_; clear n0_ n1_ n2_ n3_ n4_ n5_ n6_ n7_ n8_; (try clear hb); (try clear hb2); (try clear hk); (try clear hi)) | (go_at_call 21; (with_reducible refine (falls9.calls k (⟨#[48, 49, 47, 50]⟩ : ByteArray) 19 true _ A23.out).mono ?_); rintro e w58 ⟨rfl, hb⟩; have n0_ := Aside0.mk (Kd.rB9 (by (with_reducible repeat (first | apply Kd.rA9 | apply Kd.rN9 | apply Kd.rD9)); exact HO155.out) hb); have n1_ := Aside0.mk (Kd.rB9 (by (with_reducible repeat (first | apply Kd.rA9 | apply Kd.rN9 | apply Kd.rD9)); exact HO159.out) hb); have n2_ := Aside0.mk (Kd.rB9 (by (with_reducible repeat (first | apply Kd.rA9 | apply Kd.rN9 | apply Kd.rD9)); exact HO163.out) hb); have n3_ := Aside0.mk (Kd.rB9 (by (with_reducible repeat (first | apply Kd.rA9 | apply Kd.rN9 | apply Kd.rD9)); exact HO166.out) hb); have n4_ := Aside0.mk (Kd.rB9 (by (with_reducible repeat (first | apply Kd.rA9 | apply Kd.rN9 | apply Kd.rD9)); exact HO170.out) hb); have n5_ := Aside0.mk (Kd.rB9 (by (with_reducible repeat (first | apply Kd.rA9 | apply Kd.rN9 | apply Kd.rD9)); exact HO173.out) hb); have n6_ := Aside0.mk (Kd.rB9 (by (with_reducible repeat (first | apply Kd.rA9 | apply Kd.rN9 | apply Kd.rD9)); exact HO177.out) hb); have n7_ := Aside0.mk (Kd.rB9 (by (with_reducible repeat (first | apply Kd.rA9 | apply Kd.rN9 | apply Kd.rD9)); exact HO180.out) hb); have n8_ := Aside0.mk (bT9 (by repeat (first | (with_reducible first | exact HB.out | apply bA9 | apply bN9 | apply bD9) | exact HB.out)) hb); clear HO155; clear HO159; clear HO163; clear HO166; clear HO170; clear HO173; clear HO177; clear HO180; clear HB; have HO155 := n0_; have HO159 := n1_; have HO163 := n2_; have HO166 := n3_; have HO170 := n4_; have HO173 := n5_; have HO177 := n6_; have HO180 := n7_; have HB := n8_; clear n0_ n1_ n2_ n3_ n4_ n5_ n6_ n7_ n8_; (try clear hb); (try clear hb2); (try clear hk); (try clear hi)) | (go_at_call 21; (with_reducible refine (falls9.calls k (⟨#[49, 47]⟩ : ByteArray) 19 true _ A25.out).mono ?_); rintro e w59 ⟨rfl, hb⟩; have n0_ := Aside0.mk (Kd.rB9 (by (with_reducible repeat (first | apply Kd.rA9 | apply Kd.rN9 | apply Kd.rD9)); exact HO155.out) hb); have n1_ := Aside0.mk (Kd.rB9 (by (with_reducible repeat (first | apply Kd.rA9 | apply Kd.rN9 | apply Kd.rD9)); exact HO159.out) hb); have n2_ := Aside0.mk (Kd.rB9 (by (with_reducible repeat (first | apply Kd.rA9 | apply Kd.rN9 | apply Kd.rD9)); exact HO163.out) hb); have n3_ := Aside0.mk (Kd.rB9 (by (with_reducible repeat (first | apply Kd.rA9 | apply Kd.rN9 | apply Kd.rD9)); exact HO166.out) hb); have n4_ := Aside0.mk (Kd.rB9 (by (with_reducible repeat (first | apply Kd.rA9 | apply Kd.rN9 | apply Kd.rD9)); exact HO170.out) hb); have n5_ := Aside0.mk (Kd.rB9 (by (with_reducible repeat (first | apply Kd.rA9 | apply Kd.rN9 | apply Kd.rD9)); exact HO173.out) hb); have n6_ := Aside0.mk (Kd.rB9 (by (with_reducible repeat (first | apply Kd.rA9 | apply Kd.rN9 | apply Kd.rD9)); exact HO177.out) hb); have n7_ := Aside0.mk (Kd.rB9 (by (with_reducible repeat (first | apply Kd.rA9 | apply Kd.rN9 | apply Kd.rD9)); exact HO180.out) hb); have n8_ := Aside0.mk (bT9 (by repeat (first | (with_reducible first | exact HB.out | apply bA9 | apply bN9 | apply bD9) | exact HB.out)) hb); clear HO155; clear HO159; clear HO163; clear HO166; clear HO170; clear HO173; clear HO177; clear HO180; clear HB; have HO155 := n0_; have HO159 := n1_; have HO163 := n2_; have HO166 := n3_; have HO170 := n4_; have HO173 := n5_; have HO177 := n6_; have HO180 := n7_; have HB := n8_; clear n0_ n1_ n2_ n3_ n4_ n5_ n6_ n7_ n8_; (try clear hb); (try clear hb2); (try clear hk); (try clear hi)) | (go_at_call 21; (with_reducible refine (falls9.calls k (⟨#[45, 47, 50]⟩ : ByteArray) 19 true _ A27.out).mono ?_); rintro e w60 ⟨rfl, hb⟩; have n0_ := Aside0.mk (Kd.rB9 (by (with_reducible repeat (first | apply Kd.rA9 | apply Kd.rN9 | apply Kd.rD9)); exact HO155.out) hb); have n1_ := Aside0.mk (Kd.rB9 (by (with_reducible repeat (first | apply Kd.rA9 | apply Kd.rN9 | apply Kd.rD9)); exact HO159.out) hb); have n2_ := Aside0.mk (Kd.rB9 (by (with_reducible repeat (first | apply Kd.rA9 | apply Kd.rN9 | apply Kd.rD9)); exact HO163.out) hb); have n3_ := Aside0.mk (Kd.rB9 (by (with_reducible repeat (first | apply Kd.rA9 | apply Kd.rN9 | apply Kd.rD9)); exact HO166.out) hb); have n4_ := Aside0.mk (Kd.rB9 (by (with_reducible repeat (first | apply Kd.rA9 | apply Kd.rN9 | apply Kd.rD9)); exact HO170.out) hb); have n5_ := Aside0.mk (Kd.rB9 (by (with_reducible repeat (first | apply Kd.rA9 | apply Kd.rN9 | apply Kd.rD9)); exact HO173.out) hb); have n6_ := Aside0.mk (Kd.rB9 (by (with_reducible repeat (first | apply Kd.rA9 | apply Kd.rN9 | apply Kd.rD9)); exact HO177.out) hb); have n7_ := Aside0.mk (Kd.rB9 (by (with_reducible repeat (first | apply Kd.rA9 | apply Kd.rN9 | apply Kd.rD9)); exact HO180.out) hb); have n8_ := Aside0.mk (bT9 (by repeat (first | (with_reducible first | exact HB.out | apply bA9 | apply bN9 | apply bD9) | exact HB.out)) hb); clear HO155; clear HO159; clear HO163; clear HO166; clear HO170; clear HO173; clear HO177; clear HO180; clear HB; have HO155 := n0_; have HO159 := n1_; have HO163 := n2_; have HO166 := n3_; have HO170 := n4_; have HO173 := n5_; have HO177 := n6_; have HO180 := n7_; have HB := n8_; clear n0_ n1_ n2_ n3_ n4_ n5_ n6_ n7_ n8_; (try clear hb); (try clear hb2); (try clear hk); (try clear hi)) | (go_at_call 21; (with_reducible refine (falls9.calls k (⟨#[49, 47, 45, 50]⟩ : ByteArray) 19 true _ A29.out).mono ?_); rintro e w61 ⟨rfl, hb⟩; have n0_ := Aside0.mk (Kd.rB9 (by (with_reducible repeat (first | apply Kd.rA9 | apply Kd.rN9 | apply Kd.rD9)); exact HO155.out) hb); have n1_ := Aside0.mk (Kd.rB9 (by (with_reducible repeat (first | apply Kd.rA9 | apply Kd.rN9 | apply Kd.rD9)); exact HO159.out) hb); have n2_ := Aside0.mk (Kd.rB9 (by (with_reducible repeat (first | apply Kd.rA9 | apply Kd.rN9 | apply Kd.rD9)); exact HO163.out) hb); have n3_ := Aside0.mk (Kd.rB9 (by (with_reducible repeat (first | apply Kd.rA9 | apply Kd.rN9 | apply Kd.rD9)); exact HO166.out) hb); have n4_ := Aside0.mk (Kd.rB9 (by (with_reducible repeat (first | apply Kd.rA9 | apply Kd.rN9 | apply Kd.rD9)); exact HO170.out) hb); have n5_ := Aside0.mk (Kd.rB9 (by (with_reducible repeat (first | apply Kd.rA9 | apply Kd.rN9 | apply Kd.rD9)); exact HO173.out) hb); have n6_ := Aside0.mk (Kd.rB9 (by (with_reducible repeat (first | apply Kd.rA9 | apply Kd.rN9 | apply Kd.rD9)); exact HO177.out) hb); have n7_ := Aside0.mk (Kd.rB9 (by (with_reducible repeat (first | apply Kd.rA9 | apply Kd.rN9 | apply Kd.rD9)); exact HO180.out) hb); have n8_ := Aside0.mk (bT9 (by repeat (first | (with_reducible first | exact HB.out | apply bA9 | apply bN9 | apply bD9) | exact HB.out)) hb); clear HO155; clear HO159; clear HO163; clear HO166; clear HO170; clear HO173; clear HO177; clear HO180; clear HB; have HO155 := n0_; have HO159 := n1_; have HO163 := n2_; have HO166 := n3_; have HO170 := n4_; have HO173 := n5_; have HO177 := n6_; have HO180 := n7_; have HB := n8_; clear n0_ n1_ n2_ n3_ n4_ n5_ n6_ n7_ n8_; (try clear hb); (try clear hb2); (try clear hk); (try clear hi)) | (go_at_call 21; (with_reducible refine (falls9.calls k (⟨#[43, 49]⟩ : ByteArray) 19 t191 _ A31.out).mono ?_); rintro e w62 ⟨rfl, hb⟩; have n0_ := Aside0.mk (Kd.rB9 (by (with_reducible repeat (first | apply Kd.rA9 | apply Kd.rN9 | apply Kd.rD9)); exact HO155.out) hb); have n1_ := Aside0.mk (Kd.rB9 (by (with_reducible repeat (first | apply Kd.rA9 | apply Kd.rN9 | apply Kd.rD9)); exact HO159.out) hb); have n2_ := Aside0.mk (Kd.rB9 (by (with_reducible repeat (first | apply Kd.rA9 | apply Kd.rN9 | apply Kd.rD9)); exact HO163.out) hb); have n3_ := Aside0.mk (Kd.rB9 (by (with_reducible repeat (first | apply Kd.rA9 | apply Kd.rN9 | apply Kd.rD9)); exact HO166.out) hb); have n4_ := Aside0.mk (Kd.rB9 (by (with_reducible repeat (first | apply Kd.rA9 | apply Kd.rN9 | apply Kd.rD9)); exact HO170.out) hb); have n5_ := Aside0.mk (Kd.rB9 (by (with_reducible repeat (first | apply Kd.rA9 | apply Kd.rN9 | apply Kd.rD9)); exact HO173.out) hb); have n6_ := Aside0.mk (Kd.rB9 (by (with_reducible repeat (first | apply Kd.rA9 | apply Kd.rN9 | apply Kd.rD9)); exact HO177.out) hb); have n7_ := Aside0.mk (Kd.rB9 (by (with_reducible repeat (first | apply Kd.rA9 | apply Kd.rN9 | apply Kd.rD9)); exact HO180.out) hb); have n8_ := Aside0.mk (bT9 (by repeat (first | (with_reducible first | exact HB.out | apply bA9 | apply bN9 | apply bD9) | exact HB.out)) hb); clear HO155; clear HO159; clear HO163; clear HO166; clear HO170; clear HO173; clear HO177; clear HO180; clear HB; have HO155 := n0_; have HO159 := n1_; have HO163 := n2_; have HO166 := n3_; have HO170 := n4_; have HO173 := n5_; have HO177 := n6_; have HO180 := n7_; have HB := n8_; clear n0_ n1_ n2_ n3_ n4_ n5_ n6_ n7_ n8_; (try clear hb); (try clear hb2); (try clear hk); (try clear hi)))
                go_ret
                exact ⟨by first | rfl | (simp [eN9, eS9] <;> rfl) | (simp [*, eN9, eS9] <;> rfl), by repeat (first | (with_reducible first | exact HB.out | apply bA9 | apply bN9 | apply bD9) | exact HB.out)⟩
               ·replace c30 := Bool.eq_false_iff.mpr c30
                subst c30
                have H1 : (none) = some r := by rw [if_neg (show ¬ (false = true) by decide)] at H; exact H
                clear H
                have H := H1
                clear H1
                exact absurd H (by simp)
              ·replace c28 := Bool.eq_false_iff.mpr c28
               subst c28
               have H1 : (none) = some r := by rw [if_neg (show ¬ (false = true) by decide)] at H; exact H
               clear H
               have H := H1
               clear H1
               exact absurd H (by simp)
             ·replace c26 := Bool.eq_false_iff.mpr c26
              subst c26
              have H1 : (none) = some r := by rw [if_neg (show ¬ (false = true) by decide)] at H; exact H
              clear H
              have H := H1
              clear H1
              exact absurd H (by simp)
            ·replace c24 := Bool.eq_false_iff.mpr c24
             subst c24
             have H1 : (none) = some r := by rw [if_neg (show ¬ (false = true) by decide)] at H; exact H
             clear H
             have H := H1
             clear H1
             exact absurd H (by simp)
           ·replace c22 := Bool.eq_false_iff.mpr c22
            subst c22
            have H1 : (none) = some r := by rw [if_neg (show ¬ (false = true) by decide)] at H; exact H
            clear H
            have H := H1
            clear H1
            exact absurd H (by simp)
          ·replace c20 := Bool.eq_false_iff.mpr c20
           subst c20
           have H1 : (none) = some r := by rw [if_neg (show ¬ (false = true) by decide)] at H; exact H
           clear H
           have H := H1
           clear H1
           exact absurd H (by simp)
         ·replace c18 := Bool.eq_false_iff.mpr c18
          subst c18
          have H1 : (none) = some r := by rw [if_neg (show ¬ (false = true) by decide)] at H; exact H
          clear H
          have H := H1
          clear H1
          exact absurd H (by simp)
        ·replace c16 := Bool.eq_false_iff.mpr c16
         subst c16
         have H1 : (none) = some r := by rw [if_neg (show ¬ (false = true) by decide)] at H; exact H
         clear H
         have H := H1
         clear H1
         exact absurd H (by simp)
       ·replace c14 := Bool.eq_false_iff.mpr c14
        subst c14
        have H1 : (none) = some r := by rw [if_neg (show ¬ (false = true) by decide)] at H; exact H
        clear H
        have H := H1
        clear H1
        exact absurd H (by simp)
      ·rw [if_neg c12] at H
       exact absurd H (by simp)
     ·rw [if_neg c11] at H
      exact absurd H (by simp)
    ·rw [if_neg c10] at H
     exact absurd H (by simp)
   ·rw [if_neg c9] at H
    exact absurd H (by simp)
  ·rw [if_neg c7] at H
   exact absurd H (by simp)
 ·rw [if_neg c5] at H
  exact absurd H (by simp)
end Go.Proofs.YthppjdmkinbccaaGreatDoor.Print

namespace Go.Proofs.YthppjdmkinbccaaGreatDoor.Print
open Go.RowKit Go.Proofs.YthppjdmkinbccaaGreatDoorW.PrintWords Go.Proofs.YthppjdmkinbccaaGreatDoorW.PrintLast Go.Proofs.YthppjdmkinbccaaGreatDoorW.PrintMore
attribute [local go_sem] max2_int min2_int max_two min_two max_three min_three max_four min_four   -- for this text's walks alone
set_option linter.unusedVariables false
set_option linter.unusedSimpArgs false
def fluxionlaw04_DigitsRats.j0 : Nat → Bool → Bool → List Int → List Int → Option (Bool)
 | 0, _, _, _, _ => none
 | k + 1, x12, x102000, x102001, x102002 => if x12 = true then ((kn9.f k).bind fun t102 => (some t102)) else ((digits_Rat.f k x102000 x102001 x102002).bind fun t103 => ((r3Of.f k x102000 x102001 x102002).bind fun bt104 => ((r4R.f k bt104.1 bt104.2.1 bt104.2.2).bind fun t111 => (if t103.toList = t111.toList then ((kn9.f k).bind fun t112 => (some t112)) else (none)))))
def fluxionlaw04_DigitsRats.f (k : Nat) (a0_0 : Bool) (l0_1 : List Int) (l0_2 : List Int) : Option (Bool) := if (l0_1.length : Int) > 12 then (fluxionlaw04_DigitsRats.j0 k true a0_0 l0_1 l0_2) else (fluxionlaw04_DigitsRats.j0 k (decide ((l0_2.length : Int) > 12)) a0_0 l0_1 l0_2)
def fluxionlaw04_DigitsRats.T3 : Bool × List (List Nat × List Nat) := (true, [([], []), ([0], [0]), ([], []), ([2, 1], [2]), ([3, 3], [3]), ([1, 4], [1, 4]), ([5, 4], [5]), ([6, 6], [6]), ([6, 7], [6, 7]), ([8, 7, 0, 1, 2, 3, 4, 5, 6, 7, 8], [8])])
def fluxionlaw04_DigitsRats.B3 : List Nat := [0, 1, 0, 7, 15, 31, 63, 127, 255, 511]
theorem fluxionlaw04_DigitsRats.tab3 : rtab .any (opsOf Tryz.f4 3) = fluxionlaw04_DigitsRats.T3 := by kernel_rfl
theorem fluxionlaw04_DigitsRats.bits3 : waitsOk fluxionlaw04_DigitsRats.T3.2 fluxionlaw04_DigitsRats.B3 = true := by kernel_rfl
set_option maxHeartbeats 8000000 in
set_option maxRecDepth 100000 in
theorem fluxionlaw04_DigitsRats.calls (k : Nat) (a0_0 : Bool) (A0_1 : Option Addr) (c0_1 : Nat) (l0_1 : List Int) (A0_2 : Option Addr) (c0_2 : Nat) (l0_2 : List Int) (r : Bool) (w : World) (ht : PowTab w) (hr0_1 : Kd.C (Kd.int .u32) w A0_1 l0_1.length l0_1) (hc0_1 : l0_1.length ≤ c0_1) (hr0_2 : Kd.C (Kd.int .u32) w A0_2 l0_2.length l0_2) (hc0_2 : l0_2.length ≤ c0_2) (h : fluxionlaw04_DigitsRats.f k a0_0 l0_1 l0_2 = some r) :
  Calls Tryz.prog 4 #[.agg #[.bool a0_0, .slice A0_1 l0_1.length c0_1, .slice A0_2 l0_2.length c0_2]] w fun e w' => e = .returned (.bool r) ∧ Below w.heap.size w w' := by
 have HT := Aside0.mk ht
 clear ht
 have hu35 := Tryz.underlying35
 have HR0_1 := Aside0.mk hr0_1
 have HC0_1 := Aside0.mk hc0_1
 clear hr0_1 hc0_1
 have HR0_2 := Aside0.mk hr0_2
 have HC0_2 := Aside0.mk hc0_2
 clear hr0_2 hc0_2
 have HB := Aside0.mk (Below.refl w.heap.size w)
 have H : (if (l0_1.length : Int) > 12 then (fluxionlaw04_DigitsRats.j0 k true a0_0 l0_1 l0_2) else (fluxionlaw04_DigitsRats.j0 k (decide ((l0_2.length : Int) > 12)) a0_0 l0_1 l0_2)) = some r := h
 clear h
 have HC2 := Aside0.mk H
 clear H
 go_enter Tryz.func4, Tryz.ntmps4
 go_upto_region 1 with (first | ((with_reducible refine gD9 (N := 1) rfl ?_); (try (refine gate_guard (by rfl) ?_; dsimp only)); refine bE9 ?hg (N := 1) ?hd (cs := #[.bool a0_0, .slice A0_1 l0_1.length c0_1, .slice A0_2 l0_2.length c0_2]) (t := 35) ?hr ?_; (case hd => rfl); (case hg => rfl); (case hr => first | (go_simp; done) | (go_simp; rfl)); intro gb101 hg w3 hbox hb; have n0_ := Aside0.mk (bT9 (by repeat (first | (with_reducible first | exact HB.out | apply bA9 | apply bN9 | apply bD9) | exact HB.out)) hb); have n1_ := Aside0.mk (hbox); have n2_ := Aside0.mk ((by rw [hg]; exact (bZ9 (by repeat (first | (with_reducible first | exact HB.out | apply bA9 | apply bN9 | apply bD9) | exact HB.out))) : w.heap.size ≤ gb101)); have n3_ := Aside0.mk ((by rw [hg]; exact (bZ9 (by repeat (first | (with_reducible first | exact HB.out | apply bA9 | apply bN9 | apply bD9) | exact HB.out))) : w.heap.size ≤ gb101)); clear HB; have HB := n0_; have BK101 := n1_; have GW101 := n2_; have GE101 := n3_; clear n0_ n1_ n2_ n3_; clear hb hbox hg))
 (try simp only [Act.put, List.setIfInBounds_toArray, List.set_cons_zero, List.set_cons_succ])
 go_cut [12] (fun v12 wc => ∃ (kq : Nat) (x12_1 : Bool), v12 = .bool x12_1 ∧ Aside0 (fluxionlaw04_DigitsRats.j0 kq x12_1 a0_0 l0_1 l0_2 = some r) ∧ Aside0 (kq ≤ k) ∧ Aside0 (wc.heap[gb101]? = some (.cells #[.bool a0_0, (.slice A0_1 l0_1.length c0_1), (.slice A0_2 l0_2.length c0_2)] 35 (0, 0))) ∧ Aside0 (Below w.heap.size w wc))
 case first =>
  have H := HC2.out
  clear HC2
  by_cases c4 : (l0_1.length : Int) > 12
  ·rw [if_pos c4] at H
   have c4b0 : decide (12 < (l0_1.length : Int)) = true := decide_eq_true c4
   have c4b1 : decide (12 < l0_1.length) = true := decide_eq_true (by omega)
   clear c4
   (first | rw [c4b0] | (simp only [i64_w, i32_w]; rw [c4b0]) | skip)
   have H' := Aside0.mk H
   clear H
   have hcz5_0 : w3.cell? ⟨gb101, 0, none⟩ = some (.bool a0_0) := (kC9 BK101.out 0).trans rfl
   have hcz5_1 : w3.cell? ⟨gb101, 1, none⟩ = some (.slice A0_1 l0_1.length c0_1) := (kC9 BK101.out 1).trans rfl
   have hcz5_2 : w3.cell? ⟨gb101, 2, none⟩ = some (.slice A0_2 l0_2.length c0_2) := (kC9 BK101.out 2).trans rfl
   have hfz5_0 := kF9 BK101.out 0
   have hfz5_1 := kF9 BK101.out 1
   have hfz5_2 := kF9 BK101.out 2
   go_wp2
   go_meet
   case rel => exact ⟨_, (true), (by first | rfl | (simp; done) | (simp [*]; done)), H', ⟨by first | omega | exact Nat.le_refl _⟩, ⟨by (with_reducible repeat (first | refine kN9 ?_ _ | refine kD9 ?_ | refine kA9 ?_ _)); exact BK101.out⟩, ⟨by repeat (first | (with_reducible first | exact HB.out | apply bA9 | apply bN9 | apply bD9 | refine bS9 ?_ GE101.out) | exact HB.out)⟩⟩
  ·rw [if_neg c4] at H
   have c4b0 : decide (12 < (l0_1.length : Int)) = false := decide_eq_false c4
   have c4b1 : decide (12 < l0_1.length) = false := decide_eq_false (by omega)
   clear c4
   (first | rw [c4b0] | (simp only [i64_w, i32_w]; rw [c4b0]) | skip)
   have H' := Aside0.mk H
   clear H
   have hcz6_0 : w3.cell? ⟨gb101, 0, none⟩ = some (.bool a0_0) := (kC9 BK101.out 0).trans rfl
   have hcz6_1 : w3.cell? ⟨gb101, 1, none⟩ = some (.slice A0_1 l0_1.length c0_1) := (kC9 BK101.out 1).trans rfl
   have hcz6_2 : w3.cell? ⟨gb101, 2, none⟩ = some (.slice A0_2 l0_2.length c0_2) := (kC9 BK101.out 2).trans rfl
   have hfz6_0 := kF9 BK101.out 0
   have hfz6_1 := kF9 BK101.out 1
   have hfz6_2 := kF9 BK101.out 2
   go_wp2
   go_meet
   case rel => exact ⟨_, (decide ((l0_2.length : Int) > 12)), (by first | rfl | (simp; done) | (simp [*]; done)), H', ⟨by first | omega | exact Nat.le_refl _⟩, ⟨by (with_reducible repeat (first | refine kN9 ?_ _ | refine kD9 ?_ | refine kA9 ?_ _)); exact BK101.out⟩, ⟨by repeat (first | (with_reducible first | exact HB.out | apply bA9 | apply bN9 | apply bD9 | refine bS9 ?_ GE101.out) | exact HB.out)⟩⟩
 case rest =>
  clear HC2
  try clear p2
  try clear c4
  try clear c4b0
  try clear c4b1
  try clear hcz5_0
  try clear hcz5_1
  try clear hcz5_2
  try clear hcz6_0
  try clear hcz6_1
  try clear hcz6_2
  try clear hfz5_0
  try clear hfz5_1
  try clear hfz5_2
  try clear hfz6_0
  try clear hfz6_1
  try clear hfz6_2
  obtain ⟨kq, x12_1, rfl, HA, HJ1, BK101, HB⟩ := hcut
  cases kq with
  | zero => exact absurd HA.out (by simp [fluxionlaw04_DigitsRats.j0])
  | succ kj1 =>
   have H := HA.out
   clear HA
   simp only [fluxionlaw04_DigitsRats.j0] at H
   by_cases c7 : x12_1 = true
   ·subst c7
    have H1 : ((kn9.f kj1).bind fun t102 => (some t102)) = some r := by rw [if_pos rfl] at H; exact H
    clear H
    have H := H1
    clear H1
    replace H := Option.bind_eq_some_iff.mp H
    obtain ⟨t102, A80, H⟩ := H
    replace H : (some t102) = some r := H
    have A8 := Aside0.mk A80
    clear A80
    obtain rfl := Option.some.inj H
    go_wp2_with (first | ((with_reducible refine gC9 (f := 15) rfl ?_); refine goesL_ (some 13) rfl rfl Tryz.func15 (by kernel_rfl) rfl #[] rfl (by (try simp only [List.map_toArray, List.map_cons, List.map_nil]); first | done | rfl | (simp only [List.length_drop, List.length_take]; rfl)) ?_; (with_reducible refine (kn9.calls kj1  t102 _ (PowTab.below HT.out (by repeat (first | (with_reducible first | exact HB.out | apply bA9 | apply bN9 | apply bD9 | refine bS9 ?_ GE101.out) | exact HB.out))) A8.out).mono ?_); rintro e w9 ⟨rfl, hb⟩; refine ⟨_, rfl, ?_⟩; have n0_ := Aside0.mk (kB9 (g := gb101) (o := .cells #[.bool a0_0, .slice A0_1 l0_1.length c0_1, .slice A0_2 l0_2.length c0_2] 35 (0, 0)) (by (with_reducible repeat (first | refine kN9 ?_ _ | refine kD9 ?_ | refine kA9 ?_ _)); exact BK101.out) hb); have n1_ := Aside0.mk (bT9 (by repeat (first | (with_reducible first | exact HB.out | apply bA9 | apply bN9 | apply bD9 | refine bS9 ?_ GE101.out) | exact HB.out)) hb); clear BK101; clear HB; have BK101 := n0_; have HB := n1_; clear n0_ n1_; (try clear hb); (try clear hb2); (try clear hk); (try clear hi)))
    go_ret
    exact ⟨by first | rfl | (simp [eN9, eS9] <;> rfl) | (simp [*, eN9, eS9] <;> rfl), by repeat (first | (with_reducible first | exact HB.out | apply bA9 | apply bN9 | apply bD9 | refine bS9 ?_ GE101.out) | exact HB.out)⟩
   ·replace c7 := Bool.eq_false_iff.mpr c7
    subst c7
    have H1 : ((digits_Rat.f kj1 a0_0 l0_1 l0_2).bind fun t103 => ((r3Of.f kj1 a0_0 l0_1 l0_2).bind fun bt104 => ((r4R.f kj1 bt104.1 bt104.2.1 bt104.2.2).bind fun t111 => (if t103.toList = t111.toList then ((kn9.f kj1).bind fun t112 => (some t112)) else (none))))) = some r := by rw [if_neg (show ¬ (false = true) by decide)] at H; exact H
    clear H
    have H := H1
    clear H1
    replace H := Option.bind_eq_some_iff.mp H
    obtain ⟨t103, A100, H⟩ := H
    (try dsimp only at H)
    have A10 := Aside0.mk A100
    clear A100
    replace H := Option.bind_eq_some_iff.mp H
    obtain ⟨⟨t104, t105, t108⟩, A110, H⟩ := H
    (try dsimp only at H)
    have A11 := Aside0.mk A110
    clear A110
    replace H := Option.bind_eq_some_iff.mp H
    obtain ⟨t111, A120, H⟩ := H
    (try dsimp only at H)
    have A12 := Aside0.mk A120
    clear A120
    by_cases c13 : t103.toList = t111.toList
    ·rw [if_pos c13] at H
     have c13b0 : (t103.toList == t111.toList) = true := beq_iff_eq.mpr c13
     have c13b1 : (t103.toList != t111.toList) = false := bne_eq_false_iff_eq.mpr c13
     clear c13
     replace H := Option.bind_eq_some_iff.mp H
     obtain ⟨t112, A140, H⟩ := H
     replace H : (some t112) = some r := H
     have A14 := Aside0.mk A140
     clear A140
     obtain rfl := Option.some.inj H
     try go_wp2
     have n0_ := Aside0.mk (kD9 BK101.out)
     have n1_ := Aside0.mk (bD9 HB.out)
     clear BK101
     clear HB
     have BK101 := n0_
     have HB := n1_
     clear n0_ n1_
     refine start_ (n := 10) (S := fun w' => w'.cell? ⟨gb101, 0, none⟩ = some (.bool a0_0) ∧ w'.cell? ⟨gb101, 1, none⟩ = some (.slice A0_1 l0_1.length c0_1) ∧ w'.cell? ⟨gb101, 2, none⟩ = some (.slice A0_2 l0_2.length c0_2)) (ds := []) #[false, false, false, false, false, false, false, false, false, false] (by kernel_rfl) rfl rfl ⟨(kC9 BK101.out 0).trans rfl, (kC9 BK101.out 1).trans rfl, (kC9 BK101.out 2).trans rfl⟩ (fun hHeld => ?_); refine with_tabW fluxionlaw04_DigitsRats.tab3 fluxionlaw04_DigitsRats.bits3 (fun HT_ HW_ => ?_)
     generalize wc.drew = w15 at BK101 HB hHeld ⊢
     refine take_ (i := 0) (N := some 14) (v := ?_) (a' := ?_) #[true, false, false, false, false, false, false, false, false, false] rfl rfl (take_ofW HT_.out HW_.out (by kernel_rfl)) (fun _ _ _ h => h) (Or.inl ⟨by rfl, ?_⟩) hHeld ?_ ?_
     rotate_left
     ·rintro w' ⟨s0, s1, s2⟩
      go_simp
      with_reducible rfl
     rotate_left
     ·simp only [Act.put, List.setIfInBounds_toArray, List.set_cons_zero, List.set_cons_succ, i64_w, i32_w]
      rfl
     refine take_ (i := 2) (N := some 16) (v := ?_) (a' := ?_) #[true, false, true, false, false, false, false, false, false, false] rfl rfl (take_ofW HT_.out HW_.out (by kernel_rfl)) (fun _ _ _ h => h) (Or.inl ⟨by rfl, ?_⟩) hHeld ?_ ?_
     rotate_left
     ·rintro w' ⟨s0, s1, s2⟩
      go_simp
      with_reducible rfl
     rotate_left
     ·simp only [Act.put, List.setIfInBounds_toArray, List.set_cons_zero, List.set_cons_succ, i64_w, i32_w]
      rfl
     refine one_ (i := 1) (N := some 15) #[true, true, true, false, false, false, false, false, false, false] rfl rfl (one_of HT_.out (by kernel_rfl)) (by decide) (fun K hK => ?_)
     refine goes_ Tryz.func16 (by kernel_rfl) rfl #[.agg #[.bool a0_0, .slice A0_1 l0_1.length c0_1, .slice A0_2 l0_2.length c0_2]] (by rfl) rfl rfl (by (try simp only [List.map_toArray, List.map_cons, List.map_nil]); first | done | rfl | (simp only [List.length_drop, List.length_take]; rfl)) ?_
     with_reducible refine (digits_Rat.calls kj1 a0_0 _ _ l0_1 _ _ l0_2 t103 _ (PowTab.below HT.out (by repeat (first | (with_reducible first | exact HB.out | apply bA9 | apply bN9 | apply bD9 | refine bS9 ?_ GE101.out) | exact HB.out))) ?side1 ?side2 ?side3 ?side4 A10.out).mono ?_
     (case side1 => repeat (first | exact (Kd.cB9 HR0_1.out HB.out) | (with_reducible refine Kd.cA9 ?_ _) | (with_reducible refine Kd.cN9 ?_ _) | (with_reducible refine Kd.cD9 ?_)))
     (case side2 => exact HC0_1.out)
     (case side3 => repeat (first | exact (Kd.cB9 HR0_2.out HB.out) | (with_reducible refine Kd.cA9 ?_ _) | (with_reducible refine Kd.cN9 ?_ _) | (with_reducible refine Kd.cD9 ?_)))
     (case side4 => exact HC0_2.out)
     rintro e w16 ⟨rfl, hb⟩
     refine ⟨_, rfl, ?_⟩
     have n0_ := Aside0.mk (kB9 (g := gb101) (o := .cells #[.bool a0_0, .slice A0_1 l0_1.length c0_1, .slice A0_2 l0_2.length c0_2] 35 (0, 0)) (by (with_reducible repeat (first | refine kN9 ?_ _ | refine kD9 ?_ | refine kA9 ?_ _)); exact BK101.out) hb)
     have n1_ := Aside0.mk (bT9 (by repeat (first | (with_reducible first | exact HB.out | apply bA9 | apply bN9 | apply bD9 | refine bS9 ?_ GE101.out) | exact HB.out)) hb)
     clear BK101
     clear HB
     have BK101 := n0_
     have HB := n1_
     clear n0_ n1_
     (try clear hb)
     (try clear hb2)
     (try clear hk)
     (try clear hi)
     refine hK.out _ _ ⟨(kC9 BK101.out 0).trans rfl, (kC9 BK101.out 1).trans rfl, (kC9 BK101.out 2).trans rfl⟩ (fun hHeld => ?_)
     clear hK K
     refine norm_ (a' := ?_) ?_ ?_
     rotate_left
     ·show Act.put _ (some 15) _ = _
      simp only [Act.put, List.setIfInBounds_toArray, List.set_cons_zero, List.set_cons_succ, i64_w, i32_w]
      rfl
     refine one_ (i := 3) (N := some 17) #[true, true, true, true, false, false, false, false, false, false] rfl rfl (one_of HT_.out (by kernel_rfl)) (by decide) (fun K hK => ?_)
     refine goes_ Tryz.func18 (by kernel_rfl) rfl #[.agg #[.bool a0_0, .slice A0_1 l0_1.length c0_1, .slice A0_2 l0_2.length c0_2]] (by rfl) rfl rfl (by (try simp only [List.map_toArray, List.map_cons, List.map_nil]); first | done | rfl | (simp only [List.length_drop, List.length_take]; rfl)) ?_
     with_reducible refine (r3Of.calls kj1 a0_0 _ _ l0_1 _ _ l0_2 t104 t105 t108 _ ?side1 ?side2 ?side3 ?side4 A11.out).mono ?_
     (case side1 => repeat (first | exact (Kd.cB9 HR0_1.out HB.out) | (with_reducible refine Kd.cA9 ?_ _) | (with_reducible refine Kd.cN9 ?_ _) | (with_reducible refine Kd.cD9 ?_)))
     (case side2 => exact HC0_1.out)
     (case side3 => repeat (first | exact (Kd.cB9 HR0_2.out HB.out) | (with_reducible refine Kd.cA9 ?_ _) | (with_reducible refine Kd.cN9 ?_ _) | (with_reducible refine Kd.cD9 ?_)))
     (case side4 => exact HC0_2.out)
     rintro e w17 ⟨v106, v109, rfl, ho0, ho1, hb⟩
     refine ⟨_, rfl, ?_⟩
     have n0_ := Aside0.mk (Kd.rL9 ho0 (bZ9 (by repeat (first | (with_reducible first | exact HB.out | apply bA9 | apply bN9 | apply bD9 | refine bS9 ?_ GE101.out) | exact HB.out))))
     have n1_ := Aside0.mk (Kd.rL9 ho1 (bZ9 (by repeat (first | (with_reducible first | exact HB.out | apply bA9 | apply bN9 | apply bD9 | refine bS9 ?_ GE101.out) | exact HB.out))))
     have n2_ := Aside0.mk (kB9 (g := gb101) (o := .cells #[.bool a0_0, .slice A0_1 l0_1.length c0_1, .slice A0_2 l0_2.length c0_2] 35 (0, 0)) (by (with_reducible repeat (first | refine kN9 ?_ _ | refine kD9 ?_ | refine kA9 ?_ _)); exact BK101.out) hb)
     have n3_ := Aside0.mk (bT9 (by repeat (first | (with_reducible first | exact HB.out | apply bA9 | apply bN9 | apply bD9 | refine bS9 ?_ GE101.out) | exact HB.out)) hb)
     clear BK101
     clear HB
     have HO107 := n0_
     have HO110 := n1_
     have BK101 := n2_
     have HB := n3_
     clear n0_ n1_ n2_ n3_
     (try clear hb)
     (try clear hb2)
     (try clear hk)
     (try clear hi)
     (try clear ho0)
     (try clear ho1)
     obtain ⟨Ao18, co18, eo18⟩ := Kd.rS9 HO107.out
     (first | subst eo18 | (injection eo18 with f1_ f2_ f3_; have f4_ := f1_.symm; have f5_ := f3_.symm; clear f1_ f2_ f3_; subst f4_; subst f5_))
     obtain ⟨Ao19, co19, eo19⟩ := Kd.rS9 HO110.out
     (first | subst eo19 | (injection eo19 with f1_ f2_ f3_; have f4_ := f1_.symm; have f5_ := f3_.symm; clear f1_ f2_ f3_; subst f4_; subst f5_))
     refine hK.out _ _ ⟨(kC9 BK101.out 0).trans rfl, (kC9 BK101.out 1).trans rfl, (kC9 BK101.out 2).trans rfl⟩ (fun hHeld => ?_)
     clear hK K
     refine norm_ (a' := ?_) ?_ ?_
     rotate_left
     ·show Act.put _ (some 17) _ = _
      simp only [Act.put, List.setIfInBounds_toArray, List.set_cons_zero, List.set_cons_succ, i64_w, i32_w]
      rfl
     refine one_ (i := 4) (N := some 18) #[true, true, true, true, true, false, false, false, false, false] rfl rfl (one_of HT_.out (by kernel_rfl)) (by decide) (fun K hK => ?_)
     refine goes_ Tryz.func17 (by kernel_rfl) rfl #[.agg #[.bool t104, .slice Ao18 t105.length co18, .slice Ao19 t108.length co19]] (by rfl) rfl rfl (by (try simp only [List.map_toArray, List.map_cons, List.map_nil]); first | done | rfl | (simp only [List.length_drop, List.length_take]; rfl)) ?_
     with_reducible refine (r4R.calls kj1 t104 _ _ t105 _ _ t108 t111 _ ?side1 ?side2 ?side3 ?side4 A12.out).mono ?_
     (case side1 => repeat (first | exact (Kd.rR9 HO107.out).2.2 | (with_reducible refine Kd.cA9 ?_ _) | (with_reducible refine Kd.cN9 ?_ _) | (with_reducible refine Kd.cD9 ?_)))
     (case side2 => exact (Kd.rR9 HO107.out).2.1)
     (case side3 => repeat (first | exact (Kd.rR9 HO110.out).2.2 | (with_reducible refine Kd.cA9 ?_ _) | (with_reducible refine Kd.cN9 ?_ _) | (with_reducible refine Kd.cD9 ?_)))
     (case side4 => exact (Kd.rR9 HO110.out).2.1)
     rintro e w20 ⟨rfl, hb⟩
     refine ⟨_, rfl, ?_⟩
     have n0_ := Aside0.mk (Kd.rB9 (by (with_reducible repeat (first | apply Kd.rA9 | apply Kd.rN9 | apply Kd.rD9)); exact HO107.out) hb)
     have n1_ := Aside0.mk (Kd.rB9 (by (with_reducible repeat (first | apply Kd.rA9 | apply Kd.rN9 | apply Kd.rD9)); exact HO110.out) hb)
     have n2_ := Aside0.mk (kB9 (g := gb101) (o := .cells #[.bool a0_0, .slice A0_1 l0_1.length c0_1, .slice A0_2 l0_2.length c0_2] 35 (0, 0)) (by (with_reducible repeat (first | refine kN9 ?_ _ | refine kD9 ?_ | refine kA9 ?_ _)); exact BK101.out) hb)
     have n3_ := Aside0.mk (bT9 (by repeat (first | (with_reducible first | exact HB.out | apply bA9 | apply bN9 | apply bD9 | refine bS9 ?_ GE101.out) | exact HB.out)) hb)
     clear HO107
     clear HO110
     clear BK101
     clear HB
     have HO107 := n0_
     have HO110 := n1_
     have BK101 := n2_
     have HB := n3_
     clear n0_ n1_ n2_ n3_
     (try clear hb)
     (try clear hb2)
     (try clear hk)
     (try clear hi)
     refine hK.out _ _ ⟨(kC9 BK101.out 0).trans rfl, (kC9 BK101.out 1).trans rfl, (kC9 BK101.out 2).trans rfl⟩ (fun hHeld => ?_)
     clear hK K
     refine norm_ (a' := ?_) ?_ ?_
     rotate_left
     ·show Act.put _ (some 18) _ = _
      simp only [Act.put, List.setIfInBounds_toArray, List.set_cons_zero, List.set_cons_succ, i64_w, i32_w]
      rfl
     refine pure_ (i := 5) (N := some 19) (v := ?_) (a' := ?_) #[true, true, true, true, true, true, false, false, false, false] rfl rfl (any_of HT_.out (by kernel_rfl)) (fun _ _ _ h => h) (Or.inl ⟨by rfl, ?_⟩) ?_ ?_
     rotate_left
     ·intro w'
      go_simp
      with_reducible rfl
     rotate_left
     ·simp only [Act.put, List.setIfInBounds_toArray, List.set_cons_zero, List.set_cons_succ, i64_w, i32_w]
      rfl
     refine pure_ (i := 6) (N := some 20) (v := ?_) (a' := ?_) #[true, true, true, true, true, true, true, false, false, false] rfl rfl (any_of HT_.out (by kernel_rfl)) (fun _ _ _ h => h) (Or.inl ⟨by rfl, ?_⟩) ?_ ?_
     rotate_left
     ·intro w'
      go_simp
      with_reducible rfl
     rotate_left
     ·simp only [Act.put, List.setIfInBounds_toArray, List.set_cons_zero, List.set_cons_succ, i64_w, i32_w]
      rfl
     refine one_ (i := 7) (N := some 21) #[true, true, true, true, true, true, true, true, false, false] rfl rfl (one_of HT_.out (by kernel_rfl)) (by decide) (fun K hK => ?_)
     refine goes_ Tryz.func15 (by kernel_rfl) rfl #[] (by rfl) rfl rfl (by (try simp only [List.map_toArray, List.map_cons, List.map_nil]); first | done | rfl | (simp only [List.length_drop, List.length_take]; rfl)) ?_
     with_reducible refine (kn9.calls kj1  t112 _ (PowTab.below HT.out (by repeat (first | (with_reducible first | exact HB.out | apply bA9 | apply bN9 | apply bD9 | refine bS9 ?_ GE101.out) | exact HB.out))) A14.out).mono ?_
     rintro e w21 ⟨rfl, hb⟩
     refine ⟨_, rfl, ?_⟩
     have n0_ := Aside0.mk (Kd.rB9 (by (with_reducible repeat (first | apply Kd.rA9 | apply Kd.rN9 | apply Kd.rD9)); exact HO107.out) hb)
     have n1_ := Aside0.mk (Kd.rB9 (by (with_reducible repeat (first | apply Kd.rA9 | apply Kd.rN9 | apply Kd.rD9)); exact HO110.out) hb)
     have n2_ := Aside0.mk (kB9 (g := gb101) (o := .cells #[.bool a0_0, .slice A0_1 l0_1.length c0_1, .slice A0_2 l0_2.length c0_2] 35 (0, 0)) (by (with_reducible repeat (first | refine kN9 ?_ _ | refine kD9 ?_ | refine kA9 ?_ _)); exact BK101.out) hb)
     have n3_ := Aside0.mk (bT9 (by repeat (first | (with_reducible first | exact HB.out | apply bA9 | apply bN9 | apply bD9 | refine bS9 ?_ GE101.out) | exact HB.out)) hb)
     clear HO107
     clear HO110
     clear BK101
     clear HB
     have HO107 := n0_
     have HO110 := n1_
     have BK101 := n2_
     have HB := n3_
     clear n0_ n1_ n2_ n3_
     (try clear hb)
     (try clear hb2)
     (try clear hk)
     (try clear hi)
     refine hK.out _ _ ⟨(kC9 BK101.out 0).trans rfl, (kC9 BK101.out 1).trans rfl, (kC9 BK101.out 2).trans rfl⟩ (fun hHeld => ?_)
     clear hK K
     refine norm_ (a' := ?_) ?_ ?_
     rotate_left
     ·show Act.put _ (some 21) _ = _
      simp only [Act.put, List.setIfInBounds_toArray, List.set_cons_zero, List.set_cons_succ, i64_w, i32_w]
      rfl
     refine pure_ (i := 8) (N := some 22) (v := ?_) (a' := ?_) #[true, true, true, true, true, true, true, true, true, false] rfl rfl (any_of HT_.out (by kernel_rfl)) (fun _ _ _ h => h) (Or.inl ⟨by rfl, ?_⟩) ?_ ?_
     rotate_left
     ·intro w'
      go_simp
      with_reducible rfl
     rotate_left
     ·simp only [Act.put, List.setIfInBounds_toArray, List.set_cons_zero, List.set_cons_succ, i64_w, i32_w]
      rfl
     refine pure_ (i := 9) (N := some 2) (v := ?_) (a' := ?_) #[true, true, true, true, true, true, true, true, true, true] rfl rfl (any_of HT_.out (by kernel_rfl)) (fun _ _ _ h => h) (Or.inl ⟨by rfl, ?_⟩) ?_ ?_
     rotate_left
     ·intro w'
      go_simp
      with_reducible rfl
     rotate_left
     ·simp only [Act.put, List.setIfInBounds_toArray, List.set_cons_zero, List.set_cons_succ, i64_w, i32_w]
      rfl
     refine done_ (done_of HT_.out (by kernel_rfl)) ?_
     try go_wp2
     go_ret
     exact ⟨by first | rfl | (simp [eN9, eS9] <;> rfl) | (simp [*, eN9, eS9] <;> rfl), by repeat (first | (with_reducible first | exact HB.out | apply bA9 | apply bN9 | apply bD9 | refine bS9 ?_ GE101.out) | exact HB.out)⟩
    ·rw [if_neg c13] at H
     exact absurd H (by simp)
end Go.Proofs.YthppjdmkinbccaaGreatDoor.Print

namespace Go.Proofs.YthppjdmkinbccaaGreatDoor.Ref
open Go.RowKit Go.Proofs.YthppjdmkinbccaaGreatDoorW.PrintWords Go.Proofs.YthppjdmkinbccaaGreatDoorW.PrintLast Go.Proofs.YthppjdmkinbccaaGreatDoor.Print Go.Proofs.YthppjdmkinbccaaGreatDoor.Base
set_option linter.unusedVariables false
set_option linter.unusedSimpArgs false
theorem w64 {x : Int} (h0 : -9223372036854775808 ≤ x) (h1 : x ≤ 9223372036854775807) : wrap64 x = x := by
  unfold wrap64; omega
theorem w64n {n : Nat} (h : n ≤ 9223372036854775807) : wrap64 (n : Int) = (n : Int) := w64 (by omega) (by omega)
theorem tdiv_nat (a b : Nat) : Int.tdiv (a : Int) (b : Int) = ((a / b : Nat) : Int) := rfl
theorem tmod_nat (a b : Nat) : Int.tmod (a : Int) (b : Int) = ((a % b : Nat) : Int) := rfl
theorem rd_limb {B : Nat} {l : List Int} (h : DigB B l) (i : Nat) : rd l (i : Int) = ((limbN l i : Nat) : Int) := by
  unfold rd limbN
  rw [Int.toNat_natCast, Int.toNat_of_nonneg]
  rcases Nat.lt_or_ge i l.length with c | c
  · have := h l[i] (List.getElem_mem c)
    simp [c]; omega
  · simp [List.getElem?_eq_none c]
theorem digit_f {B : Nat} {l : List Int} (h : DigB B l) (i : Nat) : r1d.f l (i : Int) = some ((limbN l i : Nat) : Int) := by
  unfold r1d.f
  by_cases c : i < l.length
  · rw [if_pos (by omega), if_pos (by omega), rd_limb h]
  · rw [if_neg (by omega), limbN_out (by omega)]; rfl
theorem top_pos {B : Nat} {l : List Int} (g : GoodB B l) {m : Nat} (h : m + 1 = l.length) : 0 < limbN l m := by
  have hl : l ≠ [] := fun e => by rw [e] at h; simp at h
  have hg : l.getLast hl ≠ 0 := fun c => g.can (by rw [List.getLast?_eq_some_getLast hl, c])
  have hd := g.dig _ (List.getLast_mem hl)
  have e : l.getD m 0 = l.getLast hl := by
    rw [List.getLast_eq_getElem]
    simp [show m = l.length - 1 by omega, show l.length - 1 < l.length by omega]
  unfold limbN; rw [e]; omega
theorem sumB_mul {B d : Nat} {g : Nat → Nat} : ∀ n, sumB B (fun i => g i * d) n = sumB B g n * d
  | 0 => by simp [sumB]
  | n + 1 => by rw [sumB, sumB, sumB_mul n, Nat.add_mul, Nat.mul_assoc]
theorem digB_step {B v : Nat} (hB : 2 ≤ B) (hv : 0 < v) : digB B v = ((v % B : Nat) : Int) :: digB B (v / B) := by
  have hm := Nat.mod_lt v (show 0 < B by omega)
  refine GoodB.inj (digB_good B hB v) ⟨DigB.cons (by omega) (by omega) (digB_good B hB _).dig, fun c => ?_⟩ ?_
  · cases hr : digB B (v / B) with
    | nil =>
      rw [hr] at c
      have h1 : ((v % B : Nat) : Int) = 0 := by simpa using c
      have h2 : v / B = 0 := by have := digB_val B hB (v / B); rw [hr] at this; exact this.symm
      have := Nat.mod_add_div v B
      rw [h2] at this; omega
    | cons e s =>
      rw [hr, List.getLast?_cons_cons, ← hr] at c
      exact (digB_good B hB _).can c
  · rw [digB_val B hB, valB_cons, digB_val B hB, Int.toNat_natCast, Nat.mod_add_div]
theorem digB_nil (v : Nat) : digB 10000 v = [] ↔ v = 0 :=
  ⟨fun h => by have := digB_val 10000 (by decide) v; rw [h] at this; exact this.symm, fun h => by rw [h]; exact digB_zero _ (by decide)⟩
theorem T_good (v : Nat) : GoodB 10000 (digB 10000 v) := digB_good _ (by decide) v
theorem T_val (v : Nat) : valB 10000 (digB 10000 v) = v := digB_val _ (by decide) v
theorem limb_lt {l : List Int} (h : DigB 10000 l) (i : Nat) : limbN l i < 10000 := limbN_lt (by decide) h i
theorem T_len {x n : Nat} (h : x < 4294967296 ^ n) : (digB 10000 x).length ≤ 3 * n := by
  refine digB_len (by decide) (Nat.lt_of_lt_of_le h ?_)
  rw [Nat.pow_mul]
  exact Nat.pow_le_pow_left (by decide) n
theorem T_len_le {x y : Nat} (h : x ≤ y) : (digB 10000 x).length ≤ (digB 10000 y).length := by
  refine digB_len (by decide) (Nat.lt_of_le_of_lt h ?_)
  have := valB_lt 10000 _ (T_good y).dig
  rwa [T_val] at this
def addF (a b : List Int) (i : Nat) : Nat := limbN a i + limbN b i
theorem addF_small {a b : List Int} (da : DigB 10000 a) (db : DigB 10000 b) (i : Nat) : addF a b i ≤ 2 * (10000 - 1) := by
  have := limb_lt da i; have := limb_lt db i; unfold addF; omega
theorem add_stop {a b : List Int} (ga : GoodB 10000 a) (gb : GoodB 10000 b) (i : Nat) (h1 : a.length ≤ i) (h2 : b.length ≤ i) (h3 : (putB 10000 (addF a b) i).2 = 0)
    (inv : i = 0 ∨ i - 1 < a.length ∨ i - 1 < b.length ∨ 0 < (putB 10000 (addF a b) (i - 1)).2) : (putB 10000 (addF a b) i).1 = digB 10000 (valB 10000 a + valB 10000 b) := by
  obtain ⟨e, d⟩ := putB_spec (B := 10000) (by decide) (f := addF a b) i
  rw [h3, Nat.mul_zero, Nat.add_zero] at e
  have es : sumB 10000 (addF a b) i = valB 10000 a + valB 10000 b := by
    show sumB 10000 (fun j => limbN a j + limbN b j) i = _
    rw [sumB_add, sumB_limb a i h1, sumB_limb b i h2]
  rw [← es, ← e]
  refine GoodB.eq (by decide) ⟨d, ?_⟩
  cases i with
  | zero => simp [putB]
  | succ m =>
    rw [Nat.add_sub_cancel] at inv
    have c2 : (putB 10000 (addF a b) (m + 1)).2 = (addF a b m + (putB 10000 (addF a b) m).2) / 10000 := rfl
    have c1 : (putB 10000 (addF a b) (m + 1)).1 = (putB 10000 (addF a b) m).1 ++ [(((addF a b m + (putB 10000 (addF a b) m).2) % 10000 : Nat) : Int)] := rfl
    rw [c2] at h3
    have hp : 0 < addF a b m + (putB 10000 (addF a b) m).2 := by
      rcases inv with h | h | h | h
      · omega
      · have := top_pos ga (m := m) (by omega); unfold addF; omega
      · have := top_pos gb (m := m) (by omega); unfold addF; omega
      · omega
    rw [c1]
    intro c
    have : (((addF a b m + (putB 10000 (addF a b) m).2) % 10000 : Nat) : Int) = 0 := by simpa using c
    omega
theorem add_loop {a b : List Int} (ga : GoodB 10000 a) (gb : GoodB 10000 b) (la : a.length ≤ 1000000) (lb : b.length ≤ 1000000) : ∀ (m i : Nat), i + m = max a.length b.length + 1 →
    (i = 0 ∨ i - 1 < a.length ∨ i - 1 < b.length ∨ 0 < (putB 10000 (addF a b) (i - 1)).2) →
    Ev (fun k => r1Add.l0 k a b (putB 10000 (addF a b) i).1 (((putB 10000 (addF a b) i).2 : Nat) : Int) (i : Int)) (digB 10000 (valB 10000 a + valB 10000 b)) := by
  have stop : ∀ i : Nat, i ≤ 1000001 → ¬ (i < a.length ∨ i < b.length ∨ 0 < (putB 10000 (addF a b) i).2) → (i = 0 ∨ i - 1 < a.length ∨ i - 1 < b.length ∨ 0 < (putB 10000 (addF a b) (i - 1)).2) →
      Ev (fun k => r1Add.l0 k a b (putB 10000 (addF a b) i).1 (((putB 10000 (addF a b) i).2 : Nat) : Int) (i : Int)) (digB 10000 (valB 10000 a + valB 10000 b)) := by
    intro i hi hc inv
    have h3 : (putB 10000 (addF a b) i).2 = 0 := by omega
    have e := add_stop ga gb i (by omega) (by omega) h3 inv
    refine Ev.step (fun k => ?_) (Ev.step (g := fun k => r1Add.j1 k a b (putB 10000 (addF a b) i).1 (((putB 10000 (addF a b) i).2 : Nat) : Int) (i : Int) false) (f := fun _ => some (putB 10000 (addF a b) i).1) (fun k => ?_) (e ▸ Ev.now _))
    · simp only [r1Add.l0]
      rw [if_neg (by omega), if_neg (by omega), decide_eq_false (by omega)]
    · simp only [r1Add.j1]
      rw [if_neg (by decide)]
  intro m
  induction m with
  | zero =>
    intro i hi inv
    have hb := putB_carry (B := 10000) (by decide) (K := 2) (addF_small ga.dig gb.dig) (i - 1)
    have hi1 : i = (i - 1) + 1 := by omega
    have h0 : (putB 10000 (addF a b) i).2 = 0 := by
      rw [hi1]
      show (addF a b (i - 1) + (putB 10000 (addF a b) (i - 1)).2) / 10000 = 0
      have : addF a b (i - 1) = 0 := by unfold addF; rw [limbN_out (by omega), limbN_out (by omega)]
      omega
    exact stop i (by omega) (by omega) inv
  | succ m ih =>
    intro i hi inv
    by_cases hc : i < a.length ∨ i < b.length ∨ 0 < (putB 10000 (addF a b) i).2
    · have hn := ih (i + 1) (by omega) (by rw [Nat.add_sub_cancel]; omega)
      have hcar := putB_carry (B := 10000) (by decide) (K := 2) (addF_small ga.dig gb.dig) i
      have h1 := limb_lt ga.dig i
      have h2 := limb_lt gb.dig i
      refine Ev.step (fun k => ?_) (Ev.step (g := fun k => r1Add.j1 k a b (putB 10000 (addF a b) i).1 (((putB 10000 (addF a b) i).2 : Nat) : Int) (i : Int) true) (fun k => ?_) hn)
      · simp only [r1Add.l0]
        by_cases c1 : i < a.length
        · rw [if_pos (by omega)]
        · rw [if_neg (by omega)]
          by_cases c2 : i < b.length
          · rw [if_pos (by omega)]
          · rw [if_neg (by omega), decide_eq_true (by omega)]
      · simp only [r1Add.j1]
        rw [if_pos trivial, digit_f ga.dig, digit_f gb.dig, Option.bind_some, Option.bind_some, if_pos (by rw [putB_len]; omega)]
        have ea : addF a b i = limbN a i + limbN b i := rfl
        have e1 : wrap64 (wrap64 (((limbN a i : Nat) : Int) + ((limbN b i : Nat) : Int)) + (((putB 10000 (addF a b) i).2 : Nat) : Int)) = ((addF a b i + (putB 10000 (addF a b) i).2 : Nat) : Int) := by
          rw [← Int.natCast_add, w64n (by omega), ← Int.natCast_add, w64n (by omega)]; rfl
        rw [e1, show (10000 : Int) = ((10000 : Nat) : Int) from rfl, tdiv_nat, tmod_nat, w64n (by omega), w64 (by omega) (by omega)]
        rfl
    · exact stop i (by omega) hc inv
theorem add_ev {x y : Nat} (hx : (digB 10000 x).length ≤ 1000000) (hy : (digB 10000 y).length ≤ 1000000) : Ev (fun k => r1Add.f k (digB 10000 x) (digB 10000 y)) (digB 10000 (x + y)) := by
  have h := add_loop (T_good x) (T_good y) hx hy (max (digB 10000 x).length (digB 10000 y).length + 1) 0 (by omega) (Or.inl rfl)
  rw [T_val, T_val] at h
  exact h
theorem take_snoc {l : List Int} {i : Nat} (h : i < l.length) : l.take (i + 1) = l.take i ++ [rd l (i : Int)] := by
  rw [List.take_succ_eq_append_getElem h]; simp [rd, h]
theorem trim_loop (l : List Int) (hl : l.length ≤ 4611686018427387904) : ∀ i : Nat, i ≤ l.length → Ev (fun k => r1t.l0 k l (i : Int)) (trimL (l.take i))
  | 0, _ => by
    refine Ev.step (f := fun _ => some []) (fun k => ?_) (Ev.now _)
    simp only [r1t.l0]
    rw [if_neg (by omega), if_pos (by omega), if_pos (by omega)]; rfl
  | i + 1, hi => by
    have hw : wrap64 (((i + 1 : Nat) : Int) - 1) = (i : Int) := by rw [w64 (by omega) (by omega)]; omega
    rw [take_snoc (by omega)]
    by_cases h0 : rd l (i : Int) = 0
    · rw [h0, trimL_snoc_zero]
      refine Ev.step (fun k => ?_) (trim_loop l hl i (by omega))
      simp only [r1t.l0]
      rw [hw, if_pos (by omega), if_pos (by omega), if_pos (by omega), if_pos h0]
    · rw [trimL_snoc _ _ h0]
      refine Ev.step (f := fun _ => some (l.take (i + 1))) (fun k => ?_) (by rw [take_snoc (by omega)]; exact Ev.now _)
      simp only [r1t.l0]
      rw [hw, if_pos (by omega), if_pos (by omega), if_pos (by omega), if_neg h0, if_pos (by omega), if_pos (by omega)]; rfl
theorem trim_ev {l : List Int} (hd : DigB 10000 l) (hl : l.length ≤ 4611686018427387904) : Ev (fun k => r1t.f k l) (digB 10000 (valB 10000 l)) := by
  have h := trim_loop l hl l.length (by omega)
  rw [List.take_length, trimL_eq (by decide) hd] at h
  exact h
def timesF (a : List Int) (d : Nat) (i : Nat) : Nat := limbN a i * d
theorem times_carry {a : List Int} (da : DigB 10000 a) (d i : Nat) : (putB 10000 (timesF a d) i).2 ≤ d := by
  refine putB_carry (by decide) (fun j => ?_) i
  have := limb_lt da j
  unfold timesF
  rw [Nat.mul_comm]
  exact Nat.mul_le_mul_left _ (by omega)
theorem times_out {a : List Int} (da : DigB 10000 a) (d : Nat) : ∀ t, (putB 10000 (timesF a d) (a.length + t)).2 ≤ d / 10000 ^ t
  | 0 => by simpa using times_carry da d a.length
  | t + 1 => by
    have ih := times_out da d t
    show (timesF a d (a.length + t) + (putB 10000 (timesF a d) (a.length + t)).2) / 10000 ≤ _
    rw [show timesF a d (a.length + t) = 0 by unfold timesF; rw [limbN_out (by omega), Nat.zero_mul], Nat.zero_add, Nat.pow_succ, ← Nat.div_div_eq_div_mul]
    exact Nat.div_le_div_right ih
theorem times_loop {a : List Int} (da : DigB 10000 a) (la : a.length ≤ 1000000) {d : Nat} (hd : d ≤ 4294967296) : ∀ (m i : Nat), i + m = a.length + 3 →
    Ev (fun k => r1Times.l0 k a (d : Int) (putB 10000 (timesF a d) i).1 (((putB 10000 (timesF a d) i).2 : Nat) : Int) (i : Int)) (digB 10000 (valB 10000 a * d)) := by
  have stop : ∀ i : Nat, i ≤ 1000003 → a.length ≤ i → (putB 10000 (timesF a d) i).2 = 0 →
      Ev (fun k => r1Times.l0 k a (d : Int) (putB 10000 (timesF a d) i).1 (((putB 10000 (timesF a d) i).2 : Nat) : Int) (i : Int)) (digB 10000 (valB 10000 a * d)) := by
    intro i hi hl h3
    obtain ⟨e, g⟩ := putB_spec (B := 10000) (by decide) (f := timesF a d) i
    rw [h3, Nat.mul_zero, Nat.add_zero] at e
    have es : sumB 10000 (timesF a d) i = valB 10000 a * d := by
      show sumB 10000 (fun j => limbN a j * d) i = _
      rw [sumB_mul, sumB_limb a i hl]
    have ht := trim_ev g (by rw [putB_len]; omega)
    rw [e, es] at ht
    refine Ev.step (fun k => ?_) (Ev.bind ht (f := fun _ t => some t) (Ev.now _))
    simp only [r1Times.l0]
    rw [if_neg (by omega), if_neg (by omega)]
  intro m
  induction m with
  | zero =>
    intro i hi
    have := times_out da d 3
    rw [show a.length + 3 = i by omega] at this
    exact stop i (by omega) (by omega) (by omega)
  | succ m ih =>
    intro i hi
    have hn := ih (i + 1) (by omega)
    have hcar := times_carry da d i
    have h1 := limb_lt da i
    have hp : timesF a d i ≤ 9999 * 4294967296 := by unfold timesF; exact Nat.mul_le_mul (by omega) hd
    have e1 : wrap64 (wrap64 (((limbN a i : Nat) : Int) * (d : Int)) + (((putB 10000 (timesF a d) i).2 : Nat) : Int)) = ((timesF a d i + (putB 10000 (timesF a d) i).2 : Nat) : Int) := by
      rw [← Int.natCast_mul]
      show wrap64 (wrap64 ((timesF a d i : Nat) : Int) + _) = _
      rw [w64n (by omega), ← Int.natCast_add, w64n (by omega)]
    have e2 : ∀ k, (if (putB 10000 (timesF a d) i).1.length < 17592186044416 then r1Times.l0 k a (d : Int) ((putB 10000 (timesF a d) i).1 ++ [Int.tmod (wrap64 (wrap64 (((limbN a i : Nat) : Int) * (d : Int)) + (((putB 10000 (timesF a d) i).2 : Nat) : Int))) 10000]) (wrap64 (Int.tdiv (wrap64 (wrap64 (((limbN a i : Nat) : Int) * (d : Int)) + (((putB 10000 (timesF a d) i).2 : Nat) : Int))) 10000)) (wrap64 ((i : Int) + 1)) else none) =
        r1Times.l0 k a (d : Int) (putB 10000 (timesF a d) (i + 1)).1 (((putB 10000 (timesF a d) (i + 1)).2 : Nat) : Int) ((i + 1 : Nat) : Int) := by
      intro k
      rw [if_pos (by rw [putB_len]; omega), e1, show (10000 : Int) = ((10000 : Nat) : Int) from rfl, tdiv_nat, tmod_nat, w64n (by omega), w64 (by omega) (by omega)]
      rfl
    by_cases c1 : i < a.length
    · refine Ev.step (fun k => ?_) hn
      simp only [r1Times.l0]
      rw [if_pos (by omega), digit_f da, Option.bind_some, e2]
    · by_cases c2 : 0 < (putB 10000 (timesF a d) i).2
      · refine Ev.step (fun k => ?_) hn
        simp only [r1Times.l0]
        rw [if_neg (by omega), if_pos (by omega), digit_f da, Option.bind_some, e2]
      · exact stop i (by omega) (by omega) (by omega)
theorem times_ev {x d : Nat} (hx : (digB 10000 x).length ≤ 1000000) (hd : d ≤ 4294967296) : Ev (fun k => r1Times.f k (digB 10000 x) (d : Int)) (digB 10000 (x * d)) := by
  have h := times_loop (T_good x).dig hx hd ((digB 10000 x).length + 3) 0 (by omega)
  rw [T_val] at h
  exact h
theorem times_lit {x : Nat} (hx : (digB 10000 x).length ≤ 1000000) : Ev (fun k => r1Times.f k (digB 10000 x) 65536) (digB 10000 (x * 65536)) := by
  have h := times_ev (d := 65536) hx (by decide)
  rw [show ((65536 : Nat) : Int) = 65536 from rfl] at h
  exact h
theorem small_loop : ∀ (m v : Nat) (acc : List Int), v < 10000 ^ m → v ≤ 9223372036854775807 → acc.length + m ≤ 1000000 → Ev (fun k => r1Sm.l0 k (v : Int) acc) (acc ++ digB 10000 v)
  | 0, v, acc, h, _, _ => by
    obtain rfl : v = 0 := by simpa using h
    rw [digB_zero _ (by decide), List.append_nil]
    refine Ev.step (f := fun _ => some acc) (fun k => ?_) (Ev.now _)
    simp only [r1Sm.l0]; rw [if_neg (by omega)]
  | m + 1, v, acc, h, h63, hl => by
    by_cases h0 : v = 0
    · subst h0
      rw [digB_zero _ (by decide), List.append_nil]
      refine Ev.step (f := fun _ => some acc) (fun k => ?_) (Ev.now _)
      simp only [r1Sm.l0]; rw [if_neg (by omega)]
    · have ih := small_loop m (v / 10000) (acc ++ [((v % 10000 : Nat) : Int)]) (Nat.div_lt_of_lt_mul (by rw [Nat.pow_succ, Nat.mul_comm] at h; exact h)) (by omega) (by simp; omega)
      rw [List.append_assoc, List.singleton_append, ← digB_step (by decide) (by omega)] at ih
      refine Ev.step (fun k => ?_) ih
      simp only [r1Sm.l0]
      rw [if_pos (by omega), if_pos (by omega), show (10000 : Int) = ((10000 : Nat) : Int) from rfl, tdiv_nat, tmod_nat, w64n (by omega)]
theorem small_ev {v : Nat} (h : v < 1000000000000) : Ev (fun k => r1Sm.f k (v : Int)) (digB 10000 v) := by
  have := small_loop 3 v [] (by omega) (by omega) (by simp)
  exact this
theorem valB_drop {B : Nat} {l : List Int} {j : Nat} (h : j < l.length) : valB B (l.drop j) = limbN l j + B * valB B (l.drop (j + 1)) := by
  rw [List.drop_eq_getElem_cons h, valB_cons]
  simp [limbN, h]
theorem of_loop {l : List Int} (hd : DigB 4294967296 l) (hl : l.length ≤ 100000) : ∀ i : Nat, i ≤ l.length → Ev (fun k => r1Of.l0 k l (digB 10000 (valB 4294967296 (l.drop i))) ((i : Int) - 1)) (digB 10000 (valB 4294967296 l))
  | 0, _ => by
    refine Ev.step (f := fun _ => some (digB 10000 (valB 4294967296 l))) (fun k => ?_) (Ev.now _)
    simp only [r1Of.l0]; rw [if_neg (by omega)]; rfl
  | j + 1, hj => by
    have ih := of_loop hd hl j (by omega)
    rw [valB_drop (B := 4294967296) (j := j) (by omega)] at ih
    have hX := valB_lt 4294967296 _ (hd.drop (j + 1))
    rw [List.length_drop] at hX
    generalize valB 4294967296 (l.drop (j + 1)) = X at hX ih ⊢
    have l1 := T_len hX
    have hX1 : X * 65536 < 4294967296 ^ (l.length - (j + 1) + 1) := by
      rw [Nat.pow_succ]
      exact Nat.lt_of_lt_of_le (Nat.mul_lt_mul_of_pos_right hX (by decide)) (Nat.mul_le_mul_left _ (by decide))
    have l2 := T_len hX1
    have hX2 : X * 65536 * 65536 < 4294967296 ^ (l.length - (j + 1) + 1) := by
      rw [Nat.pow_succ, Nat.mul_assoc]
      exact Nat.mul_lt_mul_of_pos_right hX (by decide)
    have l3 := T_len hX2
    have hw := limbN_lt (by decide) hd j
    have l4 := T_len (x := limbN l j) (n := 1) (by rw [Nat.pow_one]; exact hw)
    have e3 : X * 65536 * 65536 + limbN l j = limbN l j + 4294967296 * X := by omega
    obtain ⟨X1, x1⟩ : ∃ X1, X * 65536 = X1 := ⟨_, rfl⟩
    rw [x1] at e3 l2 l3
    obtain ⟨X2, x2⟩ : ∃ X2, X1 * 65536 = X2 := ⟨_, rfl⟩
    rw [x2] at e3 l3
    have t1 := times_lit (x := X) (by omega)
    rw [x1] at t1
    have t2 := times_lit (x := X1) (by omega)
    rw [x2] at t2
    rw [← e3] at ih
    have s3 := Ev.bind (f := fun k t => r1Of.l0 k l t ((j : Int) - 1)) (add_ev (x := X2) (y := limbN l j) (by omega) (by omega)) ih
    have s2 := Ev.bind (f := fun k t => (r1Add.f k (digB 10000 X2) t).bind fun u => r1Of.l0 k l u ((j : Int) - 1)) (small_ev (v := limbN l j) (by omega)) s3
    have s1 := Ev.bind (f := fun k t => (r1Sm.f k ((limbN l j : Nat) : Int)).bind fun v => (r1Add.f k t v).bind fun u => r1Of.l0 k l u ((j : Int) - 1)) t2 s2
    have s0 := Ev.bind (f := fun k s => (r1Times.f k s 65536).bind fun t => (r1Sm.f k ((limbN l j : Nat) : Int)).bind fun v => (r1Add.f k t v).bind fun u => r1Of.l0 k l u ((j : Int) - 1)) t1 s1
    have p0 : (0 : Int) ≤ (j : Int) := by omega
    have p1 : (j : Int) < (l.length : Int) := by omega
    have p2 : wrap64 ((j : Int) - 1) = (j : Int) - 1 := w64 (by omega) (by omega)
    have p3 : wrap64 ((limbN l j : Nat) : Int) = ((limbN l j : Nat) : Int) := w64n (by omega)
    have p4 : ((j + 1 : Nat) : Int) - 1 = (j : Int) := by omega
    refine Ev.step (fun k => ?_) s0
    simp only [r1Of.l0, p4, ge_iff_le, if_pos p0, if_pos p1, rd_limb hd, p2, p3]
theorem of_ev {l : List Int} (hd : DigB 4294967296 l) (hl : l.length ≤ 100000) : Ev (fun k => r1Of.f k l) (digB 10000 (valB 4294967296 l)) := by
  have h := of_loop hd hl l.length (by omega)
  rw [List.drop_length, show valB 4294967296 [] = 0 from rfl, digB_zero _ (by decide)] at h
  refine Ev.congr (fun k => ?_) h
  unfold r1Of.f
  rw [w64 (by omega) (by omega)]
theorem cmp_loop {a b : List Int} (da : DigB 10000 a) (db : DigB 10000 b) (hl : a.length = b.length) (h9 : a.length ≤ 4611686018427387904) : ∀ i : Nat, i ≤ a.length → (∀ j, i ≤ j → j < a.length → limbN a j = limbN b j) →
    Ev (fun k => r1Cmp.l0 k a b ((i : Int) - 1)) (cmpN (valB 10000 a) (valB 10000 b))
  | 0, _, he => by
    have e : valB 10000 a = valB 10000 b := by
      rw [← sumB_limb a a.length (by omega), ← sumB_limb b a.length (by omega)]
      exact sumB_congr (fun j hj => he j (by omega) hj)
    refine Ev.step (f := fun _ => some (cmpN (valB 10000 a) (valB 10000 b))) (fun k => ?_) (Ev.now _)
    simp only [r1Cmp.l0]
    rw [if_neg (by omega), e]; unfold cmpN; simp
  | j + 1, hj, he => by
    have hlt : ∀ {x y : List Int}, DigB 10000 x → DigB 10000 y → x.length = a.length → y.length = a.length → (∀ t, j + 1 ≤ t → t < a.length → limbN x t = limbN y t) → limbN x j < limbN y j → valB 10000 x < valB 10000 y := by
      intro x y dx dy lx ly hxy hc
      rw [← sumB_limb x a.length (by omega), ← sumB_limb y a.length (by omega)]
      exact sum_lt (by decide) (limb_lt dx) a.length j (by omega) (fun t ht h2 => hxy t (by omega) h2) hc
    have pre : ∀ k, r1Cmp.l0 (k + 1) a b (((j + 1 : Nat) : Int) - 1) = if ((limbN a j : Nat) : Int) < ((limbN b j : Nat) : Int) then some (-1) else if ((limbN a j : Nat) : Int) > ((limbN b j : Nat) : Int) then some 1 else r1Cmp.l0 k a b ((j : Int) - 1) := by
      intro k
      simp only [r1Cmp.l0]
      rw [show ((j + 1 : Nat) : Int) - 1 = (j : Int) by omega, if_pos (by omega), if_pos (by omega), if_pos (by omega), if_pos (by omega), rd_limb da, rd_limb db, w64 (by omega) (by omega)]
    rcases Nat.lt_trichotomy (limbN a j) (limbN b j) with c | c | c
    · have := hlt da db rfl hl.symm he c
      refine Ev.step (f := fun _ => some (-1)) (fun k => by rw [pre, if_pos (by omega)]) ?_
      unfold cmpN; rw [if_pos this]; exact Ev.now _
    · refine Ev.step (fun k => by rw [pre, if_neg (by omega), if_neg (by omega)]) (cmp_loop da db hl h9 j (by omega) (fun t h1 h2 => ?_))
      rcases Nat.eq_or_lt_of_le h1 with h | h
      · rw [← h]; exact c
      · exact he t h h2
    · have := hlt db da hl.symm rfl (fun t h1 h2 => (he t h1 h2).symm) c
      refine Ev.step (f := fun _ => some 1) (fun k => by rw [pre, if_neg (by omega), if_pos (by omega)]) ?_
      unfold cmpN; rw [if_neg (by omega), if_pos this]; exact Ev.now _
theorem good_lt {a b : List Int} (ga : GoodB 10000 a) (gb : GoodB 10000 b) (h : a.length < b.length) : valB 10000 a < valB 10000 b := by
  have h1 := valB_lt 10000 a ga.dig
  have h2 := gb.len_lt (fun e => by rw [e] at h; simp at h)
  exact Nat.lt_of_lt_of_le h1 (Nat.le_trans (Nat.pow_le_pow_right (by decide) (by omega)) h2)
theorem cmp_good {a b : List Int} (ga : GoodB 10000 a) (gb : GoodB 10000 b) (h9 : a.length ≤ 4611686018427387904) : Ev (fun k => r1Cmp.f k a b) (cmpN (valB 10000 a) (valB 10000 b)) := by
  rcases Nat.lt_trichotomy a.length b.length with c | c | c
  · have := good_lt ga gb c
    refine Ev.congr (f := fun _ => some (-1)) (fun k => ?_) (by unfold cmpN; rw [if_pos this]; exact Ev.now _)
    unfold r1Cmp.f; rw [if_neg (by omega), if_pos (by omega)]
  · refine Ev.congr (fun k => ?_) (cmp_loop ga.dig gb.dig c h9 a.length (by omega) (fun j h1 h2 => by omega))
    unfold r1Cmp.f; rw [if_pos (by omega), w64 (by omega) (by omega)]
  · have := good_lt gb ga c
    refine Ev.congr (f := fun _ => some 1) (fun k => ?_) (by unfold cmpN; rw [if_neg (by omega), if_pos this]; exact Ev.now _)
    unfold r1Cmp.f; rw [if_neg (by omega), if_neg (by omega)]
theorem cmp_ev (x y : Nat) (h9 : (digB 10000 x).length ≤ 4611686018427387904) : Ev (fun k => r1Cmp.f k (digB 10000 x) (digB 10000 y)) (cmpN x y) := by
  have := cmp_good (T_good x) (T_good y) h9
  rwa [T_val, T_val] at this
end Go.Proofs.YthppjdmkinbccaaGreatDoor.Ref

namespace Go.Proofs.YthppjdmkinbccaaGreatDoor.Ref
open Go.RowKit Go.Proofs.YthppjdmkinbccaaGreatDoorW.PrintWords Go.Proofs.YthppjdmkinbccaaGreatDoorW.PrintLast Go.Proofs.YthppjdmkinbccaaGreatDoor.Print Go.Proofs.YthppjdmkinbccaaGreatDoor.Base
set_option linter.unusedVariables false
set_option linter.unusedSimpArgs false
structure Quot (B V : Nat) (l out : List Int) (i : Nat) : Prop where
  len : out.length = l.length
  dig : DigB B out
  low : ∀ t, t < i → limbN out t = 0
  val : valB B out = B ^ i * (valB B (l.drop i) / V)
theorem Quot.start {B V : Nat} (hB : 0 < B) (l : List Int) : Quot B V l (List.replicate l.length 0) l.length := by
  refine ⟨by simp, DigB.zeros B hB _, fun t _ => ?_, by rw [valB_zeros, List.drop_length, valB_nil, Nat.zero_div, Nat.mul_zero]⟩
  unfold limbN
  rcases Nat.lt_or_ge t l.length with c | c
  · simp [c]
  · simp [Nat.not_lt.2 c]
theorem quot_step {B V d X : Nat} (hV : 0 < V) (hd : d < B) : (d + B * X) / V = B * (X / V) + (X % V * B + d) / V ∧ (d + B * X) % V = (X % V * B + d) % V ∧ (X % V * B + d) / V < B := by
  have e : d + B * X = (X % V * B + d) + V * (B * (X / V)) := by
    have h := Nat.mod_add_div X V
    have h2 : B * X = B * (X % V) + B * (V * (X / V)) := by rw [← Nat.mul_add, h]
    rw [h2, Nat.mul_left_comm B V, Nat.mul_comm B (X % V)]; omega
  refine ⟨by rw [e, Nat.add_mul_div_left _ _ hV]; omega, by rw [e, Nat.add_mul_mod_self_left], ?_⟩
  refine Nat.div_lt_of_lt_mul ?_
  have h1 : X % V + 1 ≤ V := Nat.mod_lt X hV
  have h2 := Nat.mul_le_mul_right B h1
  rw [Nat.add_mul, Nat.one_mul] at h2
  omega
theorem Quot.next {B V : Nat} {l out : List Int} {i : Nat} (h : Quot B V l out (i + 1)) (hB : 0 < B) (hV : 0 < V) (hl : DigB B l) (hi : i < l.length) {q : Int}
    (hq : q = (((valB B (l.drop (i + 1)) % V * B + limbN l i) / V : Nat) : Int)) : Quot B V l (out.set i q) i := by
  obtain ⟨h1, h2, h3⟩ := quot_step (X := valB B (l.drop (i + 1))) hV (limbN_lt hB hl i)
  have hio : i < out.length := by rw [h.len]; exact hi
  refine ⟨by rw [List.length_set]; exact h.len, fun x hx => ?_, fun t ht => ?_, ?_⟩
  · rcases List.mem_or_eq_of_mem_set hx with hx | hx
    · exact h.dig x hx
    · rw [hx, hq]; exact ⟨Int.natCast_nonneg _, Int.ofNat_lt.2 h3⟩
  · have := h.low t (by omega)
    unfold limbN at this ⊢
    simpa [show i ≠ t by omega] using this
  · have hs := valB_set (B := B) out i hio q
    have h0 := h.low i (by omega)
    unfold limbN at h0
    rw [h0, Nat.mul_zero, Nat.add_zero, h.val, hq, Int.toNat_natCast] at hs
    rw [hq, hs, valB_drop hi, h1, Nat.pow_succ, Nat.mul_add, Nat.mul_assoc]
theorem Quot.done {V : Nat} {l out : List Int} (h : Quot 10000 V l out 0) : valB 10000 out = valB 10000 l / V := by
  have := h.val
  rwa [Nat.pow_zero, Nat.one_mul, List.drop_zero] at this
theorem Quot.rest {B V : Nat} {l : List Int} {i : Nat} (hB : 0 < B) (hV : 0 < V) (hl : DigB B l) (hi : i < l.length) : valB B (l.drop i) % V = (valB B (l.drop (i + 1)) % V * B + limbN l i) % V := by
  rw [valB_drop hi]; exact (quot_step hV (limbN_lt hB hl i)).2.1
def nb (x : Nat) : Nat := if x = 0 then 0 else x.log2 + 1
def bA (l : List UInt8) : ByteArray := ⟨l.toArray⟩
theorem piece (d : Nat) (h : d < 10) : (⟨#[48, 49, 50, 51, 52, 53, 54, 55, 56, 57]⟩ : ByteArray).extract d (d + 1) = bA [UInt8.ofNat (48 + d)] := by
  rcases (by omega : d = 0 ∨ d = 1 ∨ d = 2 ∨ d = 3 ∨ d = 4 ∨ d = 5 ∨ d = 6 ∨ d = 7 ∨ d = 8 ∨ d = 9) with rfl | rfl | rfl | rfl | rfl | rfl | rfl | rfl | rfl | rfl <;> rfl
theorem bt_lst (s : ByteArray) (i : Nat) (h : i < s.data.toList.length) : bt s (i : Int) = ((s.data.toList[i].toNat : Nat) : Int) := by
  rw [← bt_at s i (by simpa using h)]; rfl
theorem bt_bA (L : List UInt8) (i : Nat) (h : i < L.length) : bt (bA L) (i : Int) = ((L[i].toNat : Nat) : Int) := by
  have := bt_lst (bA L) i (by simpa [bA] using h)
  simpa [bA] using this
theorem bA_size (l : List UInt8) : (bA l).size = l.length := rfl
theorem bA_append (a b : List UInt8) : bA a ++ bA b = bA (a ++ b) := by
  refine Go.WideShapes.bytes_inj ?_
  rw [ByteArray.data_append, Array.toList_append]; simp [bA]
theorem four_f {d : Nat} (h : d < 10000) : fluxionref04_four.f (d : Int) = some (bA (padD 4 d)) := by
  have e1 : wrap64 (Int.tdiv (d : Int) 1000) = ((d / 1000 : Nat) : Int) := by rw [show (1000 : Int) = ((1000 : Nat) : Int) from rfl, tdiv_nat, w64n (by omega)]
  have e2 : Int.tmod (wrap64 (Int.tdiv (d : Int) 100)) 10 = ((d / 100 % 10 : Nat) : Int) := by rw [show (100 : Int) = ((100 : Nat) : Int) from rfl, tdiv_nat, w64n (by omega)]; rfl
  have e3 : Int.tmod (wrap64 (Int.tdiv (d : Int) 10)) 10 = ((d / 10 % 10 : Nat) : Int) := by rw [show (10 : Int) = ((10 : Nat) : Int) from rfl, tdiv_nat, w64n (by omega)]; rfl
  have e4 : Int.tmod (d : Int) 10 = ((d % 10 : Nat) : Int) := rfl
  unfold fluxionref04_four.f
  rw [e1, e2, e3, e4]
  have a0 : d / 1000 < 10 := by omega
  have a1 : d / 100 % 10 < 10 := by omega
  have a2 : d / 10 % 10 < 10 := by omega
  have a3 : d % 10 < 10 := by omega
  have ep : padD 4 d = [UInt8.ofNat (48 + d / 1000), UInt8.ofNat (48 + d / 100 % 10), UInt8.ofNat (48 + d / 10 % 10), UInt8.ofNat (48 + d % 10)] := by
    simp only [padD, List.nil_append, List.cons_append]
    rw [show d / 10 / 10 / 10 % 10 = d / 1000 by omega, show d / 10 / 10 % 10 = d / 100 % 10 by omega]
  rw [ep]
  generalize d / 1000 = n0 at a0 ⊢
  generalize d / 100 % 10 = n1 at a1 ⊢
  generalize d / 10 % 10 = n2 at a2 ⊢
  generalize d % 10 = n3 at a3 ⊢
  have q : ∀ n : Nat, n < 10 → wrap64 ((n : Int) + 1) = ((n + 1 : Nat) : Int) := fun n hn => by rw [w64 (by omega) (by omega)]; rfl
  simp only [q _ a0, q _ a1, q _ a2, q _ a3, Int.toNat_natCast, piece _ a0, piece _ a1, piece _ a2, piece _ a3, bA_append, bA_size, List.cons_append, List.nil_append, List.length_cons, List.length_nil]
  repeat rw [if_pos (by omega)]
theorem padD_join : ∀ (m k q r : Nat), r < 10 ^ m → padD (k + m) (q * 10 ^ m + r) = padD k q ++ padD m r
  | 0, k, q, r, h => by
    obtain rfl : r = 0 := by simpa using h
    simp [padD]
  | m + 1, k, q, r, h => by
    have hp : 10 ^ (m + 1) = 10 ^ m * 10 := Nat.pow_succ 10 m
    have h1 : r / 10 < 10 ^ m := Nat.div_lt_of_lt_mul (by rw [hp, Nat.mul_comm] at h; exact h)
    have ih := padD_join m k q (r / 10) h1
    have e : q * 10 ^ (m + 1) + r = 10 * (q * 10 ^ m + r / 10) + r % 10 := by
      rw [hp, ← Nat.mul_assoc]; omega
    show padD (k + m) ((q * 10 ^ (m + 1) + r) / 10) ++ [UInt8.ofNat (48 + (q * 10 ^ (m + 1) + r) % 10)] = padD k q ++ (padD m (r / 10) ++ [UInt8.ofNat (48 + r % 10)])
    rw [e, show (10 * (q * 10 ^ m + r / 10) + r % 10) / 10 = q * 10 ^ m + r / 10 by omega, show (10 * (q * 10 ^ m + r / 10) + r % 10) % 10 = r % 10 by omega, ih, List.append_assoc]
theorem nat_strip : ∀ (n : Nat) (pre s : List UInt8) (c : UInt8), pre.length = n → (∀ x ∈ pre, x = 48) → c ≠ 48 → ∀ i : Nat, i ≤ n → pre.length + s.length ≤ 9000000 →
    Ev (fun k => r4N.l1 k (bA (pre ++ c :: s)) (i : Int)) (bA (c :: s)) := by
  intro n pre s c hn hp hc
  have hsz : (bA (pre ++ c :: s)).size = n + 1 + s.length := by rw [bA_size, List.length_append, List.length_cons, hn]; omega
  have main : ∀ m i : Nat, i + m = n → pre.length + s.length ≤ 9000000 → Ev (fun k => r4N.l1 k (bA (pre ++ c :: s)) (i : Int)) (bA (c :: s)) := by
    intro m
    induction m with
    | zero =>
      intro i hi hb
      have hbt : bt (bA (pre ++ c :: s)) (i : Int) ≠ 48 := by
        rw [bt_bA _ _ (by simp; omega), List.getElem_append_right (by omega)]
        intro e
        apply hc
        have e2 : (c :: s)[i - pre.length]'(by simp; omega) = c := by simp [show i - pre.length = 0 by omega]
        rw [e2] at e
        exact UInt8.toNat_inj.1 (by have h48 : (48 : UInt8).toNat = 48 := rfl; omega)
      refine Ev.step (f := fun _ => some (bA (c :: s))) (fun k => ?_) (Ev.now _)
      simp only [r4N.l1]
      rw [if_pos (by omega), if_pos (by rw [hsz]; omega), if_neg hbt, if_pos (by rw [hsz]; omega)]
      congr 1
      refine Go.WideShapes.bytes_inj ?_
      rw [extract_list, Int.toNat_natCast, show i = pre.length by omega]
      show ((pre ++ c :: s).drop pre.length).take _ = c :: s
      rw [List.drop_left, List.take_of_length_le]
      rw [hsz, List.length_cons]; omega
    | succ m ih =>
      intro i hi hb
      have hbt : bt (bA (pre ++ c :: s)) (i : Int) = 48 := by
        rw [bt_bA _ _ (by simp; omega), List.getElem_append_left (by omega), hp _ (List.getElem_mem _)]; rfl
      refine Ev.step (fun k => ?_) (ih (i + 1) (by omega) hb)
      simp only [r4N.l1]
      rw [if_pos (by omega), if_pos (by rw [hsz]; omega), if_pos hbt, w64 (by omega) (by omega)]
      rfl
  intro i hi hb
  exact main (n - i) i (by omega) hb
theorem nat_loop {l : List Int} (hl : DigB 10000 l) (h9 : l.length ≤ 1000000) {R : ByteArray} (hR : Ev (fun k => r4N.l1 k (bA (padD (4 * l.length) (valB 10000 l))) 0) R) : ∀ i : Nat, i ≤ l.length →
    Ev (fun k => r4N.l0 k l (bA (padD (4 * (l.length - i)) (valB 10000 (l.drop i)))) ((i : Int) - 1)) R
  | 0, _ => by
    refine Ev.step (fun k => ?_) hR
    simp only [r4N.l0]; rw [if_neg (by omega), List.drop_zero]; rfl
  | j + 1, hj => by
    have ih := nat_loop hl h9 hR j (by omega)
    have hlim := limb_lt hl j
    have e : padD (4 * (l.length - j)) (valB 10000 (l.drop j)) = padD (4 * (l.length - (j + 1))) (valB 10000 (l.drop (j + 1))) ++ padD 4 (limbN l j) := by
      rw [valB_drop (B := 10000) (show j < l.length by omega), ← padD_join 4 _ _ _ hlim, show 4 * (l.length - (j + 1)) + 4 = 4 * (l.length - j) by omega, show (10 : Nat) ^ 4 = 10000 from rfl]
      congr 1; omega
    rw [e, ← bA_append] at ih
    refine Ev.step (fun k => ?_) ih
    simp only [r4N.l0]
    rw [show ((j + 1 : Nat) : Int) - 1 = (j : Int) by omega, if_pos (by omega), if_pos (by omega), if_pos (by omega), rd_limb hl, four_f hlim, Option.bind_some, if_pos (by rw [bA_size, bA_size, padD_length, padD_length]; omega), w64 (by omega) (by omega)]
theorem nat_ev {x : Nat} (h9 : (digB 10000 x).length ≤ 1000000) : Ev (fun k => r4N.f k (digB 10000 x)) (decB x) := by
  by_cases h0 : x = 0
  · subst h0
    refine Ev.congr (f := fun _ => some (decB 0)) (fun k => ?_) (Ev.now _)
    unfold r4N.f
    rw [digB_zero _ (by decide), if_pos (by simp)]
    unfold decB; rw [dec_small (by decide)]; rfl
  · have hne : 0 < (digB 10000 x).length := Nat.pos_of_ne_zero (fun e => h0 ((digB_nil x).1 (List.eq_nil_of_length_eq_zero e)))
    have hlt := valB_lt 10000 _ (T_good x).dig
    rw [T_val] at hlt
    obtain ⟨m, hm⟩ : ∃ m, 4 * (digB 10000 x).length = m + 1 := ⟨4 * (digB 10000 x).length - 1, by omega⟩
    have hlt2 : x < 10 ^ (m + 1) := by
      rw [← hm, Nat.pow_mul]; exact hlt
    obtain ⟨p1, p2⟩ := padD_dec m x hlt2
    have hh := (dec_num_all x).2.2 (by omega)
    have hs : Ev (fun k => r4N.l1 k (bA (padD (4 * (digB 10000 x).length) (valB 10000 (digB 10000 x)))) 0) (decB x) := by
      rw [T_val, hm, p2]
      unfold decB
      cases hd : Lib.decDigits x with
      | nil => exact absurd hd (dec_ne x)
      | cons c s =>
        rw [hd] at hh p1
        exact nat_strip _ _ s c rfl (fun y hy => List.eq_of_mem_replicate hy) (by simpa using hh) 0 (by omega) (by simp at p1 ⊢; omega)
    have h := nat_loop (T_good x).dig h9 hs (digB 10000 x).length (by omega)
    rw [List.drop_length, Nat.sub_self] at h
    refine Ev.congr (fun k => ?_) h
    unfold r4N.f
    rw [if_neg (by omega), w64 (by omega) (by omega)]; rfl
end Go.Proofs.YthppjdmkinbccaaGreatDoor.Ref

namespace Go.Proofs.YthppjdmkinbccaaGreatDoor.Ref
open Go.RowKit Go.Proofs.YthppjdmkinbccaaGreatDoorW.PrintWords Go.Proofs.YthppjdmkinbccaaGreatDoorW.PrintLast Go.Proofs.YthppjdmkinbccaaGreatDoor.Print Go.Proofs.YthppjdmkinbccaaGreatDoor.Base
set_option linter.unusedVariables false
set_option linter.unusedSimpArgs false
theorem valB_snoc (B : Nat) (l : List Int) (d : Int) : valB B (l ++ [d]) = valB B l + B ^ l.length * d.toNat := by
  rw [valB_append, valB_cons, valB_nil, Nat.mul_zero, Nat.add_zero]
theorem sub_loop {a b : List Int} (da : DigB 10000 a) (db : DigB 10000 b) (hl : b.length ≤ a.length) (h9 : a.length ≤ 1000000) (hle : valB 10000 b ≤ valB 10000 a) : ∀ (m i : Nat) (acc : List Int) (less : Nat), i + m = a.length → acc.length = i → DigB 10000 acc → less ≤ 1 →
    valB 10000 acc + sumB 10000 (limbN b) i = sumB 10000 (limbN a) i + 10000 ^ i * less →
    Ev (fun k => r1Sub.l0 k a b acc (less : Int) (i : Int)) (digB 10000 (valB 10000 a - valB 10000 b), true) := by
  intro m
  induction m with
  | zero =>
    intro i acc less hi hac dac hless inv
    rw [sumB_limb b i (by omega), sumB_limb a i (by omega)] at inv
    have hlt := valB_lt 10000 acc dac
    rw [hac] at hlt
    have h0 : less = 0 := by
      rcases Nat.eq_zero_or_pos less with h | h
      · exact h
      · exfalso
        have : less = 1 := by omega
        rw [this, Nat.mul_one] at inv
        omega
    rw [h0, Nat.mul_zero, Nat.add_zero] at inv
    have ht := trim_ev dac (by omega)
    rw [show valB 10000 acc = valB 10000 a - valB 10000 b by omega] at ht
    refine Ev.step (fun k => ?_) (Ev.bind (f := fun _ t => some (t, true)) ht (Ev.now _))
    simp only [r1Sub.l0]
    rw [if_neg (by omega)]
  | succ m ih =>
    intro i acc less hi hac dac hless inv
    have h1 := limb_lt da i
    have h2 := limb_lt db i
    have e1 : wrap64 (wrap64 (((limbN a i : Nat) : Int) - ((limbN b i : Nat) : Int)) - (less : Int)) = ((limbN a i : Nat) : Int) - ((limbN b i : Nat) : Int) - (less : Int) := by
      rw [w64 (x := ((limbN a i : Nat) : Int) - ((limbN b i : Nat) : Int)) (by omega) (by omega), w64 (by omega) (by omega)]
    have eb : sumB 10000 (limbN b) (i + 1) = sumB 10000 (limbN b) i + 10000 ^ i * limbN b i := rfl
    have ea : sumB 10000 (limbN a) (i + 1) = sumB 10000 (limbN a) i + 10000 ^ i * limbN a i := rfl
    have step : ∀ (d l2 : Nat), d < 10000 → l2 ≤ 1 → d + limbN b i + less = limbN a i + 10000 * l2 → Ev (fun k => r1Sub.l0 k a b (acc ++ [(d : Int)]) (l2 : Int) ((i + 1 : Nat) : Int)) (digB 10000 (valB 10000 a - valB 10000 b), true) := by
      intro d l2 hd hl2 he
      refine ih (i + 1) _ l2 (by omega) (by simp [hac]) (dac.append (DigB.cons (by omega) (by omega) (DigB.nil _))) hl2 ?_
      rw [valB_snoc, hac, Int.toNat_natCast, eb, ea, Nat.pow_succ, Nat.mul_assoc]
      have h3 := congrArg (10000 ^ i * ·) he
      simp only [Nat.mul_add] at h3
      omega
    by_cases c : limbN a i < limbN b i + less
    · have hs := step (limbN a i + 10000 - limbN b i - less) 1 (by omega) (by omega) (by omega)
      refine Ev.step (fun k => ?_) hs
      simp only [r1Sub.l0]
      rw [if_pos (by omega), if_pos (by omega), digit_f db, Option.bind_some, rd_limb da, e1, if_pos (by omega), if_pos (by omega), w64 (by omega) (by omega), w64 (by omega) (by omega),
        show ((limbN a i : Nat) : Int) - ((limbN b i : Nat) : Int) - (less : Int) + 10000 = ((limbN a i + 10000 - limbN b i - less : Nat) : Int) by omega]
      rfl
    · have hs := step (limbN a i - limbN b i - less) 0 (by omega) (by omega) (by omega)
      refine Ev.step (fun k => ?_) hs
      simp only [r1Sub.l0]
      rw [if_pos (by omega), if_pos (by omega), digit_f db, Option.bind_some, rd_limb da, e1, if_neg (by omega), if_pos (by omega), w64 (by omega) (by omega),
        show ((limbN a i : Nat) : Int) - ((limbN b i : Nat) : Int) - (less : Int) = ((limbN a i - limbN b i - less : Nat) : Int) by omega]
      rfl
theorem sub_ev {x y : Nat} (hx : (digB 10000 x).length ≤ 1000000) (h : y ≤ x) : Ev (fun k => r1Sub.f k (digB 10000 x) (digB 10000 y)) (digB 10000 (x - y), true) := by
  have hs := sub_loop (T_good x).dig (T_good y).dig (T_len_le h) hx (by rw [T_val, T_val]; exact h) (digB 10000 x).length 0 [] 0 (by omega) rfl (DigB.nil _) (by omega) rfl
  rw [T_val, T_val] at hs
  refine Ev.congr (fun k => rfl) (Ev.bind (f := fun k t => if t < 0 then some (([] : List Int), false) else r1Sub.l0 k (digB 10000 x) (digB 10000 y) [] 0 0) (cmp_ev x y (by omega)) ?_)
  refine Ev.congr (fun k => ?_) hs
  rw [if_neg (by unfold cmpN; rw [if_neg (by omega)]; split <;> omega)]; rfl
theorem digit2_loop {r y : Nat} (hy : (digB 10000 y).length ≤ 900000) : ∀ (m low high : Nat), high - low ≤ m → low < high → high ≤ 10000 → low * y ≤ r → r < high * y → Ev (fun k => r2d.l0 k (digB 10000 r) (digB 10000 y) (low : Int) (high : Int)) ((r / y : Nat) : Int) := by
  intro m
  induction m with
  | zero => intro low high h1 h2; omega
  | succ m ih =>
    intro low high h1 h2 h3 h4 h5
    by_cases c : high - low ≤ 1
    · have e : high = low + 1 := by omega
      subst e
      have hy0 : 0 < y := Nat.pos_of_ne_zero (fun h => by rw [h, Nat.mul_zero] at h5; omega)
      have hq : r / y = low := by
        rw [Nat.div_eq_iff hy0]
        rw [Nat.add_mul, Nat.one_mul] at h5
        omega
      rw [hq]
      refine Ev.step (f := fun _ => some ((low : Nat) : Int)) (fun k => ?_) (Ev.now _)
      simp only [r2d.l0]
      rw [w64 (by omega) (by omega), if_neg (by omega)]
    · have ht := times_ev (x := y) (d := (low + high) / 2) (by omega) (by omega)
      have hyb := valB_lt 10000 _ (T_good y).dig
      rw [T_val] at hyb
      have hl : (digB 10000 (y * ((low + high) / 2))).length ≤ (digB 10000 y).length + 1 := by
        refine digB_len (by decide) ?_
        rw [Nat.pow_succ]
        exact Nat.lt_of_lt_of_le (Nat.mul_lt_mul_of_pos_right hyb (by omega)) (Nat.mul_le_mul_left _ (by omega))
      have hc := cmp_ev (y * ((low + high) / 2)) r (by omega)
      have e1 : wrap64 (Int.tdiv (wrap64 ((low : Int) + (high : Int))) 2) = (((low + high) / 2 : Nat) : Int) := by
        rw [← Int.natCast_add, w64n (by omega), show (2 : Int) = ((2 : Nat) : Int) from rfl, tdiv_nat, w64n (by omega)]
      have fin : Ev (fun k => if cmpN (y * ((low + high) / 2)) r ≤ 0 then r2d.l0 k (digB 10000 r) (digB 10000 y) (((low + high) / 2 : Nat) : Int) (high : Int) else r2d.l0 k (digB 10000 r) (digB 10000 y) (low : Int) (((low + high) / 2 : Nat) : Int)) ((r / y : Nat) : Int) := by
        by_cases g : y * ((low + high) / 2) ≤ r
        · refine Ev.congr (fun k => ?_) (ih ((low + high) / 2) high (by omega) (by omega) h3 (by rw [Nat.mul_comm]; exact g) h5)
          rw [if_pos (by unfold cmpN; split; · omega
                         · rw [if_neg (by omega)]; omega)]
        · refine Ev.congr (fun k => ?_) (ih low ((low + high) / 2) (by omega) (by omega) (by omega) h4 (by rw [Nat.mul_comm]; omega))
          rw [if_neg (by unfold cmpN; rw [if_neg (by omega), if_pos (by omega)]; omega)]
      refine Ev.step (fun k => ?_) (Ev.bind (f := fun k t => (r1Cmp.f k t (digB 10000 r)).bind fun u => if u ≤ 0 then r2d.l0 k (digB 10000 r) (digB 10000 y) (((low + high) / 2 : Nat) : Int) (high : Int) else r2d.l0 k (digB 10000 r) (digB 10000 y) (low : Int) (((low + high) / 2 : Nat) : Int)) ht (Ev.bind (f := fun k u => if u ≤ 0 then r2d.l0 k (digB 10000 r) (digB 10000 y) (((low + high) / 2 : Nat) : Int) (high : Int) else r2d.l0 k (digB 10000 r) (digB 10000 y) (low : Int) (((low + high) / 2 : Nat) : Int)) hc fin))
      simp only [r2d.l0]
      rw [w64 (by omega) (by omega), if_pos (by omega), e1]
theorem digit2_ev {r y : Nat} (hy : (digB 10000 y).length ≤ 900000) (h : r < 10000 * y) : Ev (fun k => r2d.f k (digB 10000 r) (digB 10000 y)) ((r / y : Nat) : Int) :=
  digit2_loop hy 10000 0 10000 (by omega) (by omega) (by omega) (by omega) h
theorem trim2_loop (l : List Int) (hl : l.length ≤ 4611686018427387904) : ∀ i : Nat, i ≤ l.length → Ev (fun k => r2t.l0 k l (i : Int)) (trimL (l.take i))
  | 0, _ => by
    refine Ev.step (f := fun _ => some []) (fun k => ?_) (Ev.now _)
    simp only [r2t.l0]
    rw [if_neg (by omega), if_pos (by omega), if_pos (by omega)]; rfl
  | i + 1, hi => by
    have hw : wrap64 (((i + 1 : Nat) : Int) - 1) = (i : Int) := by rw [w64 (by omega) (by omega)]; omega
    rw [take_snoc (by omega)]
    by_cases h0 : rd l (i : Int) = 0
    · rw [h0, trimL_snoc_zero]
      refine Ev.step (fun k => ?_) (trim2_loop l hl i (by omega))
      simp only [r2t.l0]
      rw [hw, if_pos (by omega), if_pos (by omega), if_pos (by omega), if_pos h0]
    · rw [trimL_snoc _ _ h0]
      refine Ev.step (f := fun _ => some (l.take (i + 1))) (fun k => ?_) (by rw [take_snoc (by omega)]; exact Ev.now _)
      simp only [r2t.l0]
      rw [hw, if_pos (by omega), if_pos (by omega), if_pos (by omega), if_neg h0, if_pos (by omega), if_pos (by omega)]; rfl
theorem trim2_ev {l : List Int} (hd : DigB 10000 l) (hl : l.length ≤ 4611686018427387904) : Ev (fun k => r2t.f k l) (digB 10000 (valB 10000 l)) := by
  have h := trim2_loop l hl l.length (by omega)
  rw [List.take_length, trimL_eq (by decide) hd] at h
  exact h
theorem div_loop {x : List Int} (dx : DigB 10000 x) (h9 : x.length ≤ 800000) {y : Nat} (hy : (digB 10000 y).length ≤ 800000) (y0 : 0 < y) : ∀ (i : Nat) (out : List Int), i ≤ x.length → Quot 10000 y x out i →
    Ev (fun k => r2DM.l0 k x (digB 10000 y) out (digB 10000 (valB 10000 (x.drop i) % y)) ((i : Int) - 1)) (digB 10000 (valB 10000 x / y), digB 10000 (valB 10000 x % y))
  | 0, out, _, hq => by
    have ht := trim2_ev hq.dig (by rw [hq.len]; omega)
    rw [hq.done] at ht
    refine Ev.step (fun k => ?_) (Ev.bind (f := fun _ t => some (t, digB 10000 (valB 10000 x % y))) ht (Ev.now _))
    simp only [r2DM.l0]
    rw [if_neg (by omega), List.drop_zero]
  | j + 1, out, hj, hq => by
    have hlim := limb_lt dx j
    have hr := Nat.mod_lt (valB 10000 (x.drop (j + 1))) y0
    obtain ⟨q1, q2, q3⟩ := quot_step (B := 10000) (X := valB 10000 (x.drop (j + 1))) y0 hlim
    have hnext := hq.next (by decide) y0 dx (show j < x.length by omega) rfl
    have ih := div_loop dx h9 hy y0 j _ (by omega) hnext
    rw [Quot.rest (by decide) y0 dx (show j < x.length by omega)] at ih
    generalize valB 10000 (x.drop (j + 1)) % y = r at hr q1 q2 q3 ih ⊢
    have hyb := valB_lt 10000 _ (T_good y).dig
    rw [T_val] at hyb
    have hR : r * 10000 + limbN x j < 10000 * y := by omega
    have hRl : (digB 10000 (r * 10000 + limbN x j)).length ≤ (digB 10000 y).length + 1 := by
      refine digB_len (by decide) ?_
      rw [Nat.pow_succ]
      exact Nat.lt_of_lt_of_le hR (by rw [Nat.mul_comm]; exact Nat.mul_le_mul_right _ (by omega))
    have hrl := T_len_le (Nat.le_of_lt hr)
    have dcat : DigB 10000 ([((limbN x j : Nat) : Int)] ++ digB 10000 r) := DigB.cons (by omega) (by omega) (T_good r).dig
    have ecat : valB 10000 ([((limbN x j : Nat) : Int)] ++ digB 10000 r) = r * 10000 + limbN x j := by
      rw [List.singleton_append, valB_cons, T_val, Int.toNat_natCast]; omega
    have t1 := trim2_ev dcat (by simp; omega)
    rw [ecat] at t1
    have t2 := digit2_ev (by omega) hR
    generalize hRr : r * 10000 + limbN x j = R at t1 t2 ih hR hRl q1 q2 q3
    have hRy : R / y < 10000 := q3
    have t3 := times_ev (x := y) (d := R / y) (by omega) (by omega)
    have hmul : y * (R / y) ≤ R := Nat.mul_div_le R y
    have t4 := sub_ev (x := R) (y := y * (R / y)) (by omega) hmul
    rw [show R - y * (R / y) = R % y by have := Nat.mod_add_div R y; omega] at t4
    have p1 : ∀ k, r2DM.l0 (k + 1) x (digB 10000 y) out (digB 10000 r) (((j + 1 : Nat) : Int) - 1) = (r2t.f k ([((limbN x j : Nat) : Int)] ++ digB 10000 r)).bind fun t199 => (r2d.f k t199 (digB 10000 y)).bind fun t202 => (r1Times.f k (digB 10000 y) t202).bind fun t204 => (r1Sub.f k t199 t204).bind fun bt207 => r2DM.l0 k x (digB 10000 y) (out.set j t202) bt207.1 ((j : Int) - 1) := by
      intro k
      have c0 : (0 : Int) ≤ (j : Int) := by omega
      have c1 : (j : Int) < (x.length : Int) := by omega
      have c2 : (j : Int) < (out.length : Int) := by rw [hq.len]; omega
      have c3 : wrap64 ((j : Int) - 1) = (j : Int) - 1 := w64 (by omega) (by omega)
      have c4 : ((j + 1 : Nat) : Int) - 1 = (j : Int) := by omega
      have c5 : ([((limbN x j : Nat) : Int)] : List Int).length + (digB 10000 r).length < 17592186044416 := by simp; omega
      simp only [r2DM.l0, c4, ge_iff_le, if_pos c0, if_pos c1, rd_limb dx, Option.bind_some, if_pos c5, if_pos c2, c3, Int.toNat_natCast]
    refine Ev.step p1 (Ev.bind t1 (Ev.bind t2 (Ev.bind t3 (Ev.bind t4 ?_))))
    exact ih
theorem divmod_ev {x y : Nat} (hx : (digB 10000 x).length ≤ 800000) (hy : (digB 10000 y).length ≤ 800000) (y0 : 0 < y) : Ev (fun k => r2DM.f k (digB 10000 x) (digB 10000 y)) (digB 10000 (x / y), digB 10000 (x % y)) := by
  have h := div_loop (T_good x).dig hx hy y0 (digB 10000 x).length _ (by omega) (Quot.start (by decide) _)
  rw [T_val, List.drop_length, show valB 10000 [] % y = 0 by rw [valB_nil]; exact Nat.zero_mod y, digB_zero _ (by decide)] at h
  refine Ev.congr (fun k => ?_) h
  unfold r2DM.f
  rw [if_pos (by omega), if_pos (by omega), Int.toNat_natCast, w64 (by omega) (by omega)]
theorem gcd_loop : ∀ (m x y : Nat), y < m → (digB 10000 x).length ≤ 800000 → (digB 10000 y).length ≤ 800000 → Ev (fun k => fluxionref02_Gcd.l0 k (digB 10000 x) (digB 10000 y)) (digB 10000 (Nat.gcd x y)) := by
  intro m
  induction m with
  | zero => intro x y h; omega
  | succ m ih =>
    intro x y h hx hy
    by_cases h0 : y = 0
    · subst h0
      rw [digB_zero _ (by decide), Nat.gcd_zero_right]
      refine Ev.step (f := fun _ => some (digB 10000 x)) (fun k => ?_) (Ev.now _)
      simp only [fluxionref02_Gcd.l0]; rw [if_neg (by simp)]
    · have hlt := Nat.mod_lt x (show 0 < y by omega)
      have hne : 0 < (digB 10000 y).length := Nat.pos_of_ne_zero (fun e => h0 ((digB_nil y).1 (List.eq_nil_of_length_eq_zero e)))
      have hi := ih y (x % y) (by omega) hy (Nat.le_trans (T_len_le (Nat.le_of_lt hlt)) hy)
      rw [← gcd_rests x y (by omega)] at hi
      refine Ev.step (fun k => ?_) (Ev.bind (f := fun k bt => fluxionref02_Gcd.l0 k (digB 10000 y) bt.2) (divmod_ev hx hy (by omega)) hi)
      simp only [fluxionref02_Gcd.l0]; rw [if_pos (by omega)]
theorem gcd_ev {x y : Nat} (hx : (digB 10000 x).length ≤ 800000) (hy : (digB 10000 y).length ≤ 800000) : Ev (fun k => fluxionref02_Gcd.f k (digB 10000 x) (digB 10000 y)) (digB 10000 (Nat.gcd x y)) :=
  gcd_loop (y + 1) x y (by omega) hx hy
def ratN (n : Bool) (x y : Nat) : Bool × Nat × Nat := if x = 0 ∨ y = 0 then (false, 0, 1) else (n, x / Nat.gcd x y, y / Nat.gcd x y)
def ratL (B : Nat) (r : Bool × Nat × Nat) : Bool × List Int × List Int := (r.1, digB B r.2.1, digB B r.2.2)
theorem make_ev {n : Bool} {x y : Nat} (hx : (digB 10000 x).length ≤ 800000) (hy : (digB 10000 y).length ≤ 800000) : Ev (fun k => r3M.f k n (digB 10000 x) (digB 10000 y)) (ratL 10000 (ratN n x y)) := by
  have zero : x = 0 ∨ y = 0 → Ev (fun k => r3M.j0 k n (digB 10000 x) (digB 10000 y) true) (ratL 10000 (ratN n x y)) := by
    intro h
    refine Ev.step (f := fun _ => some (false, ([] : List Int), ([1] : List Int))) (fun k => ?_) ?_
    · simp only [r3M.j0]; rfl
    · unfold ratN ratL
      rw [if_pos h]
      show Ev _ (false, digB 10000 0, digB 10000 1)
      rw [digB_zero _ (by decide), digB_small (by decide) (by decide) (by decide)]; exact Ev.now _
  have len0 : ∀ v : Nat, ((digB 10000 v).length : Int) = 0 ↔ v = 0 := fun v => by
    rw [← digB_nil v]
    constructor
    · intro h; exact List.eq_nil_of_length_eq_zero (by omega)
    · intro h; rw [h]; rfl
  by_cases hx0 : x = 0
  · refine Ev.congr (fun k => ?_) (zero (Or.inl hx0))
    unfold r3M.f; rw [if_pos ((len0 x).2 hx0)]
  · by_cases hy0 : y = 0
    · refine Ev.congr (fun k => ?_) (zero (Or.inr hy0))
      unfold r3M.f; rw [if_neg (fun h => hx0 ((len0 x).1 h)), show (((digB 10000 y).length : Int) == 0) = true from beq_iff_eq.2 ((len0 y).2 hy0)]
    · have hg : 0 < Nat.gcd x y := Nat.gcd_pos_of_pos_left _ (by omega)
      have hgl : (digB 10000 (Nat.gcd x y)).length ≤ 800000 := Nat.le_trans (T_len_le (Nat.gcd_le_left _ (by omega))) hx
      have e : ratN n x y = (n, x / Nat.gcd x y, y / Nat.gcd x y) := by unfold ratN; rw [if_neg (by omega)]
      rw [e]
      have d1 := divmod_ev hx hgl hg
      have d2 := divmod_ev hy hgl hg
      refine Ev.congr (f := fun k => r3M.j0 k n (digB 10000 x) (digB 10000 y) false) (fun k => ?_) (Ev.step (f := fun k => (fluxionref02_Gcd.f k (digB 10000 x) (digB 10000 y)).bind fun t221 => (r2DM.f k (digB 10000 x) t221).bind fun bt224 => (r2DM.f k (digB 10000 y) t221).bind fun bt230 => some (n, bt224.1, bt230.1)) (fun k => ?_) (Ev.bind (gcd_ev hx hy) (Ev.bind d1 (Ev.bind d2 (Ev.now _)))))
      · unfold r3M.f; rw [if_neg (fun h => hx0 ((len0 x).1 h)), show (((digB 10000 y).length : Int) == 0) = false by rw [beq_eq_false_iff_ne]; exact fun h => hy0 ((len0 y).1 h)]
      · simp only [r3M.j0]; rw [if_neg (by decide)]
theorem ofR_ev {n : Bool} {a b : List Int} (da : DigB 4294967296 a) (db : DigB 4294967296 b) (la : a.length ≤ 100000) (lb : b.length ≤ 100000) : Ev (fun k => r3Of.f k n a b) (ratL 10000 (ratN n (valB 4294967296 a) (valB 4294967296 b))) := by
  have l1 := T_len (valB_lt 4294967296 a da)
  have l2 := T_len (valB_lt 4294967296 b db)
  have h := Ev.bind (of_ev da la) (f := fun k t238 => (r1Of.f k b).bind fun t241 => (r3M.f k n t238 t241).bind fun bt244 => some (bt244.1, bt244.2.1, bt244.2.2)) (Ev.bind (of_ev db lb) (Ev.bind (make_ev (n := n) (by omega) (by omega)) (Ev.now _)))
  exact h
end Go.Proofs.YthppjdmkinbccaaGreatDoor.Ref

namespace Go.Proofs.YthppjdmkinbccaaGreatDoor.Base
open Go.RowKit Go.Proofs.YthppjdmkinbccaaGreatDoorW.PrintWords Go.Proofs.YthppjdmkinbccaaGreatDoorW.PrintLast Go.Proofs.YthppjdmkinbccaaGreatDoor.Print
set_option linter.unusedVariables false
set_option linter.unusedSimpArgs false
set_option maxRecDepth 100000 in
theorem known_ev : kn9.f 3 = some true := by decide +kernel
theorem known_evK : ∀ k, 3 ≤ k → kn9.f k = some true := by
  intro k hk
  induction k with
  | zero => omega
  | succ n ih =>
    rcases Nat.lt_or_ge n 3 with h | h
    · obtain rfl : n = 2 := by omega
      exact known_ev
    · exact kn9.mono n true (ih h)
end Go.Proofs.YthppjdmkinbccaaGreatDoor.Base

namespace Go.Proofs.YthppjdmkinbccaaGreatDoor.Ref
open Go.RowKit Go.Proofs.YthppjdmkinbccaaGreatDoorW.PrintWords Go.Proofs.YthppjdmkinbccaaGreatDoorW.PrintLast Go.Proofs.YthppjdmkinbccaaGreatDoor.Print Go.Proofs.YthppjdmkinbccaaGreatDoor.Base
set_option linter.unusedVariables false
set_option linter.unusedSimpArgs false
theorem known_Ev : Ev (fun k => kn9.f k) true := ⟨3, known_evK⟩
theorem wf_ok {l : List Int} (hl : l.length ≤ 1048576) (h : ∀ x ∈ l, (Lit.int .u32 x).wf = true) : okN l = true :=
  okN_iff.2 ⟨hl, fun d hd => by
    have := h d hd
    simp [Lit.wf, IntKind.min, IntKind.max, IntKind.signed, IntKind.bits] at this
    omega⟩
theorem nat_f {l : List Int} (h : okN l = true) : digits_Nat.f l = some (decB (valB 4294967296 l)) := by unfold digits_Nat.f; rw [if_pos h]
theorem cmp_f {a b : List Int} (h : okN a = true) (k : okN b = true) : nat_Cmp.f a b = some (cmpN (valB 4294967296 a) (valB 4294967296 b)) := by unfold nat_Cmp.f; rw [if_pos ⟨h, k⟩]
theorem decB_list (u : Nat) : (decB u).toList = Lib.decDigits u := by rw [ByteArray.toList_eq]; rfl
theorem bA_dec (v : Nat) : decB v = bA (Lib.decDigits v) := rfl
theorem dec_len {x n : Nat} (h : x < 4294967296 ^ n) : (Lib.decDigits x).length ≤ 10 * n + 1 := by
  refine (padD_dec (10 * n) x (Nat.lt_of_lt_of_le h ?_)).1
  rw [Nat.pow_succ, Nat.pow_mul]
  exact Nat.le_trans (Nat.pow_le_pow_left (by decide) n) (Nat.le_mul_of_pos_right _ (by decide))
theorem okD {v m : Nat} (h : v < 4294967296 ^ m) (hm : m ≤ 1000000) : okN (digB 4294967296 v) = true := okN_digB h (by omega)
theorem valD (v : Nat) : valB 4294967296 (digB 4294967296 v) = v := digB_val _ (by decide) v
end Go.Proofs.YthppjdmkinbccaaGreatDoor.Ref

namespace Go.Proofs.YthppjdmkinbccaaGreatDoor.Print
open Go.RowKit Go.Proofs.YthppjdmkinbccaaGreatDoorW.PrintWords Go.Proofs.YthppjdmkinbccaaGreatDoorW.PrintLast Go.Proofs.YthppjdmkinbccaaGreatDoorW.PrintMore
attribute [local go_sem] max2_int min2_int max_two min_two max_three min_three max_four min_four   -- for this text's walks alone
set_option linter.unusedVariables false
set_option linter.unusedSimpArgs false
def fluxionref04_cut.l0 : Nat → ByteArray → Int → Option (ByteArray × ByteArray × Bool)
 | 0, _, _ => none
 | k + 1, x0, x5 => if x5 < (x0.size : Int) then (if 0 ≤ x5 then (if (bt x0 x5) = 47 then (if x5 ≤ (x0.size : Int) then (if 0 ≤ (wrap64 (x5 + 1)) then (if (wrap64 (x5 + 1)) ≤ (x0.size : Int) then (some (x0.extract 0 (x5 : Int).toNat, x0.extract ((wrap64 (x5 + 1)) : Int).toNat x0.size, true)) else (none)) else (none)) else (none)) else (fluxionref04_cut.l0 k x0 (wrap64 (x5 + 1)))) else (none)) else (some (x0, (⟨#[]⟩ : ByteArray), false))
def fluxionref04_cut.f (k : Nat) (a0 : ByteArray) : Option (ByteArray × ByteArray × Bool) := fluxionref04_cut.l0 k a0 0
end Go.Proofs.YthppjdmkinbccaaGreatDoor.Print

namespace Go.Proofs.YthppjdmkinbccaaGreatDoor.Print
open Go.RowKit Go.Proofs.YthppjdmkinbccaaGreatDoorW.PrintWords Go.Proofs.YthppjdmkinbccaaGreatDoorW.PrintLast Go.Proofs.YthppjdmkinbccaaGreatDoorW.PrintMore
attribute [local go_sem] max2_int min2_int max_two min_two max_three min_three max_four min_four   -- for this text's walks alone
set_option linter.unusedVariables false
set_option linter.unusedSimpArgs false
mutual
def r4PR.j0 : Nat → ByteArray → Bool → Option (Bool × List Int × List Int × Int)
 | 0, _, _ => none
 | k + 1, x0, x4 => if x4 = true then (if 1 ≤ (x0.size : Int) then (r4PR.j1 k x0 x4 (x0.extract 1 x0.size)) else (none)) else (r4PR.j1 k x0 x4 x0)
def r4PR.j1 : Nat → ByteArray → Bool → ByteArray → Option (Bool × List Int × List Int × Int)
 | 0, _, _, _ => none
 | k + 1, x0, x4, x5 => (fluxionref04_cut.f k x5).bind fun bt275 => (if bt275.2.2 = true then (r4PR.j2 k x0 x4 bt275.1 bt275.2.1) else (r4PR.j2 k x0 x4 bt275.1 (⟨#[49]⟩ : ByteArray)))
def r4PR.j2 : Nat → ByteArray → Bool → ByteArray → ByteArray → Option (Bool × List Int × List Int × Int)
 | 0, _, _, _, _ => none
 | k + 1, x0, x4, x6, x7 => (r4nat.f k x6).bind fun t278 => (if t278 = true then ((r4nat.f k x7).bind fun t279 => (r4PR.j3 k x0 x4 x6 x7 (!t279))) else (r4PR.j3 k x0 x4 x6 x7 true))
def r4PR.j3 : Nat → ByteArray → Bool → ByteArray → ByteArray → Bool → Option (Bool × List Int × List Int × Int)
 | 0, _, _, _, _, _ => none
 | k + 1, x0, x4, x6, x7, x41 => if x41 = true then (some (false, ([] : List Int), ([] : List Int), 19)) else ((r4PN.f k x6).bind fun bt280 => ((r4PN.f k x7).bind fun bt284 => (if bt280.2 = 0 then (r4PR.j4 k x0 x4 bt280.1 bt284.1 (bt284.2 != 0)) else (r4PR.j4 k x0 x4 bt280.1 bt284.1 true))))
def r4PR.j4 : Nat → ByteArray → Bool → List Int → List Int → Bool → Option (Bool × List Int × List Int × Int)
 | 0, _, _, _, _, _ => none
 | k + 1, x0, x4, x9, x11, x58 => if x58 = true then (some (false, ([] : List Int), ([] : List Int), 14)) else ((r3M.f k x4 x9 x11).bind fun bt288 => ((r4R.f k bt288.1 bt288.2.1 bt288.2.2).bind fun t296 => (if t296.toList = x0.toList then (some (bt288.1, bt288.2.1, bt288.2.2, 0)) else (some (false, ([] : List Int), ([] : List Int), 6)))))
end
end Go.Proofs.YthppjdmkinbccaaGreatDoor.Print

namespace Go.Proofs.YthppjdmkinbccaaGreatDoor.Ref
open Go.RowKit Go.Proofs.YthppjdmkinbccaaGreatDoorW.PrintWords Go.Proofs.YthppjdmkinbccaaGreatDoorW.PrintLast Go.Proofs.YthppjdmkinbccaaGreatDoor.Print Go.Proofs.YthppjdmkinbccaaGreatDoor.Base
set_option linter.unusedVariables false
set_option linter.unusedSimpArgs false
def sgn (n : Bool) : List UInt8 := if n = true then [45] else []
def tailR (q : Nat) : List UInt8 := if q = 1 then [] else 47 :: Lib.decDigits q
def txt (r : Bool × Nat × Nat) : List UInt8 := sgn r.1 ++ (Lib.decDigits r.2.1 ++ tailR r.2.2)
theorem dec_one (q : Nat) : Lib.decDigits q = [49] ↔ q = 1 :=
  ⟨fun h => dec_inj (h.trans (show [49] = Lib.decDigits 1 by rw [dec_small (by decide)]; rfl)), fun h => by rw [h, dec_small (by decide)]; rfl⟩
theorem ratN_lt {n : Bool} {x y m : Nat} (hx : x < 4294967296 ^ m) (hy : y < 4294967296 ^ m) (hm : 1 ≤ m) : (ratN n x y).2.1 < 4294967296 ^ m ∧ (ratN n x y).2.2 < 4294967296 ^ m := by
  have h1 : (1 : Nat) < 4294967296 ^ m := Nat.lt_of_lt_of_le (show 1 < 4294967296 ^ 1 by decide) (Nat.pow_le_pow_right (by decide) hm)
  unfold ratN
  split
  · exact ⟨Nat.lt_trans Nat.zero_lt_one h1, h1⟩
  · exact ⟨Nat.lt_of_le_of_lt (Nat.div_le_self _ _) hx, Nat.lt_of_le_of_lt (Nat.div_le_self _ _) hy⟩
theorem of1_f : nat_Of.f 1 = some (digB 4294967296 1) := by decide +kernel
theorem norm_f {n : Bool} {a b : List Int} (ha : okN a = true) (hb : okN b = true) (la : a.length ≤ 1048000) (lb : b.length ≤ 1048000) : rat_Norm.f n a b = some (ratL 4294967296 (ratN n (valB 4294967296 a) (valB 4294967296 b))) := by
  have h1 : digB 4294967296 1 = [1] := digB_small (by decide) (by decide) (by decide)
  have h0 : digB 4294967296 0 = [] := digB_zero _ (by decide)
  unfold rat_Norm.f rat_Make.f ratN ratL
  rw [if_pos ⟨ha, hb, la, lb⟩]
  by_cases y0 : valB 4294967296 b = 0
  · rw [if_pos y0, if_pos (Or.inr y0), Option.bind_some, if_neg (by decide)]
    unfold rat_one.f
    rw [of1_f, h0, h1]; rfl
  · rw [if_neg y0]
    by_cases x0 : valB 4294967296 a = 0
    · rw [if_pos x0, if_pos (Or.inl x0), h0, h1]; rfl
    · rw [if_neg x0, if_neg (by omega)]; rfl
theorem ratP_ev {n : Bool} {a b : List Int} {m : Nat} (ha : okN a = true) (hb : okN b = true) (la : a.length ≤ m) (lb : b.length ≤ m) (hm : 1 ≤ m) (hm2 : m ≤ 1000000) : Ev (fun k => digits_Rat.f k n a b) (bA (txt (ratN n (valB 4294967296 a) (valB 4294967296 b)))) := by
  have hx := Nat.lt_of_lt_of_le (valB_lt 4294967296 a (okN_iff.1 ha).2) (Nat.pow_le_pow_right (by decide) la)
  have hy := Nat.lt_of_lt_of_le (valB_lt 4294967296 b (okN_iff.1 hb).2) (Nat.pow_le_pow_right (by decide) lb)
  obtain ⟨hp, hq⟩ := ratN_lt (n := n) hx hy hm
  have hn := norm_f (n := n) ha hb (by omega) (by omega)
  generalize ratN n (valB 4294967296 a) (valB 4294967296 b) = r at hp hq hn ⊢
  obtain ⟨s, p, q⟩ := r
  have l1 := dec_len hp
  have l2 := dec_len hq
  have fp := nat_f (okD hp (by omega))
  have fq := nat_f (okD hq (by omega))
  rw [valD] at fp fq
  have cq := cmp_f (okD hq (by omega)) (okD (v := 1) (m := 1) (by decide) (by decide))
  rw [valD, valD] at cq
  simp only [] at l1 l2 fp fq cq
  have tl : ∀ t : List UInt8, t.length ≤ 20000000 → Ev (fun k => digits_Rat.j0 k (bA t) s (digB 4294967296 p) (digB 4294967296 q)) (bA (t ++ tailR q)) := by
    intro t ht
    refine Ev.step (f := fun _ => some (bA (t ++ tailR q))) (fun k => ?_) (Ev.now _)
    simp only [digits_Rat.j0]
    rw [of1_f, Option.bind_some, cq, Option.bind_some]
    unfold cmpN tailR
    by_cases h1 : q = 1
    · subst h1
      rw [if_pos (by simp), if_pos rfl, List.append_nil]
    · rw [if_neg (by split; · omega
                     · rw [if_pos (by omega)]; omega), fq, Option.bind_some, if_neg h1, bA_dec]
      rw [show (⟨#[47]⟩ : ByteArray) = bA [47] from rfl, bA_append, bA_append, bA_size, bA_size, bA_size]
      rw [if_pos (by omega), if_pos (by simp; omega)]; rfl
  have e0 : ∀ k, digits_Rat.f k n a b = (if s = true then digits_Rat.j0 k (bA (sgn true ++ Lib.decDigits p)) s (digB 4294967296 p) (digB 4294967296 q) else digits_Rat.j0 k (bA (Lib.decDigits p)) s (digB 4294967296 p) (digB 4294967296 q)) := by
    intro k
    unfold digits_Rat.f
    rw [hn, Option.bind_some]
    show (digits_Nat.f (digB 4294967296 p)).bind _ = _
    rw [fp, Option.bind_some, bA_dec]
    show (if s = true then _ else _) = _
    by_cases hs : s = true
    · rw [if_pos hs, if_pos hs, bA_size, if_pos (by omega), show (⟨#[45]⟩ : ByteArray) = bA [45] from rfl, bA_append]; rfl
    · rw [if_neg hs, if_neg hs]; rfl
  refine Ev.congr e0 ?_
  cases s with
  | true =>
    have := tl (sgn true ++ Lib.decDigits p) (by simp [sgn]; omega)
    rw [List.append_assoc] at this
    exact this
  | false => exact tl (Lib.decDigits p) (by omega)
theorem ratD_ev {s : Bool} {p q m : Nat} (hp : p < 4294967296 ^ m) (hq : q < 4294967296 ^ m) (hm : m ≤ 100000) : Ev (fun k => r4R.f k s (digB 10000 p) (digB 10000 q)) (bA (txt (s, p, q))) := by
  have l1 := dec_len hp
  have l2 := dec_len hq
  have n1 := nat_ev (x := p) (by have := T_len hp; omega)
  have n2 := nat_ev (x := q) (by have := T_len hq; omega)
  have tl : ∀ t : List UInt8, t.length ≤ 20000000 → Ev (fun k => r4R.j0 k (bA t) s (digB 10000 p) (digB 10000 q)) (bA (t ++ tailR q)) := by
    intro t ht
    refine Ev.step (fun k => rfl) (Ev.bind n2 ?_)
    refine Ev.congr (f := fun _ => some (bA (t ++ tailR q))) (fun k => ?_) (Ev.now _)
    rw [decB_list]
    unfold tailR
    by_cases h1 : q = 1
    · rw [if_pos ((dec_one q).2 h1), if_pos h1, List.append_nil]
    · rw [if_neg (fun h => h1 ((dec_one q).1 h)), if_neg h1, show (⟨#[47]⟩ : ByteArray) = bA [47] from rfl, bA_dec, bA_append, bA_append, bA_size, bA_size, bA_size]
      rw [if_pos (by omega), if_pos (by simp; omega)]
      rw [List.append_assoc]; rfl
  refine Ev.congr (fun k => rfl) (Ev.bind n1 (f := fun (k : Nat) (t274 : ByteArray) => (if s = true then (if 1 + t274.size ≤ 9223372036854775807 then (r4R.j0 k ((⟨#[45]⟩ : ByteArray) ++ t274) s (digB 10000 p) (digB 10000 q)) else (none)) else (r4R.j0 k t274 s (digB 10000 p) (digB 10000 q)))) ?_)
  cases s with
  | true =>
    have := tl (sgn true ++ Lib.decDigits p) (by simp [sgn]; omega)
    rw [List.append_assoc] at this
    refine Ev.congr (fun k => ?_) this
    rw [if_pos rfl, bA_dec, bA_size, if_pos (by omega), show (⟨#[45]⟩ : ByteArray) = bA [45] from rfl, bA_append]; rfl
  | false =>
    refine Ev.congr (fun k => ?_) (tl (Lib.decDigits p) (by omega))
    rw [if_neg (by decide)]; rfl
end Go.Proofs.YthppjdmkinbccaaGreatDoor.Ref

namespace Go.Proofs.YthppjdmkinbccaaGreatDoor.Pure
open Go.RowKit Go.Proofs.YthppjdmkinbccaaGreatDoorW.PrintWords Go.Proofs.YthppjdmkinbccaaGreatDoorW.PrintLast Go.Proofs.YthppjdmkinbccaaGreatDoor.Print Go.Proofs.YthppjdmkinbccaaGreatDoor.Base Go.Proofs.YthppjdmkinbccaaGreatDoor.Ref
set_option linter.unusedVariables false
set_option linter.unusedSimpArgs false
theorem DigitsRats (n : Bool) (l1 l2 : List Int) (w1 : ∀ x ∈ l1, (Lit.int .u32 x).wf = true) (w2 : ∀ x ∈ l2, (Lit.int .u32 x).wf = true) : ∃ k, fluxionlaw04_DigitsRats.f k n l1 l2 = some true := by
  refine Ev.rounds (r := true) ?_
  have hk : Ev (fun k => (kn9.f k).bind fun t => some t) true := Ev.bind known_Ev (Ev.now _)
  have kn : Ev (fun k => fluxionlaw04_DigitsRats.j0 k true n l1 l2) true := Ev.step (fun k => rfl) hk
  by_cases h1 : (l1.length : Int) > 12
  · refine Ev.congr (fun k => ?_) kn
    unfold fluxionlaw04_DigitsRats.f; rw [if_pos h1]
  · by_cases h2 : (l2.length : Int) > 12
    · refine Ev.congr (fun k => ?_) kn
      unfold fluxionlaw04_DigitsRats.f; rw [if_neg h1, decide_eq_true h2]
    · have o1 := Ref.wf_ok (by omega) w1
      have o2 := Ref.wf_ok (by omega) w2
      have la : l1.length ≤ 12 := by omega
      have lb : l2.length ≤ 12 := by omega
      have hx := Nat.lt_of_lt_of_le (valB_lt 4294967296 l1 (okN_iff.1 o1).2) (Nat.pow_le_pow_right (by decide) la)
      have hy := Nat.lt_of_lt_of_le (valB_lt 4294967296 l2 (okN_iff.1 o2).2) (Nat.pow_le_pow_right (by decide) lb)
      have hp := ratP_ev (n := n) o1 o2 la lb (by decide) (by decide)
      have ho := ofR_ev (n := n) (okN_iff.1 o1).2 (okN_iff.1 o2).2 (by omega) (by omega)
      obtain ⟨hp1, hq1⟩ := ratN_lt (n := n) hx hy (by decide)
      generalize ratN n (valB 4294967296 l1) (valB 4294967296 l2) = r at hp ho hp1 hq1
      obtain ⟨s, p, q⟩ := r
      have hd := ratD_ev (s := s) (p := p) (q := q) hp1 hq1 (by decide)
      refine Ev.congr (f := fun k => fluxionlaw04_DigitsRats.j0 k false n l1 l2) (fun k => ?_) ?_
      · unfold fluxionlaw04_DigitsRats.f; rw [if_neg h1, decide_eq_false h2]
      · refine Ev.step (f := fun k => (digits_Rat.f k n l1 l2).bind fun t103 => ((r3Of.f k n l1 l2).bind fun bt104 => ((r4R.f k bt104.1 bt104.2.1 bt104.2.2).bind fun t111 => (if t103.toList = t111.toList then ((kn9.f k).bind fun t112 => (some t112)) else (none))))) (fun k => ?_) (Ev.bind hp (Ev.bind ho (Ev.bind hd ?_)))
        · simp only [fluxionlaw04_DigitsRats.j0]; rw [if_neg (by decide)]
        · exact Ev.congr (fun k => by rw [if_pos rfl]) hk
end Go.Proofs.YthppjdmkinbccaaGreatDoor.Pure

namespace Go.Proofs.YthppjdmkinbccaaGreatDoor.Print
open Go.ChangeShapes Go.WideShapes Go.ChangeAt Go.RowKit Go.Proofs.YthppjdmkinbccaaGreatDoorW.PrintWords
set_option linter.unusedVariables false
def IsRowU (k : IntKind) (w : World) (a : Option Addr) (len cap : Nat) (zs : List Int) : Prop :=
  (a = none ∧ len = 0 ∧ cap = 0 ∧ zs = []) ∨
  ∃ x, a = some x ∧ len ≤ cap ∧ cap ≤ maxLen ∧ zs.length = cap ∧ (∀ i, i < zs.length → w.cell? (x.add i) = some (.int k (zs.getD i 0))) ∧ ∀ n ∈ zs, (Lit.int k n).wf = true
theorem sized_parts {H : Type} {P : Program} {t : TypeId} {fs : Array Field} {ts : List TypeId} {ds : List (DataW H)} {j : Nat} {parts : List (DataW H)}
    (hsz : (DataW.weightsEach P ts ds).all (· ≤ reachBytes) = true) (ht : ts[j]? = some t) (hd : ds[j]? = some (.agg parts)) (hu : P.underlying t = some (.struct fs)) :
    (DataW.weightsEach P (fs.toList.map (·.type)) parts).all (· ≤ reachBytes) = true := by
  rw [List.all_eq_true] at hsz ⊢
  intro n hn
  refine hsz n (DataW.weights_mem_each ht hd n ?_)
  simp only [DataW.weights, hu]
  exact hn
structure InNat (W : World) (v : Value) (A : Option Addr) (c : Nat) (l : List Int) : Prop where
  eq : v = .slice A l.length c
  cells : Kd.C (Kd.int .u32) W A l.length l
  cap : l.length ≤ c
  max : l.length ≤ maxLen
  size : l.length * 4 ≤ 140737488351232
  wf : ∀ x ∈ l, (Lit.int .u32 x).wf = true
section
variable {H : Type} {enc : TypeId × Value → H} {W : World}
theorem open_nat {v : Value} {d : DataW H} {p : List MemPlace} {ts : List TypeId} {ds : List (DataW H)} {j : Nat} (hsz : (DataW.weightsEach Tryz.prog ts ds).all (· ≤ reachBytes) = true) (ht : ts[j]? = some 23) (hd : ds[j]? = some d)
    (hv : ∃ A len cap, v = .slice A len cap) (h : DataW.Trod enc Tryz.prog W 0 (fun _ => true) true 23 v d p) : ∃ A c l, InNat W v A c l := by
  obtain ⟨a0, len0, cap0, rfl⟩ := hv
  obtain ⟨z0, w0⟩ : ∃ zs, IsRowU .u32 W a0 len0 cap0 zs := by
    obtain ⟨fuel, hf⟩ := h
    rcases open_ints Tryz.underlying23 Tryz.underlying56 (by kernel_rfl) hf with ⟨hcs, _⟩ | ⟨x, l, c, zs, hcs, _, hl, hm, hz, _, hcell, hwz⟩
    · simp [Value.cells] at hcs
      obtain ⟨rfl, rfl, rfl⟩ := hcs
      exact ⟨[], .inl ⟨rfl, rfl, rfl, rfl⟩⟩
    · simp [Value.cells] at hcs
      obtain ⟨rfl, rfl, rfl⟩ := hcs
      exact ⟨zs, .inr ⟨_, rfl, hl, hm, by simpa using hz, hcell, hwz⟩⟩
  have y0 : len0 * 4 ≤ 140737488351232 := sized_ints hsz ht hd Tryz.underlying23 Tryz.underlying56 (by kernel_rfl) (by kernel_rfl) h
  obtain ⟨l0, rfl, hr0, hm0, hw0, hc0⟩ := ReadsInt.ofRowC w0
  exact ⟨_, _, l0, rfl, Kd.C_of_reads (d := (0 : Int)) (h1 := fun _ => rfl) hr0, hc0, hm0, y0, hw0⟩
set_option maxRecDepth 100000 in
theorem open_rat {r : Reach} {b0 : Nat} {v : Value} {d : DataW H} {p : List MemPlace} {ts : List TypeId} {ds : List (DataW H)} {j : Nat} (hsz : (DataW.weightsEach Tryz.prog ts ds).all (· ≤ reachBytes) = true) (ht : ts[j]? = some 35) (hd : ds[j]? = some d)
    (hv : Value.okWide Tryz.prog W r b0 35 v) (h : DataW.Trod enc Tryz.prog W 0 (fun _ => true) true 35 v d p) :
    ∃ (o : Bool) (v1 v2 : Value) (A1 : Option Addr) (c1 : Nat) (l1 : List Int) (A2 : Option Addr) (c2 : Nat) (l2 : List Int), v = .agg #[.bool o, v1, v2] ∧ InNat W v1 A1 c1 l1 ∧ InNat W v2 A2 c2 l2 := by
  obtain ⟨u0, u1, u2, y0, y1, y2, n, rfl, rfl, rfl, h0, h1, h2⟩ := Go.Joins.open_agg3 Tryz.underlying35 (by kernel_rfl) (by kernel_rfl) hv h
  have hsf := sized_parts hsz ht hd Tryz.underlying35
  obtain ⟨o, ho, hy0⟩ := DataW.trod_bool Tryz.underlying4 h0
  obtain ⟨a1, m1, q1, e1⟩ := Go.Joins.slice_form Tryz.underlying23 h1
  obtain ⟨a2, m2, q2, e2⟩ := Go.Joins.slice_form Tryz.underlying23 h2
  obtain rfl : u0 = .bool o := by simpa using ho
  obtain rfl : u1 = .slice a1 m1 q1 := by simpa using e1
  obtain rfl : u2 = .slice a2 m2 q2 := by simpa using e2
  obtain ⟨A1, k1, l1, r1⟩ := open_nat (enc := enc) (W := W) (v := .slice a1 m1 q1) (d := y1.1) (p := y1.2) hsf (j := 1) rfl rfl ⟨_, _, _, rfl⟩ ⟨n, by simpa [Value.cells] using h1⟩
  obtain ⟨A2, k2, l2, r2⟩ := open_nat (enc := enc) (W := W) (v := .slice a2 m2 q2) (d := y2.1) (p := y2.2) hsf (j := 2) rfl rfl ⟨_, _, _, rfl⟩ ⟨n, by simpa [Value.cells] using h2⟩
  exact ⟨o, _, _, A1, k1, l1, A2, k2, l2, rfl, r1, r2⟩
end
end Go.Proofs.YthppjdmkinbccaaGreatDoor.Print

namespace Go.Proofs.YthppjdmkinbccaaGreatDoor.digitsRats
open Go.ChangeShapes Go.WideShapes Go.ChangeAt Go.RowKit
open Go.ChangeMaps (open_string shut_string)
set_option linter.unusedVariables false
theorem own : ownKnob Tryz.prog.godebug = none := by kernel_rfl
theorem laidOut : laidOutB Tryz.prog = true := by kernel_rfl
noncomputable abbrev W0 (os : Os) : World := World.laidAll Tryz.prog os Rows.digitsRatsRow.laid
theorem laid_met (os : Os) (args : Array Value) : laidMet Tryz.prog Rows.digitsRatsRow.laid ((W0 os).forCall (fun _ _ => 0) ⟨#[], args, []⟩).memory :=
  laidMet_laidAll args (by kernel_rfl) (by kernel_rfl)
theorem witness_row (os : Os) {H : Type} (enc : TypeId × Value → H) :
    (OpenSpec.ofChange Rows.digitsRatsSpec).preRow enc Tryz.prog Tryz.f4 Rows.digitsRatsRow.domain false Rows.digitsRatsRow.laid ((W0 os).forCall (fun _ _ => 0) ⟨#[], #[Value.agg #[.bool false, .slice none 0 0, .slice none 0 0]], []⟩).memory #[Value.agg #[.bool false, .slice none 0 0, .slice none 0 0]] := by
  have hw : (DataW.whole enc Tryz.prog ((W0 os).forCall (fun _ _ => 0) ⟨#[], #[Value.agg #[.bool false, .slice none 0 0, .slice none 0 0]], []⟩).memory Tryz.f4.params.toList (OpenSpec.ofChange Rows.digitsRatsSpec).vars false #[Value.agg #[.bool false, .slice none 0 0, .slice none 0 0]].toList 8).map (fun x => (x.1, x.2.1)) =
      some ([.agg [.lit (.bool false), .nil, .nil]], []) := by kernel_rfl
  obtain ⟨⟨x1, x2, x3⟩, hx, hx1⟩ := Option.map_eq_some_iff.1 hw
  simp only [Prod.mk.injEq] at hx1
  obtain ⟨rfl, rfl⟩ := hx1
  exact OpenSpec.preRow_of_cond 8 hx (by kernel_rfl) (fun k hk => by cases hk) (by kernel_rfl) (laid_met os _)
set_option maxRecDepth 100000 in
theorem lifted (os : Os) (started : os.Started) (H : Type) (enc : TypeId × Value → H) (G : Stop.Interp) :
    ReturnsInHanded {} Tryz.checked os 4 .any ((OpenSpec.ofChange Rows.digitsRatsSpec).preRow enc Tryz.prog Tryz.f4 Rows.digitsRatsRow.domain false Rows.digitsRatsRow.laid) (((OpenSpec.ofChange Rows.digitsRatsSpec).at G).post enc Tryz.prog Tryz.f4 false true false false) := by
  refine returnsInHanded_of_row (C := Tryz.checked) (s := OpenSpec.ofChange Rows.digitsRatsSpec) own started (by kernel_rfl) Tryz.func4
    (witness_row_atRef (enc := enc) (C := Tryz.checked) false (W0 os) #[Value.agg #[.bool false, .slice none 0 0, .slice none 0 0]] (World.laidAll_os _ _ _) (by kernel_rfl) (by kernel_rfl) (by kernel_rfl) (witness_row os enc)) ?_
  intro W base args ds gs before hval0 hW hcnd _ hsz0 hL _ _
  have hsz : (DataW.weightsEach Tryz.prog (Tryz.f4.params.toList ++ (OpenSpec.ofChange Rows.digitsRatsSpec).bare.plain.varTypes Tryz.prog) (ds ++ gs)).all (· ≤ reachBytes) = true := hsz0
  have hval : ∀ (j : Nat) t v, Tryz.f4.params[j]? = some t → args[j]? = some v → Value.okWide Tryz.prog W .any base t v := hval0
  have hW' := hW
  obtain ⟨p, q, hA0, hV, rfl, hfz, hnd⟩ := hW
  have hA : DataW.TrodAll enc Tryz.prog W 0 (fun _ => true) true Tryz.f4.params.toList args.toList ds p := hA0
  rw [Tryz.params4] at hA hval hsz
  obtain ⟨v0, vs0, d0, ds0, p0, q0, hargs, rfl, rfl, h0, r0⟩ := trodAll_cons hA
  obtain ⟨rfl, rfl, rfl⟩ := trodAll_nil r0
  obtain rfl : args = #[v0] := by cases args; simp_all
  obtain ⟨rfl, rfl⟩ := trodVars_none hV
  have k0 := h0
  have lt0 : ∀ x ∈ p0, x.block < W.heap.size := by obtain ⟨m, hm⟩ := k0; exact DataW.trod_lt m _ _ _ hm
  obtain ⟨o0, u0, t0, A0, c0, l0, B0, e0, m0, rfl, R0, S0⟩ := Print.open_rat hsz (j := 0) rfl rfl (hval 0 35 v0 rfl rfl) h0
  obtain rfl := R0.eq
  obtain rfl := S0.eq
  have hL' : laidMet Tryz.prog Rows.digitsRatsRow.laid W := hL
  have hT : Print.PowTab W := Lib.tabIs_of_head (g := 1) (t := 151) (e := 59) (n := 20) (by kernel_rfl) (by kernel_rfl) Tryz.underlying151 Tryz.underlying59 (by kernel_rfl) (by kernel_rfl) hL'.tail.tail
  clear hA0 hval0 hsz0 hsz
  obtain ⟨k, hk⟩ := Pure.DigitsRats o0 l0 m0 R0.wf S0.wf
  refine (Print.fluxionlaw04_DigitsRats.calls k o0 A0 c0 l0 B0 e0 m0 true W hT R0.cells R0.cap S0.cells S0.cap hk).mono fun e W' ⟨he, bel⟩ => ?_
  subst he
  exact ⟨_, rfl, _, _, _, [], _, [], hW', trodAll_mk1 (shut_bool Tryz.underlying4 _), (trodAll_cons_mk (Below.trod laidOut (by kernel_rfl) (of_decide_eq_true (by kernel_rfl)) k0 bel lt0) trodAll_mk0), rfl, bel.frame _, fun h => by cases h⟩
theorem said : Rows.DigitsRatsSaid :=
  OpenClaim.holds_of_cond 4 Tryz.f4 rfl rfl rfl rfl rfl rfl rfl ⟨rfl, rfl, rfl, rfl, rfl⟩ rfl rfl rfl rfl rfl (by kernel_rfl) Tryz.func4 (by kernel_rfl)
    (of_decide_eq_true (by kernel_rfl)) (by unfold Func.isWrapper; first | (rw [if_pos (by decide +kernel)]; kernel_rfl) | (rw [if_neg (by decide +kernel)]; exact ⟨rfl, rfl⟩))
    (fun os started H enc _ F => by rw [OpenClaim.pre_eq_preRow]; exact lifted os started H enc F)
theorem plain (f : FuncId) (fn : Func) (hf : Tryz.pinned.checked.prog.funcNamed "fluxion/fluxionlaw04.DigitsRats" = some f) (hfn : Tryz.pinned.checked.prog.funcs[f]? = some fn) :
    true = Tryz.pinned.checked.prog.looks [] ∧ ∀ (j : Nat) t, fn.params[j]? = some t → Tryz.pinned.checked.prog.wantsStandIn t = false := by
  obtain rfl : f = 4 := Option.some.inj ((show Tryz.prog.funcNamed "fluxion/fluxionlaw04.DigitsRats" = some 4 by kernel_rfl).symm.trans hf) |>.symm
  obtain rfl : fn = Tryz.f4 := (Option.some.inj (Tryz.func4.symm.trans hfn)).symm
  refine ⟨by kernel_rfl, fun j t ht => ?_⟩
  rw [Tryz.params4] at ht
  have hall : ∀ t ∈ Tryz.f4.params, Tryz.prog.wantsStandIn t = false := of_decide_eq_true (by kernel_rfl)
  exact hall t (by rw [Tryz.params4]; exact Array.mem_of_getElem? ht)
theorem card : Rows.DigitsRatsCardSaid :=
  Claim7.holds_tied_plain_at .later [] _ _ _ _ said (fun _ h => by cases h) (by kernel_rfl) (fun _ h => by cases h) digitsRats_row_tie rfl ⟨rfl, rfl⟩ (by kernel_rfl) rfl plain (by kernel_rfl)
#print axioms card
end Go.Proofs.YthppjdmkinbccaaGreatDoor.digitsRats
namespace Go.Proofs.YthppjdmkinbccaaGreatDoor
theorem digitsRats_holds : Rows.DigitsRatsCardSaid := digitsRats.card
end Go.Proofs.YthppjdmkinbccaaGreatDoor
