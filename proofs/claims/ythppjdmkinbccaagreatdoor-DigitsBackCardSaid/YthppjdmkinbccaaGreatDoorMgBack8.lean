/- Written by wip/tools/claimtexts.py: these texts, one behind another, without what this claim does not use: E3, Qb1. -/
import Derived.Test.YthppjdmkinbccaaGreatDoorMgBack2
import Derived.Test.YthppjdmkinbccaaGreatDoorMgBack6
import Derived.Test.YthppjdmkinbccaaGreatDoorMgBack7
import Derived.Test.YthppjdmkinbccaaGreatDoorMgBack3
namespace Go.Proofs.YthppjdmkinbccaaGreatDoor.Print
open Go.RowKit Go.Proofs.YthppjdmkinbccaaGreatDoorW.PrintWords Go.Proofs.YthppjdmkinbccaaGreatDoorW.PrintLast Go.Proofs.YthppjdmkinbccaaGreatDoorW.PrintMore
attribute [local go_sem] max2_int min2_int max_two min_two max_three min_three max_four min_four   -- for this text's walks alone
set_option linter.unusedVariables false
set_option linter.unusedSimpArgs false
def kn9.f (k : Nat)  : Option (Bool) := (digits_ParseNat.f (⟨#[48, 48, 55]⟩ : ByteArray)).bind fun bt152 => ((digits_ParseNat.f (⟨#[49, 120]⟩ : ByteArray)).bind fun bt156 => ((digits_ParseNat.f (⟨#[]⟩ : ByteArray)).bind fun bt160 => ((digits_Nat.f (([0, 1] : List Int))).bind fun t167 => (if t167.toList = ([52, 50, 57, 52, 57, 54, 55, 50, 57, 54] : List UInt8) then ((digits_Rat.f k true (([3] : List Int)) (([4] : List Int))).bind fun t174 => (if t174.toList = ([45, 51, 47, 52] : List UInt8) then ((digits_Rat.f k false (([7] : List Int)) (([1] : List Int))).bind fun t181 => (if t181.toList = ([55] : List UInt8) then (if bt152.2 = 19 then (if bt156.2 = 19 then (if bt160.2 = 19 then ((falls9.f k (⟨#[50, 47, 52]⟩ : ByteArray) 6).bind fun t182 => (if t182 = true then ((falls9.f k (⟨#[51, 47, 49]⟩ : ByteArray) 6).bind fun t183 => (if t183 = true then ((falls9.f k (⟨#[45, 48]⟩ : ByteArray) 6).bind fun t184 => (if t184 = true then ((falls9.f k (⟨#[48, 47, 51]⟩ : ByteArray) 6).bind fun t185 => (if t185 = true then ((falls9.f k (⟨#[49, 47, 48]⟩ : ByteArray) 6).bind fun t186 => (if t186 = true then ((falls9.f k (⟨#[48, 49, 47, 50]⟩ : ByteArray) 19).bind fun t187 => (if t187 = true then ((falls9.f k (⟨#[49, 47]⟩ : ByteArray) 19).bind fun t188 => (if t188 = true then ((falls9.f k (⟨#[45, 47, 50]⟩ : ByteArray) 19).bind fun t189 => (if t189 = true then ((falls9.f k (⟨#[49, 47, 45, 50]⟩ : ByteArray) 19).bind fun t190 => (if t190 = true then ((falls9.f k (⟨#[43, 49]⟩ : ByteArray) 19).bind fun t191 => (some t191)) else (none))) else (none))) else (none))) else (none))) else (none))) else (none))) else (none))) else (none))) else (none))) else (none)) else (none)) else (none)) else (none))) else (none))) else (none)))))
theorem kn9.mono : ∀ k, LeO (kn9.f k ) (kn9.f (k + 1) ) := by
 intro  k
 unfold kn9.f
 repeat' first
   | (with_reducible exact digits_Rat.mono _ _ _ _)
   | (with_reducible exact falls9.mono _ _ _)
   | (with_reducible exact LeO.refl _)
   | (with_reducible exact LeO.none _)
   | (with_reducible refine LeO.ite ?_ ?_)
   | (with_reducible refine LeO.bind ?_ (fun _ => ?_))
   | exact digits_Rat.mono _ _ _ _
   | exact falls9.mono _ _ _
   | exact LeO.none _
   | refine LeO.ite ?_ ?_
   | refine LeO.bind ?_ (fun _ => ?_)
set_option maxHeartbeats 8000000 in
set_option maxRecDepth 100000 in
theorem kn9.calls (k : Nat)  (r : Bool) (w : World) (ht : PowTab w) (h : kn9.f k  = some r) :
  Calls Tryz.prog 15 #[] w fun e w' => e = .returned (.bool r) ∧ Below w.heap.size w w' := by
 have HT := Aside0.mk ht
 clear ht
 have hu35 := Tryz.underlying35
 have HB := Aside0.mk (Below.refl w.heap.size w)
 have H : ((digits_ParseNat.f (⟨#[48, 48, 55]⟩ : ByteArray)).bind fun bt152 => ((digits_ParseNat.f (⟨#[49, 120]⟩ : ByteArray)).bind fun bt156 => ((digits_ParseNat.f (⟨#[]⟩ : ByteArray)).bind fun bt160 => ((digits_Nat.f (([0, 1] : List Int))).bind fun t167 => (if t167.toList = ([52, 50, 57, 52, 57, 54, 55, 50, 57, 54] : List UInt8) then ((digits_Rat.f k true (([3] : List Int)) (([4] : List Int))).bind fun t174 => (if t174.toList = ([45, 51, 47, 52] : List UInt8) then ((digits_Rat.f k false (([7] : List Int)) (([1] : List Int))).bind fun t181 => (if t181.toList = ([55] : List UInt8) then (if bt152.2 = 19 then (if bt156.2 = 19 then (if bt160.2 = 19 then ((falls9.f k (⟨#[50, 47, 52]⟩ : ByteArray) 6).bind fun t182 => (if t182 = true then ((falls9.f k (⟨#[51, 47, 49]⟩ : ByteArray) 6).bind fun t183 => (if t183 = true then ((falls9.f k (⟨#[45, 48]⟩ : ByteArray) 6).bind fun t184 => (if t184 = true then ((falls9.f k (⟨#[48, 47, 51]⟩ : ByteArray) 6).bind fun t185 => (if t185 = true then ((falls9.f k (⟨#[49, 47, 48]⟩ : ByteArray) 6).bind fun t186 => (if t186 = true then ((falls9.f k (⟨#[48, 49, 47, 50]⟩ : ByteArray) 19).bind fun t187 => (if t187 = true then ((falls9.f k (⟨#[49, 47]⟩ : ByteArray) 19).bind fun t188 => (if t188 = true then ((falls9.f k (⟨#[45, 47, 50]⟩ : ByteArray) 19).bind fun t189 => (if t189 = true then ((falls9.f k (⟨#[49, 47, 45, 50]⟩ : ByteArray) 19).bind fun t190 => (if t190 = true then ((falls9.f k (⟨#[43, 49]⟩ : ByteArray) 19).bind fun t191 => (some t191)) else (none))) else (none))) else (none))) else (none))) else (none))) else (none))) else (none))) else (none))) else (none))) else (none)) else (none)) else (none)) else (none))) else (none))) else (none)))))) = some r := h
 clear h
 replace H := Option.bind_eq_some_iff.mp H
 obtain ⟨⟨t152, t153⟩, A10, H⟩ := H
 (try dsimp only at H)
 have A1 := Aside0.mk A10
 clear A10
 replace H := Option.bind_eq_some_iff.mp H
 obtain ⟨⟨t156, t157⟩, A20, H⟩ := H
 (try dsimp only at H)
 have A2 := Aside0.mk A20
 clear A20
 replace H := Option.bind_eq_some_iff.mp H
 obtain ⟨⟨t160, t161⟩, A30, H⟩ := H
 (try dsimp only at H)
 have A3 := Aside0.mk A30
 clear A30
 obtain ⟨y164, hy164⟩ : ∃ y_ : List Int, y_ = (([0, 1] : List Int)) := ⟨_, rfl⟩
 replace H : ((digits_Nat.f y164).bind fun t167 => (if t167.toList = ([52, 50, 57, 52, 57, 54, 55, 50, 57, 54] : List UInt8) then ((digits_Rat.f k true (([3] : List Int)) (([4] : List Int))).bind fun t174 => (if t174.toList = ([45, 51, 47, 52] : List UInt8) then ((digits_Rat.f k false (([7] : List Int)) (([1] : List Int))).bind fun t181 => (if t181.toList = ([55] : List UInt8) then (if t153 = 19 then (if t157 = 19 then (if t161 = 19 then ((falls9.f k (⟨#[50, 47, 52]⟩ : ByteArray) 6).bind fun t182 => (if t182 = true then ((falls9.f k (⟨#[51, 47, 49]⟩ : ByteArray) 6).bind fun t183 => (if t183 = true then ((falls9.f k (⟨#[45, 48]⟩ : ByteArray) 6).bind fun t184 => (if t184 = true then ((falls9.f k (⟨#[48, 47, 51]⟩ : ByteArray) 6).bind fun t185 => (if t185 = true then ((falls9.f k (⟨#[49, 47, 48]⟩ : ByteArray) 6).bind fun t186 => (if t186 = true then ((falls9.f k (⟨#[48, 49, 47, 50]⟩ : ByteArray) 19).bind fun t187 => (if t187 = true then ((falls9.f k (⟨#[49, 47]⟩ : ByteArray) 19).bind fun t188 => (if t188 = true then ((falls9.f k (⟨#[45, 47, 50]⟩ : ByteArray) 19).bind fun t189 => (if t189 = true then ((falls9.f k (⟨#[49, 47, 45, 50]⟩ : ByteArray) 19).bind fun t190 => (if t190 = true then ((falls9.f k (⟨#[43, 49]⟩ : ByteArray) 19).bind fun t191 => (some t191)) else (none))) else (none))) else (none))) else (none))) else (none))) else (none))) else (none))) else (none))) else (none))) else (none)) else (none)) else (none)) else (none))) else (none))) else (none))) = some r := by first | (rw [hy164]; with_reducible exact H) | (have H2_ := (Option.bind_some _ _).symm.trans H; rw [hy164]; with_reducible exact H2_) | (have H2_ := (Option.bind_some _ _).symm.trans H; with_reducible exact H2_) | with_reducible exact H | (rw [hy164]; exact H) | exact H
 have Ny164 := Aside0.mk hy164
 clear hy164
 replace H := Option.bind_eq_some_iff.mp H
 obtain ⟨t167, A40, H⟩ := H
 (try dsimp only at H)
 have A4 := Aside0.mk A40
 clear A40
 by_cases c5 : t167.toList = ([52, 50, 57, 52, 57, 54, 55, 50, 57, 54] : List UInt8)
 ·rw [if_pos c5] at H
  have c5b0 : (t167.toList == ([52, 50, 57, 52, 57, 54, 55, 50, 57, 54] : List UInt8)) = true := beq_iff_eq.mpr c5
  have c5b1 : (t167.toList != ([52, 50, 57, 52, 57, 54, 55, 50, 57, 54] : List UInt8)) = false := bne_eq_false_iff_eq.mpr c5
  clear c5
  obtain ⟨y168, hy168⟩ : ∃ y_ : List Int, y_ = (([3] : List Int)) := ⟨_, rfl⟩
  replace H : ((digits_Rat.f k true y168 (([4] : List Int))).bind fun t174 => (if t174.toList = ([45, 51, 47, 52] : List UInt8) then ((digits_Rat.f k false (([7] : List Int)) (([1] : List Int))).bind fun t181 => (if t181.toList = ([55] : List UInt8) then (if t153 = 19 then (if t157 = 19 then (if t161 = 19 then ((falls9.f k (⟨#[50, 47, 52]⟩ : ByteArray) 6).bind fun t182 => (if t182 = true then ((falls9.f k (⟨#[51, 47, 49]⟩ : ByteArray) 6).bind fun t183 => (if t183 = true then ((falls9.f k (⟨#[45, 48]⟩ : ByteArray) 6).bind fun t184 => (if t184 = true then ((falls9.f k (⟨#[48, 47, 51]⟩ : ByteArray) 6).bind fun t185 => (if t185 = true then ((falls9.f k (⟨#[49, 47, 48]⟩ : ByteArray) 6).bind fun t186 => (if t186 = true then ((falls9.f k (⟨#[48, 49, 47, 50]⟩ : ByteArray) 19).bind fun t187 => (if t187 = true then ((falls9.f k (⟨#[49, 47]⟩ : ByteArray) 19).bind fun t188 => (if t188 = true then ((falls9.f k (⟨#[45, 47, 50]⟩ : ByteArray) 19).bind fun t189 => (if t189 = true then ((falls9.f k (⟨#[49, 47, 45, 50]⟩ : ByteArray) 19).bind fun t190 => (if t190 = true then ((falls9.f k (⟨#[43, 49]⟩ : ByteArray) 19).bind fun t191 => (some t191)) else (none))) else (none))) else (none))) else (none))) else (none))) else (none))) else (none))) else (none))) else (none))) else (none)) else (none)) else (none)) else (none))) else (none))) = some r := by first | (rw [hy168]; with_reducible exact H) | (have H2_ := (Option.bind_some _ _).symm.trans H; rw [hy168]; with_reducible exact H2_) | (have H2_ := (Option.bind_some _ _).symm.trans H; with_reducible exact H2_) | with_reducible exact H | (rw [hy168]; exact H) | exact H
  have Ny168 := Aside0.mk hy168
  clear hy168
  obtain ⟨y171, hy171⟩ : ∃ y_ : List Int, y_ = (([4] : List Int)) := ⟨_, rfl⟩
  replace H : ((digits_Rat.f k true y168 y171).bind fun t174 => (if t174.toList = ([45, 51, 47, 52] : List UInt8) then ((digits_Rat.f k false (([7] : List Int)) (([1] : List Int))).bind fun t181 => (if t181.toList = ([55] : List UInt8) then (if t153 = 19 then (if t157 = 19 then (if t161 = 19 then ((falls9.f k (⟨#[50, 47, 52]⟩ : ByteArray) 6).bind fun t182 => (if t182 = true then ((falls9.f k (⟨#[51, 47, 49]⟩ : ByteArray) 6).bind fun t183 => (if t183 = true then ((falls9.f k (⟨#[45, 48]⟩ : ByteArray) 6).bind fun t184 => (if t184 = true then ((falls9.f k (⟨#[48, 47, 51]⟩ : ByteArray) 6).bind fun t185 => (if t185 = true then ((falls9.f k (⟨#[49, 47, 48]⟩ : ByteArray) 6).bind fun t186 => (if t186 = true then ((falls9.f k (⟨#[48, 49, 47, 50]⟩ : ByteArray) 19).bind fun t187 => (if t187 = true then ((falls9.f k (⟨#[49, 47]⟩ : ByteArray) 19).bind fun t188 => (if t188 = true then ((falls9.f k (⟨#[45, 47, 50]⟩ : ByteArray) 19).bind fun t189 => (if t189 = true then ((falls9.f k (⟨#[49, 47, 45, 50]⟩ : ByteArray) 19).bind fun t190 => (if t190 = true then ((falls9.f k (⟨#[43, 49]⟩ : ByteArray) 19).bind fun t191 => (some t191)) else (none))) else (none))) else (none))) else (none))) else (none))) else (none))) else (none))) else (none))) else (none))) else (none)) else (none)) else (none)) else (none))) else (none))) = some r := by first | (rw [hy171]; with_reducible exact H) | (have H2_ := (Option.bind_some _ _).symm.trans H; rw [hy171]; with_reducible exact H2_) | (have H2_ := (Option.bind_some _ _).symm.trans H; with_reducible exact H2_) | with_reducible exact H | (rw [hy171]; exact H) | exact H
  have Ny171 := Aside0.mk hy171
  clear hy171
  replace H := Option.bind_eq_some_iff.mp H
  obtain ⟨t174, A60, H⟩ := H
  (try dsimp only at H)
  have A6 := Aside0.mk A60
  clear A60
  by_cases c7 : t174.toList = ([45, 51, 47, 52] : List UInt8)
  ·rw [if_pos c7] at H
   have c7b0 : (t174.toList == ([45, 51, 47, 52] : List UInt8)) = true := beq_iff_eq.mpr c7
   have c7b1 : (t174.toList != ([45, 51, 47, 52] : List UInt8)) = false := bne_eq_false_iff_eq.mpr c7
   clear c7
   obtain ⟨y175, hy175⟩ : ∃ y_ : List Int, y_ = (([7] : List Int)) := ⟨_, rfl⟩
   replace H : ((digits_Rat.f k false y175 (([1] : List Int))).bind fun t181 => (if t181.toList = ([55] : List UInt8) then (if t153 = 19 then (if t157 = 19 then (if t161 = 19 then ((falls9.f k (⟨#[50, 47, 52]⟩ : ByteArray) 6).bind fun t182 => (if t182 = true then ((falls9.f k (⟨#[51, 47, 49]⟩ : ByteArray) 6).bind fun t183 => (if t183 = true then ((falls9.f k (⟨#[45, 48]⟩ : ByteArray) 6).bind fun t184 => (if t184 = true then ((falls9.f k (⟨#[48, 47, 51]⟩ : ByteArray) 6).bind fun t185 => (if t185 = true then ((falls9.f k (⟨#[49, 47, 48]⟩ : ByteArray) 6).bind fun t186 => (if t186 = true then ((falls9.f k (⟨#[48, 49, 47, 50]⟩ : ByteArray) 19).bind fun t187 => (if t187 = true then ((falls9.f k (⟨#[49, 47]⟩ : ByteArray) 19).bind fun t188 => (if t188 = true then ((falls9.f k (⟨#[45, 47, 50]⟩ : ByteArray) 19).bind fun t189 => (if t189 = true then ((falls9.f k (⟨#[49, 47, 45, 50]⟩ : ByteArray) 19).bind fun t190 => (if t190 = true then ((falls9.f k (⟨#[43, 49]⟩ : ByteArray) 19).bind fun t191 => (some t191)) else (none))) else (none))) else (none))) else (none))) else (none))) else (none))) else (none))) else (none))) else (none))) else (none)) else (none)) else (none)) else (none))) = some r := by first | (rw [hy175]; with_reducible exact H) | (have H2_ := (Option.bind_some _ _).symm.trans H; rw [hy175]; with_reducible exact H2_) | (have H2_ := (Option.bind_some _ _).symm.trans H; with_reducible exact H2_) | with_reducible exact H | (rw [hy175]; exact H) | exact H
   have Ny175 := Aside0.mk hy175
   clear hy175
   obtain ⟨y178, hy178⟩ : ∃ y_ : List Int, y_ = (([1] : List Int)) := ⟨_, rfl⟩
   replace H : ((digits_Rat.f k false y175 y178).bind fun t181 => (if t181.toList = ([55] : List UInt8) then (if t153 = 19 then (if t157 = 19 then (if t161 = 19 then ((falls9.f k (⟨#[50, 47, 52]⟩ : ByteArray) 6).bind fun t182 => (if t182 = true then ((falls9.f k (⟨#[51, 47, 49]⟩ : ByteArray) 6).bind fun t183 => (if t183 = true then ((falls9.f k (⟨#[45, 48]⟩ : ByteArray) 6).bind fun t184 => (if t184 = true then ((falls9.f k (⟨#[48, 47, 51]⟩ : ByteArray) 6).bind fun t185 => (if t185 = true then ((falls9.f k (⟨#[49, 47, 48]⟩ : ByteArray) 6).bind fun t186 => (if t186 = true then ((falls9.f k (⟨#[48, 49, 47, 50]⟩ : ByteArray) 19).bind fun t187 => (if t187 = true then ((falls9.f k (⟨#[49, 47]⟩ : ByteArray) 19).bind fun t188 => (if t188 = true then ((falls9.f k (⟨#[45, 47, 50]⟩ : ByteArray) 19).bind fun t189 => (if t189 = true then ((falls9.f k (⟨#[49, 47, 45, 50]⟩ : ByteArray) 19).bind fun t190 => (if t190 = true then ((falls9.f k (⟨#[43, 49]⟩ : ByteArray) 19).bind fun t191 => (some t191)) else (none))) else (none))) else (none))) else (none))) else (none))) else (none))) else (none))) else (none))) else (none))) else (none)) else (none)) else (none)) else (none))) = some r := by first | (rw [hy178]; with_reducible exact H) | (have H2_ := (Option.bind_some _ _).symm.trans H; rw [hy178]; with_reducible exact H2_) | (have H2_ := (Option.bind_some _ _).symm.trans H; with_reducible exact H2_) | with_reducible exact H | (rw [hy178]; exact H) | exact H
   have Ny178 := Aside0.mk hy178
   clear hy178
   replace H := Option.bind_eq_some_iff.mp H
   obtain ⟨t181, A80, H⟩ := H
   (try dsimp only at H)
   have A8 := Aside0.mk A80
   clear A80
   by_cases c9 : t181.toList = ([55] : List UInt8)
   ·rw [if_pos c9] at H
    have c9b0 : (t181.toList == ([55] : List UInt8)) = true := beq_iff_eq.mpr c9
    have c9b1 : (t181.toList != ([55] : List UInt8)) = false := bne_eq_false_iff_eq.mpr c9
    clear c9
    by_cases c10 : t153 = 19
    ·rw [if_pos c10] at H
     have c10b0 : (t153 == 19) = true := beq_iff_eq.mpr c10
     have c10b1 : (t153 != 19) = false := bne_eq_false_iff_eq.mpr c10
     clear c10
     by_cases c11 : t157 = 19
     ·rw [if_pos c11] at H
      have c11b0 : (t157 == 19) = true := beq_iff_eq.mpr c11
      have c11b1 : (t157 != 19) = false := bne_eq_false_iff_eq.mpr c11
      clear c11
      by_cases c12 : t161 = 19
      ·rw [if_pos c12] at H
       have c12b0 : (t161 == 19) = true := beq_iff_eq.mpr c12
       have c12b1 : (t161 != 19) = false := bne_eq_false_iff_eq.mpr c12
       clear c12
       replace H := Option.bind_eq_some_iff.mp H
       obtain ⟨t182, A130, H⟩ := H
       (try dsimp only at H)
       have A13 := Aside0.mk A130
       clear A130
       by_cases c14 : t182 = true
       ·subst c14
        have H1 : ((falls9.f k (⟨#[51, 47, 49]⟩ : ByteArray) 6).bind fun t183 => (if t183 = true then ((falls9.f k (⟨#[45, 48]⟩ : ByteArray) 6).bind fun t184 => (if t184 = true then ((falls9.f k (⟨#[48, 47, 51]⟩ : ByteArray) 6).bind fun t185 => (if t185 = true then ((falls9.f k (⟨#[49, 47, 48]⟩ : ByteArray) 6).bind fun t186 => (if t186 = true then ((falls9.f k (⟨#[48, 49, 47, 50]⟩ : ByteArray) 19).bind fun t187 => (if t187 = true then ((falls9.f k (⟨#[49, 47]⟩ : ByteArray) 19).bind fun t188 => (if t188 = true then ((falls9.f k (⟨#[45, 47, 50]⟩ : ByteArray) 19).bind fun t189 => (if t189 = true then ((falls9.f k (⟨#[49, 47, 45, 50]⟩ : ByteArray) 19).bind fun t190 => (if t190 = true then ((falls9.f k (⟨#[43, 49]⟩ : ByteArray) 19).bind fun t191 => (some t191)) else (none))) else (none))) else (none))) else (none))) else (none))) else (none))) else (none))) else (none))) = some r := by rw [if_pos rfl] at H; exact H
        clear H
        have H := H1
        clear H1
        replace H := Option.bind_eq_some_iff.mp H
        obtain ⟨t183, A150, H⟩ := H
        (try dsimp only at H)
        have A15 := Aside0.mk A150
        clear A150
        by_cases c16 : t183 = true
        ·subst c16
         have H1 : ((falls9.f k (⟨#[45, 48]⟩ : ByteArray) 6).bind fun t184 => (if t184 = true then ((falls9.f k (⟨#[48, 47, 51]⟩ : ByteArray) 6).bind fun t185 => (if t185 = true then ((falls9.f k (⟨#[49, 47, 48]⟩ : ByteArray) 6).bind fun t186 => (if t186 = true then ((falls9.f k (⟨#[48, 49, 47, 50]⟩ : ByteArray) 19).bind fun t187 => (if t187 = true then ((falls9.f k (⟨#[49, 47]⟩ : ByteArray) 19).bind fun t188 => (if t188 = true then ((falls9.f k (⟨#[45, 47, 50]⟩ : ByteArray) 19).bind fun t189 => (if t189 = true then ((falls9.f k (⟨#[49, 47, 45, 50]⟩ : ByteArray) 19).bind fun t190 => (if t190 = true then ((falls9.f k (⟨#[43, 49]⟩ : ByteArray) 19).bind fun t191 => (some t191)) else (none))) else (none))) else (none))) else (none))) else (none))) else (none))) else (none))) = some r := by rw [if_pos rfl] at H; exact H
         clear H
         have H := H1
         clear H1
         replace H := Option.bind_eq_some_iff.mp H
         obtain ⟨t184, A170, H⟩ := H
         (try dsimp only at H)
         have A17 := Aside0.mk A170
         clear A170
         by_cases c18 : t184 = true
         ·subst c18
          have H1 : ((falls9.f k (⟨#[48, 47, 51]⟩ : ByteArray) 6).bind fun t185 => (if t185 = true then ((falls9.f k (⟨#[49, 47, 48]⟩ : ByteArray) 6).bind fun t186 => (if t186 = true then ((falls9.f k (⟨#[48, 49, 47, 50]⟩ : ByteArray) 19).bind fun t187 => (if t187 = true then ((falls9.f k (⟨#[49, 47]⟩ : ByteArray) 19).bind fun t188 => (if t188 = true then ((falls9.f k (⟨#[45, 47, 50]⟩ : ByteArray) 19).bind fun t189 => (if t189 = true then ((falls9.f k (⟨#[49, 47, 45, 50]⟩ : ByteArray) 19).bind fun t190 => (if t190 = true then ((falls9.f k (⟨#[43, 49]⟩ : ByteArray) 19).bind fun t191 => (some t191)) else (none))) else (none))) else (none))) else (none))) else (none))) else (none))) = some r := by rw [if_pos rfl] at H; exact H
          clear H
          have H := H1
          clear H1
          replace H := Option.bind_eq_some_iff.mp H
          obtain ⟨t185, A190, H⟩ := H
          (try dsimp only at H)
          have A19 := Aside0.mk A190
          clear A190
          by_cases c20 : t185 = true
          ·subst c20
           have H1 : ((falls9.f k (⟨#[49, 47, 48]⟩ : ByteArray) 6).bind fun t186 => (if t186 = true then ((falls9.f k (⟨#[48, 49, 47, 50]⟩ : ByteArray) 19).bind fun t187 => (if t187 = true then ((falls9.f k (⟨#[49, 47]⟩ : ByteArray) 19).bind fun t188 => (if t188 = true then ((falls9.f k (⟨#[45, 47, 50]⟩ : ByteArray) 19).bind fun t189 => (if t189 = true then ((falls9.f k (⟨#[49, 47, 45, 50]⟩ : ByteArray) 19).bind fun t190 => (if t190 = true then ((falls9.f k (⟨#[43, 49]⟩ : ByteArray) 19).bind fun t191 => (some t191)) else (none))) else (none))) else (none))) else (none))) else (none))) = some r := by rw [if_pos rfl] at H; exact H
           clear H
           have H := H1
           clear H1
           replace H := Option.bind_eq_some_iff.mp H
           obtain ⟨t186, A210, H⟩ := H
           (try dsimp only at H)
           have A21 := Aside0.mk A210
           clear A210
           by_cases c22 : t186 = true
           ·subst c22
            have H1 : ((falls9.f k (⟨#[48, 49, 47, 50]⟩ : ByteArray) 19).bind fun t187 => (if t187 = true then ((falls9.f k (⟨#[49, 47]⟩ : ByteArray) 19).bind fun t188 => (if t188 = true then ((falls9.f k (⟨#[45, 47, 50]⟩ : ByteArray) 19).bind fun t189 => (if t189 = true then ((falls9.f k (⟨#[49, 47, 45, 50]⟩ : ByteArray) 19).bind fun t190 => (if t190 = true then ((falls9.f k (⟨#[43, 49]⟩ : ByteArray) 19).bind fun t191 => (some t191)) else (none))) else (none))) else (none))) else (none))) = some r := by rw [if_pos rfl] at H; exact H
            clear H
            have H := H1
            clear H1
            replace H := Option.bind_eq_some_iff.mp H
            obtain ⟨t187, A230, H⟩ := H
            (try dsimp only at H)
            have A23 := Aside0.mk A230
            clear A230
            by_cases c24 : t187 = true
            ·subst c24
             have H1 : ((falls9.f k (⟨#[49, 47]⟩ : ByteArray) 19).bind fun t188 => (if t188 = true then ((falls9.f k (⟨#[45, 47, 50]⟩ : ByteArray) 19).bind fun t189 => (if t189 = true then ((falls9.f k (⟨#[49, 47, 45, 50]⟩ : ByteArray) 19).bind fun t190 => (if t190 = true then ((falls9.f k (⟨#[43, 49]⟩ : ByteArray) 19).bind fun t191 => (some t191)) else (none))) else (none))) else (none))) = some r := by rw [if_pos rfl] at H; exact H
             clear H
             have H := H1
             clear H1
             replace H := Option.bind_eq_some_iff.mp H
             obtain ⟨t188, A250, H⟩ := H
             (try dsimp only at H)
             have A25 := Aside0.mk A250
             clear A250
             by_cases c26 : t188 = true
             ·subst c26
              have H1 : ((falls9.f k (⟨#[45, 47, 50]⟩ : ByteArray) 19).bind fun t189 => (if t189 = true then ((falls9.f k (⟨#[49, 47, 45, 50]⟩ : ByteArray) 19).bind fun t190 => (if t190 = true then ((falls9.f k (⟨#[43, 49]⟩ : ByteArray) 19).bind fun t191 => (some t191)) else (none))) else (none))) = some r := by rw [if_pos rfl] at H; exact H
              clear H
              have H := H1
              clear H1
              replace H := Option.bind_eq_some_iff.mp H
              obtain ⟨t189, A270, H⟩ := H
              (try dsimp only at H)
              have A27 := Aside0.mk A270
              clear A270
              by_cases c28 : t189 = true
              ·subst c28
               have H1 : ((falls9.f k (⟨#[49, 47, 45, 50]⟩ : ByteArray) 19).bind fun t190 => (if t190 = true then ((falls9.f k (⟨#[43, 49]⟩ : ByteArray) 19).bind fun t191 => (some t191)) else (none))) = some r := by rw [if_pos rfl] at H; exact H
               clear H
               have H := H1
               clear H1
               replace H := Option.bind_eq_some_iff.mp H
               obtain ⟨t190, A290, H⟩ := H
               (try dsimp only at H)
               have A29 := Aside0.mk A290
               clear A290
               by_cases c30 : t190 = true
               ·subst c30
                have H1 : ((falls9.f k (⟨#[43, 49]⟩ : ByteArray) 19).bind fun t191 => (some t191)) = some r := by rw [if_pos rfl] at H; exact H
                clear H
                have H := H1
                clear H1
                replace H := Option.bind_eq_some_iff.mp H
                obtain ⟨t191, A310, H⟩ := H
                replace H : (some t191) = some r := H
                have A31 := Aside0.mk A310
                clear A310
                obtain rfl := Option.some.inj H
                go_enter Tryz.func15, Tryz.ntmps15
                go_wp2_with (first | ((with_reducible refine gC9 (f := 12) rfl ?_); refine goesL_ (some 8) rfl rfl Tryz.func12 (by kernel_rfl) rfl #[.string (⟨#[48, 48, 55]⟩ : ByteArray)] rfl (by (try simp only [List.map_toArray, List.map_cons, List.map_nil]); first | done | rfl | (simp only [List.length_drop, List.length_take]; rfl)) ?_; (with_reducible refine (digits_ParseNat.calls (⟨#[48, 48, 55]⟩ : ByteArray) t152 t153 _ A1.out).mono ?_); rintro e w32 ⟨v154, rfl, ho0, hb⟩; refine ⟨_, rfl, ?_⟩; have n0_ := Aside0.mk (Kd.rL9 ho0 (bZ9 (by repeat (first | (with_reducible first | exact HB.out | apply bA9 | apply bN9 | apply bD9) | exact HB.out)))); have n1_ := Aside0.mk (bT9 (by repeat (first | (with_reducible first | exact HB.out | apply bA9 | apply bN9 | apply bD9) | exact HB.out)) hb); clear HB; have HO155 := n0_; have HB := n1_; clear n0_ n1_; (try clear hb); (try clear hb2); (try clear hk); (try clear hi); (try clear ho0)) | ((with_reducible refine gC9 (f := 12) rfl ?_); refine goesL_ (some 12) rfl rfl Tryz.func12 (by kernel_rfl) rfl #[.string (⟨#[49, 120]⟩ : ByteArray)] rfl (by (try simp only [List.map_toArray, List.map_cons, List.map_nil]); first | done | rfl | (simp only [List.length_drop, List.length_take]; rfl)) ?_; (with_reducible refine (digits_ParseNat.calls (⟨#[49, 120]⟩ : ByteArray) t156 t157 _ A2.out).mono ?_); rintro e w33 ⟨v158, rfl, ho0, hb⟩; refine ⟨_, rfl, ?_⟩; have n0_ := Aside0.mk (Kd.R_elder' (by (with_reducible repeat (first | apply Kd.rA9 | apply Kd.rN9 | apply Kd.rD9)); exact HO155.out) (Kd.R_base ho0) hb); have n1_ := Aside0.mk (Kd.rL9 (Kd.R_new' ho0 (Kd.R_lt (by (with_reducible repeat (first | apply Kd.rA9 | apply Kd.rN9 | apply Kd.rD9)); exact HO155.out))) (bZ9 (by repeat (first | (with_reducible first | exact HB.out | apply bA9 | apply bN9 | apply bD9) | exact HB.out)))); have n2_ := Aside0.mk (bT9 (by repeat (first | (with_reducible first | exact HB.out | apply bA9 | apply bN9 | apply bD9) | exact HB.out)) hb); clear HO155; clear HB; have HO155 := n0_; have HO159 := n1_; have HB := n2_; clear n0_ n1_ n2_; (try clear hb); (try clear hb2); (try clear hk); (try clear hi); (try clear ho0)) | ((with_reducible refine gC9 (f := 12) rfl ?_); refine goesL_ (some 16) rfl rfl Tryz.func12 (by kernel_rfl) rfl #[.string (⟨#[]⟩ : ByteArray)] rfl (by (try simp only [List.map_toArray, List.map_cons, List.map_nil]); first | done | rfl | (simp only [List.length_drop, List.length_take]; rfl)) ?_; (with_reducible refine (digits_ParseNat.calls (⟨#[]⟩ : ByteArray) t160 t161 _ A3.out).mono ?_); rintro e w34 ⟨v162, rfl, ho0, hb⟩; refine ⟨_, rfl, ?_⟩; have n0_ := Aside0.mk (Kd.R_elder' (by (with_reducible repeat (first | apply Kd.rA9 | apply Kd.rN9 | apply Kd.rD9)); exact HO155.out) (Kd.R_base ho0) hb); have n1_ := Aside0.mk (Kd.R_elder' (by (with_reducible repeat (first | apply Kd.rA9 | apply Kd.rN9 | apply Kd.rD9)); exact HO159.out) (Kd.R_base ho0) hb); have n2_ := Aside0.mk (Kd.rL9 (Kd.R_new' (Kd.R_new' ho0 (Kd.R_lt (by (with_reducible repeat (first | apply Kd.rA9 | apply Kd.rN9 | apply Kd.rD9)); exact HO155.out))) (Kd.R_lt (by (with_reducible repeat (first | apply Kd.rA9 | apply Kd.rN9 | apply Kd.rD9)); exact HO159.out))) (bZ9 (by repeat (first | (with_reducible first | exact HB.out | apply bA9 | apply bN9 | apply bD9) | exact HB.out)))); have n3_ := Aside0.mk (bT9 (by repeat (first | (with_reducible first | exact HB.out | apply bA9 | apply bN9 | apply bD9) | exact HB.out)) hb); clear HO155; clear HO159; clear HB; have HO155 := n0_; have HO159 := n1_; have HO163 := n2_; have HB := n3_; clear n0_ n1_ n2_ n3_; (try clear hb); (try clear hb2); (try clear hk); (try clear hi); (try clear ho0)) | ((with_reducible refine gD9 (N := 19) rfl ?_); (try (refine gate_guard (by rfl) ?_; dsimp only)); refine Kd.R_lit (Kd.int .u32) _ 56 ?hg (N := 19) ?hd (xs := ([0, 1] : List Int)) (inner := [.int .u32 0, .int .u32 1]) (ok := fun _ => True) (okp := fun _ => True) ?hr ?hp (fun _ hk => hk) trivial (Below.refl _ _) (Nat.le_refl _) (by simp) ?_; (case hd => rfl); (case hg => rfl); (case hr => first | (go_simp; done) | (go_simp; rfl)); (case hp => exact (Reps.one (show Kd.M (Kd.int .u32) _ _ _ 0 [.int .u32 0] from rfl) (Reps.one (show Kd.M (Kd.int .u32) _ _ _ 1 [.int .u32 1] from rfl) (Reps.none _ _)))); intro v165 w35 ho36 hb hg_ hnew_; clear hg_ hnew_; (first | rw [← Ny164.out] at ho36 | (simp only [Int.reduceToNat] at ho36; rw [← Ny164.out] at ho36)); have n0_ := Aside0.mk (Kd.R_elder' (by (with_reducible repeat (first | apply Kd.rA9 | apply Kd.rN9 | apply Kd.rD9)); exact HO155.out) (Kd.R_base ho36) hb); have n1_ := Aside0.mk (Kd.R_elder' (by (with_reducible repeat (first | apply Kd.rA9 | apply Kd.rN9 | apply Kd.rD9)); exact HO159.out) (Kd.R_base ho36) hb); have n2_ := Aside0.mk (Kd.R_elder' (by (with_reducible repeat (first | apply Kd.rA9 | apply Kd.rN9 | apply Kd.rD9)); exact HO163.out) (Kd.R_base ho36) hb); have n3_ := Aside0.mk (Kd.rL9 (Kd.R_new' (Kd.R_new' (Kd.R_new' ho36 (Kd.R_lt (by (with_reducible repeat (first | apply Kd.rA9 | apply Kd.rN9 | apply Kd.rD9)); exact HO155.out))) (Kd.R_lt (by (with_reducible repeat (first | apply Kd.rA9 | apply Kd.rN9 | apply Kd.rD9)); exact HO159.out))) (Kd.R_lt (by (with_reducible repeat (first | apply Kd.rA9 | apply Kd.rN9 | apply Kd.rD9)); exact HO163.out))) (bZ9 (by repeat (first | (with_reducible first | exact HB.out | apply bA9 | apply bN9 | apply bD9) | exact HB.out)))); have n4_ := Aside0.mk (bT9 (by repeat (first | (with_reducible first | exact HB.out | apply bA9 | apply bN9 | apply bD9) | exact HB.out)) hb); clear HO155; clear HO159; clear HO163; clear HB; have HO155 := n0_; have HO159 := n1_; have HO163 := n2_; have HO166 := n3_; have HB := n4_; clear n0_ n1_ n2_ n3_ n4_; clear hb ho36; obtain ⟨Ao37, co37, eo37⟩ := Kd.rS9 HO166.out; subst eo37) | ((with_reducible refine gC9 (f := 23) rfl ?_); refine goesL_ (some 20) rfl rfl Tryz.func23 (by kernel_rfl) rfl #[.slice Ao37 y164.length co37] rfl (by (try simp only [List.map_toArray, List.map_cons, List.map_nil]); first | done | rfl | (simp only [List.length_drop, List.length_take]; rfl)) ?_; (with_reducible refine (digits_Nat.calls _ _ y164 t167 _ (PowTab.below HT.out (by repeat (first | (with_reducible first | exact HB.out | apply bA9 | apply bN9 | apply bD9) | exact HB.out))) ?side1 ?side2 A4.out).mono ?_); (case side1 => repeat (first | exact (Kd.rR9 HO166.out).2.2 | (with_reducible refine Kd.cA9 ?_ _) | (with_reducible refine Kd.cN9 ?_ _) | (with_reducible refine Kd.cD9 ?_))); (case side2 => exact (Kd.rR9 HO166.out).2.1); rintro e w38 ⟨rfl, hb⟩; refine ⟨_, rfl, ?_⟩; have n0_ := Aside0.mk (Kd.rB9 (by (with_reducible repeat (first | apply Kd.rA9 | apply Kd.rN9 | apply Kd.rD9)); exact HO155.out) hb); have n1_ := Aside0.mk (Kd.rB9 (by (with_reducible repeat (first | apply Kd.rA9 | apply Kd.rN9 | apply Kd.rD9)); exact HO159.out) hb); have n2_ := Aside0.mk (Kd.rB9 (by (with_reducible repeat (first | apply Kd.rA9 | apply Kd.rN9 | apply Kd.rD9)); exact HO163.out) hb); have n3_ := Aside0.mk (Kd.rB9 (by (with_reducible repeat (first | apply Kd.rA9 | apply Kd.rN9 | apply Kd.rD9)); exact HO166.out) hb); have n4_ := Aside0.mk (bT9 (by repeat (first | (with_reducible first | exact HB.out | apply bA9 | apply bN9 | apply bD9) | exact HB.out)) hb); clear HO155; clear HO159; clear HO163; clear HO166; clear HB; have HO155 := n0_; have HO159 := n1_; have HO163 := n2_; have HO166 := n3_; have HB := n4_; clear n0_ n1_ n2_ n3_ n4_; (try clear hb); (try clear hb2); (try clear hk); (try clear hi)) | ((with_reducible refine gD9 (N := 23) rfl ?_); (try (refine gate_guard (by rfl) ?_; dsimp only)); refine Kd.R_lit (Kd.int .u32) _ 56 ?hg (N := 23) ?hd (xs := ([3] : List Int)) (inner := [.int .u32 3]) (ok := fun _ => True) (okp := fun _ => True) ?hr ?hp (fun _ hk => hk) trivial (Below.refl _ _) (Nat.le_refl _) (by simp) ?_; (case hd => rfl); (case hg => rfl); (case hr => first | (go_simp; done) | (go_simp; rfl)); (case hp => exact (Reps.one (show Kd.M (Kd.int .u32) _ _ _ 3 [.int .u32 3] from rfl) (Reps.none _ _))); intro v169 w39 ho40 hb hg_ hnew_; clear hg_ hnew_; (first | rw [← Ny168.out] at ho40 | (simp only [Int.reduceToNat] at ho40; rw [← Ny168.out] at ho40)); have n0_ := Aside0.mk (Kd.R_elder' (by (with_reducible repeat (first | apply Kd.rA9 | apply Kd.rN9 | apply Kd.rD9)); exact HO155.out) (Kd.R_base ho40) hb); have n1_ := Aside0.mk (Kd.R_elder' (by (with_reducible repeat (first | apply Kd.rA9 | apply Kd.rN9 | apply Kd.rD9)); exact HO159.out) (Kd.R_base ho40) hb); have n2_ := Aside0.mk (Kd.R_elder' (by (with_reducible repeat (first | apply Kd.rA9 | apply Kd.rN9 | apply Kd.rD9)); exact HO163.out) (Kd.R_base ho40) hb); have n3_ := Aside0.mk (Kd.R_elder' (by (with_reducible repeat (first | apply Kd.rA9 | apply Kd.rN9 | apply Kd.rD9)); exact HO166.out) (Kd.R_base ho40) hb); have n4_ := Aside0.mk (Kd.rL9 (Kd.R_new' (Kd.R_new' (Kd.R_new' (Kd.R_new' ho40 (Kd.R_lt (by (with_reducible repeat (first | apply Kd.rA9 | apply Kd.rN9 | apply Kd.rD9)); exact HO155.out))) (Kd.R_lt (by (with_reducible repeat (first | apply Kd.rA9 | apply Kd.rN9 | apply Kd.rD9)); exact HO159.out))) (Kd.R_lt (by (with_reducible repeat (first | apply Kd.rA9 | apply Kd.rN9 | apply Kd.rD9)); exact HO163.out))) (Kd.R_lt (by (with_reducible repeat (first | apply Kd.rA9 | apply Kd.rN9 | apply Kd.rD9)); exact HO166.out))) (bZ9 (by repeat (first | (with_reducible first | exact HB.out | apply bA9 | apply bN9 | apply bD9) | exact HB.out)))); have n5_ := Aside0.mk (bT9 (by repeat (first | (with_reducible first | exact HB.out | apply bA9 | apply bN9 | apply bD9) | exact HB.out)) hb); clear HO155; clear HO159; clear HO163; clear HO166; clear HB; have HO155 := n0_; have HO159 := n1_; have HO163 := n2_; have HO166 := n3_; have HO170 := n4_; have HB := n5_; clear n0_ n1_ n2_ n3_ n4_ n5_; clear hb ho40) | ((with_reducible refine gD9 (N := 24) rfl ?_); (try (refine gate_guard (by rfl) ?_; dsimp only)); refine Kd.R_lit (Kd.int .u32) _ 56 ?hg (N := 24) ?hd (xs := ([4] : List Int)) (inner := [.int .u32 4]) (ok := fun _ => True) (okp := fun _ => True) ?hr ?hp (fun _ hk => hk) trivial (Below.refl _ _) (Nat.le_refl _) (by simp) ?_; (case hd => rfl); (case hg => rfl); (case hr => first | (go_simp; done) | (go_simp; rfl)); (case hp => exact (Reps.one (show Kd.M (Kd.int .u32) _ _ _ 4 [.int .u32 4] from rfl) (Reps.none _ _))); intro v172 w41 ho42 hb hg_ hnew_; clear hg_ hnew_; (first | rw [← Ny171.out] at ho42 | (simp only [Int.reduceToNat] at ho42; rw [← Ny171.out] at ho42)); have n0_ := Aside0.mk (Kd.R_elder' (by (with_reducible repeat (first | apply Kd.rA9 | apply Kd.rN9 | apply Kd.rD9)); exact HO155.out) (Kd.R_base ho42) hb); have n1_ := Aside0.mk (Kd.R_elder' (by (with_reducible repeat (first | apply Kd.rA9 | apply Kd.rN9 | apply Kd.rD9)); exact HO159.out) (Kd.R_base ho42) hb); have n2_ := Aside0.mk (Kd.R_elder' (by (with_reducible repeat (first | apply Kd.rA9 | apply Kd.rN9 | apply Kd.rD9)); exact HO163.out) (Kd.R_base ho42) hb); have n3_ := Aside0.mk (Kd.R_elder' (by (with_reducible repeat (first | apply Kd.rA9 | apply Kd.rN9 | apply Kd.rD9)); exact HO166.out) (Kd.R_base ho42) hb); have n4_ := Aside0.mk (Kd.R_elder' (by (with_reducible repeat (first | apply Kd.rA9 | apply Kd.rN9 | apply Kd.rD9)); exact HO170.out) (Kd.R_base ho42) hb); have n5_ := Aside0.mk (Kd.rL9 (Kd.R_new' (Kd.R_new' (Kd.R_new' (Kd.R_new' (Kd.R_new' ho42 (Kd.R_lt (by (with_reducible repeat (first | apply Kd.rA9 | apply Kd.rN9 | apply Kd.rD9)); exact HO155.out))) (Kd.R_lt (by (with_reducible repeat (first | apply Kd.rA9 | apply Kd.rN9 | apply Kd.rD9)); exact HO159.out))) (Kd.R_lt (by (with_reducible repeat (first | apply Kd.rA9 | apply Kd.rN9 | apply Kd.rD9)); exact HO163.out))) (Kd.R_lt (by (with_reducible repeat (first | apply Kd.rA9 | apply Kd.rN9 | apply Kd.rD9)); exact HO166.out))) (Kd.R_lt (by (with_reducible repeat (first | apply Kd.rA9 | apply Kd.rN9 | apply Kd.rD9)); exact HO170.out))) (bZ9 (by repeat (first | (with_reducible first | exact HB.out | apply bA9 | apply bN9 | apply bD9) | exact HB.out)))); have n6_ := Aside0.mk (bT9 (by repeat (first | (with_reducible first | exact HB.out | apply bA9 | apply bN9 | apply bD9) | exact HB.out)) hb); clear HO155; clear HO159; clear HO163; clear HO166; clear HO170; clear HB; have HO155 := n0_; have HO159 := n1_; have HO163 := n2_; have HO166 := n3_; have HO170 := n4_; have HO173 := n5_; have HB := n6_; clear n0_ n1_ n2_ n3_ n4_ n5_ n6_; clear hb ho42; obtain ⟨Ao43, co43, eo43⟩ := Kd.rS9 HO173.out; subst eo43; obtain ⟨Ao44, co44, eo44⟩ := Kd.rS9 HO170.out; subst eo44) | (go_at_call 16; (with_reducible refine (digits_Rat.calls k true _ _ y168 _ _ y171 t174 _ (PowTab.below HT.out (by repeat (first | (with_reducible first | exact HB.out | apply bA9 | apply bN9 | apply bD9) | exact HB.out))) ?side1 ?side2 ?side3 ?side4 A6.out).mono ?_); (case side1 => repeat (first | exact (Kd.rR9 HO170.out).2.2 | (with_reducible refine Kd.cA9 ?_ _) | (with_reducible refine Kd.cN9 ?_ _) | (with_reducible refine Kd.cD9 ?_))); (case side2 => exact (Kd.rR9 HO170.out).2.1); (case side3 => repeat (first | exact (Kd.rR9 HO173.out).2.2 | (with_reducible refine Kd.cA9 ?_ _) | (with_reducible refine Kd.cN9 ?_ _) | (with_reducible refine Kd.cD9 ?_))); (case side4 => exact (Kd.rR9 HO173.out).2.1); rintro e w45 ⟨rfl, hb⟩; have n0_ := Aside0.mk (Kd.rB9 (by (with_reducible repeat (first | apply Kd.rA9 | apply Kd.rN9 | apply Kd.rD9)); exact HO155.out) hb); have n1_ := Aside0.mk (Kd.rB9 (by (with_reducible repeat (first | apply Kd.rA9 | apply Kd.rN9 | apply Kd.rD9)); exact HO159.out) hb); have n2_ := Aside0.mk (Kd.rB9 (by (with_reducible repeat (first | apply Kd.rA9 | apply Kd.rN9 | apply Kd.rD9)); exact HO163.out) hb); have n3_ := Aside0.mk (Kd.rB9 (by (with_reducible repeat (first | apply Kd.rA9 | apply Kd.rN9 | apply Kd.rD9)); exact HO166.out) hb); have n4_ := Aside0.mk (Kd.rB9 (by (with_reducible repeat (first | apply Kd.rA9 | apply Kd.rN9 | apply Kd.rD9)); exact HO170.out) hb); have n5_ := Aside0.mk (Kd.rB9 (by (with_reducible repeat (first | apply Kd.rA9 | apply Kd.rN9 | apply Kd.rD9)); exact HO173.out) hb); have n6_ := Aside0.mk (bT9 (by repeat (first | (with_reducible first | exact HB.out | apply bA9 | apply bN9 | apply bD9) | exact HB.out)) hb); clear HO155; clear HO159; clear HO163; clear HO166; clear HO170; clear HO173; clear HB; have HO155 := n0_; have HO159 := n1_; have HO163 := n2_; have HO166 := n3_; have HO170 := n4_; have HO173 := n5_; have HB := n6_; clear n0_ n1_ n2_ n3_ n4_ n5_ n6_; (try clear hb); (try clear hb2); (try clear hk); (try clear hi)) | ((with_reducible refine gD9 (N := 30) rfl ?_); (try (refine gate_guard (by rfl) ?_; dsimp only)); refine Kd.R_lit (Kd.int .u32) _ 56 ?hg (N := 30) ?hd (xs := ([7] : List Int)) (inner := [.int .u32 7]) (ok := fun _ => True) (okp := fun _ => True) ?hr ?hp (fun _ hk => hk) trivial (Below.refl _ _) (Nat.le_refl _) (by simp) ?_; (case hd => rfl); (case hg => rfl); (case hr => first | (go_simp; done) | (go_simp; rfl)); (case hp => exact (Reps.one (show Kd.M (Kd.int .u32) _ _ _ 7 [.int .u32 7] from rfl) (Reps.none _ _))); intro v176 w46 ho47 hb hg_ hnew_; clear hg_ hnew_; (first | rw [← Ny175.out] at ho47 | (simp only [Int.reduceToNat] at ho47; rw [← Ny175.out] at ho47)); have n0_ := Aside0.mk (Kd.R_elder' (by (with_reducible repeat (first | apply Kd.rA9 | apply Kd.rN9 | apply Kd.rD9)); exact HO155.out) (Kd.R_base ho47) hb); have n1_ := Aside0.mk (Kd.R_elder' (by (with_reducible repeat (first | apply Kd.rA9 | apply Kd.rN9 | apply Kd.rD9)); exact HO159.out) (Kd.R_base ho47) hb); have n2_ := Aside0.mk (Kd.R_elder' (by (with_reducible repeat (first | apply Kd.rA9 | apply Kd.rN9 | apply Kd.rD9)); exact HO163.out) (Kd.R_base ho47) hb); have n3_ := Aside0.mk (Kd.R_elder' (by (with_reducible repeat (first | apply Kd.rA9 | apply Kd.rN9 | apply Kd.rD9)); exact HO166.out) (Kd.R_base ho47) hb); have n4_ := Aside0.mk (Kd.R_elder' (by (with_reducible repeat (first | apply Kd.rA9 | apply Kd.rN9 | apply Kd.rD9)); exact HO170.out) (Kd.R_base ho47) hb); have n5_ := Aside0.mk (Kd.R_elder' (by (with_reducible repeat (first | apply Kd.rA9 | apply Kd.rN9 | apply Kd.rD9)); exact HO173.out) (Kd.R_base ho47) hb); have n6_ := Aside0.mk (Kd.rL9 (Kd.R_new' (Kd.R_new' (Kd.R_new' (Kd.R_new' (Kd.R_new' (Kd.R_new' ho47 (Kd.R_lt (by (with_reducible repeat (first | apply Kd.rA9 | apply Kd.rN9 | apply Kd.rD9)); exact HO155.out))) (Kd.R_lt (by (with_reducible repeat (first | apply Kd.rA9 | apply Kd.rN9 | apply Kd.rD9)); exact HO159.out))) (Kd.R_lt (by (with_reducible repeat (first | apply Kd.rA9 | apply Kd.rN9 | apply Kd.rD9)); exact HO163.out))) (Kd.R_lt (by (with_reducible repeat (first | apply Kd.rA9 | apply Kd.rN9 | apply Kd.rD9)); exact HO166.out))) (Kd.R_lt (by (with_reducible repeat (first | apply Kd.rA9 | apply Kd.rN9 | apply Kd.rD9)); exact HO170.out))) (Kd.R_lt (by (with_reducible repeat (first | apply Kd.rA9 | apply Kd.rN9 | apply Kd.rD9)); exact HO173.out))) (bZ9 (by repeat (first | (with_reducible first | exact HB.out | apply bA9 | apply bN9 | apply bD9) | exact HB.out)))); have n7_ := Aside0.mk (bT9 (by repeat (first | (with_reducible first | exact HB.out | apply bA9 | apply bN9 | apply bD9) | exact HB.out)) hb); clear HO155; clear HO159; clear HO163; clear HO166; clear HO170; clear HO173; clear HB; have HO155 := n0_; have HO159 := n1_; have HO163 := n2_; have HO166 := n3_; have HO170 := n4_; have HO173 := n5_; have HO177 := n6_; have HB := n7_; clear n0_ n1_ n2_ n3_ n4_ n5_ n6_ n7_; clear hb ho47) | ((with_reducible refine gD9 (N := 31) rfl ?_); (try (refine gate_guard (by rfl) ?_; dsimp only)); refine Kd.R_lit (Kd.int .u32) _ 56 ?hg (N := 31) ?hd (xs := ([1] : List Int)) (inner := [.int .u32 1]) (ok := fun _ => True) (okp := fun _ => True) ?hr ?hp (fun _ hk => hk) trivial (Below.refl _ _) (Nat.le_refl _) (by simp) ?_; (case hd => rfl); (case hg => rfl); (case hr => first | (go_simp; done) | (go_simp; rfl)); (case hp => exact (Reps.one (show Kd.M (Kd.int .u32) _ _ _ 1 [.int .u32 1] from rfl) (Reps.none _ _))); intro v179 w48 ho49 hb hg_ hnew_; clear hg_ hnew_; (first | rw [← Ny178.out] at ho49 | (simp only [Int.reduceToNat] at ho49; rw [← Ny178.out] at ho49)); have n0_ := Aside0.mk (Kd.R_elder' (by (with_reducible repeat (first | apply Kd.rA9 | apply Kd.rN9 | apply Kd.rD9)); exact HO155.out) (Kd.R_base ho49) hb); have n1_ := Aside0.mk (Kd.R_elder' (by (with_reducible repeat (first | apply Kd.rA9 | apply Kd.rN9 | apply Kd.rD9)); exact HO159.out) (Kd.R_base ho49) hb); have n2_ := Aside0.mk (Kd.R_elder' (by (with_reducible repeat (first | apply Kd.rA9 | apply Kd.rN9 | apply Kd.rD9)); exact HO163.out) (Kd.R_base ho49) hb); have n3_ := Aside0.mk (Kd.R_elder' (by (with_reducible repeat (first | apply Kd.rA9 | apply Kd.rN9 | apply Kd.rD9)); exact HO166.out) (Kd.R_base ho49) hb); have n4_ := Aside0.mk (Kd.R_elder' (by (with_reducible repeat (first | apply Kd.rA9 | apply Kd.rN9 | apply Kd.rD9)); exact HO170.out) (Kd.R_base ho49) hb); have n5_ := Aside0.mk (Kd.R_elder' (by (with_reducible repeat (first | apply Kd.rA9 | apply Kd.rN9 | apply Kd.rD9)); exact HO173.out) (Kd.R_base ho49) hb); have n6_ := Aside0.mk (Kd.R_elder' (by (with_reducible repeat (first | apply Kd.rA9 | apply Kd.rN9 | apply Kd.rD9)); exact HO177.out) (Kd.R_base ho49) hb); have n7_ := Aside0.mk (Kd.rL9 (Kd.R_new' (Kd.R_new' (Kd.R_new' (Kd.R_new' (Kd.R_new' (Kd.R_new' (Kd.R_new' ho49 (Kd.R_lt (by (with_reducible repeat (first | apply Kd.rA9 | apply Kd.rN9 | apply Kd.rD9)); exact HO155.out))) (Kd.R_lt (by (with_reducible repeat (first | apply Kd.rA9 | apply Kd.rN9 | apply Kd.rD9)); exact HO159.out))) (Kd.R_lt (by (with_reducible repeat (first | apply Kd.rA9 | apply Kd.rN9 | apply Kd.rD9)); exact HO163.out))) (Kd.R_lt (by (with_reducible repeat (first | apply Kd.rA9 | apply Kd.rN9 | apply Kd.rD9)); exact HO166.out))) (Kd.R_lt (by (with_reducible repeat (first | apply Kd.rA9 | apply Kd.rN9 | apply Kd.rD9)); exact HO170.out))) (Kd.R_lt (by (with_reducible repeat (first | apply Kd.rA9 | apply Kd.rN9 | apply Kd.rD9)); exact HO173.out))) (Kd.R_lt (by (with_reducible repeat (first | apply Kd.rA9 | apply Kd.rN9 | apply Kd.rD9)); exact HO177.out))) (bZ9 (by repeat (first | (with_reducible first | exact HB.out | apply bA9 | apply bN9 | apply bD9) | exact HB.out)))); have n8_ := Aside0.mk (bT9 (by repeat (first | (with_reducible first | exact HB.out | apply bA9 | apply bN9 | apply bD9) | exact HB.out)) hb); clear HO155; clear HO159; clear HO163; clear HO166; clear HO170; clear HO173; clear HO177; clear HB; have HO155 := n0_; have HO159 := n1_; have HO163 := n2_; have HO166 := n3_; have HO170 := n4_; have HO173 := n5_; have HO177 := n6_; have HO180 := n7_; have HB := n8_; clear n0_ n1_ n2_ n3_ n4_ n5_ n6_ n7_ n8_; clear hb ho49; obtain ⟨Ao50, co50, eo50⟩ := Kd.rS9 HO180.out; subst eo50; obtain ⟨Ao51, co51, eo51⟩ := Kd.rS9 HO177.out; subst eo51) | (go_at_call 16; (with_reducible refine (digits_Rat.calls k false _ _ y175 _ _ y178 t181 _ (PowTab.below HT.out (by repeat (first | (with_reducible first | exact HB.out | apply bA9 | apply bN9 | apply bD9) | exact HB.out))) ?side1 ?side2 ?side3 ?side4 A8.out).mono ?_); (case side1 => repeat (first | exact (Kd.rR9 HO177.out).2.2 | (with_reducible refine Kd.cA9 ?_ _) | (with_reducible refine Kd.cN9 ?_ _) | (with_reducible refine Kd.cD9 ?_))); (case side2 => exact (Kd.rR9 HO177.out).2.1); (case side3 => repeat (first | exact (Kd.rR9 HO180.out).2.2 | (with_reducible refine Kd.cA9 ?_ _) | (with_reducible refine Kd.cN9 ?_ _) | (with_reducible refine Kd.cD9 ?_))); (case side4 => exact (Kd.rR9 HO180.out).2.1); rintro e w52 ⟨rfl, hb⟩; have n0_ := Aside0.mk (Kd.rB9 (by (with_reducible repeat (first | apply Kd.rA9 | apply Kd.rN9 | apply Kd.rD9)); exact HO155.out) hb); have n1_ := Aside0.mk (Kd.rB9 (by (with_reducible repeat (first | apply Kd.rA9 | apply Kd.rN9 | apply Kd.rD9)); exact HO159.out) hb); have n2_ := Aside0.mk (Kd.rB9 (by (with_reducible repeat (first | apply Kd.rA9 | apply Kd.rN9 | apply Kd.rD9)); exact HO163.out) hb); have n3_ := Aside0.mk (Kd.rB9 (by (with_reducible repeat (first | apply Kd.rA9 | apply Kd.rN9 | apply Kd.rD9)); exact HO166.out) hb); have n4_ := Aside0.mk (Kd.rB9 (by (with_reducible repeat (first | apply Kd.rA9 | apply Kd.rN9 | apply Kd.rD9)); exact HO170.out) hb); have n5_ := Aside0.mk (Kd.rB9 (by (with_reducible repeat (first | apply Kd.rA9 | apply Kd.rN9 | apply Kd.rD9)); exact HO173.out) hb); have n6_ := Aside0.mk (Kd.rB9 (by (with_reducible repeat (first | apply Kd.rA9 | apply Kd.rN9 | apply Kd.rD9)); exact HO177.out) hb); have n7_ := Aside0.mk (Kd.rB9 (by (with_reducible repeat (first | apply Kd.rA9 | apply Kd.rN9 | apply Kd.rD9)); exact HO180.out) hb); have n8_ := Aside0.mk (bT9 (by repeat (first | (with_reducible first | exact HB.out | apply bA9 | apply bN9 | apply bD9) | exact HB.out)) hb); clear HO155; clear HO159; clear HO163; clear HO166; clear HO170; clear HO173; clear HO177; clear HO180; clear HB; have HO155 := n0_; have HO159 := n1_; have HO163 := n2_; have HO166 := n3_; have HO170 := n4_; have HO173 := n5_; have HO177 := n6_; have HO180 := n7_; have HB := n8_; clear n0_ n1_ n2_ n3_ n4_ n5_ n6_ n7_ n8_; (try clear hb); (try clear hb2); (try clear hk); (try clear hi)) | (go_at_call 21; (with_reducible refine (falls9.calls k (⟨#[50, 47, 52]⟩ : ByteArray) 6 true _ A13.out).mono ?_); rintro e w53 ⟨rfl, hb⟩; have n0_ := Aside0.mk (Kd.rB9 (by (with_reducible repeat (first | apply Kd.rA9 | apply Kd.rN9 | apply Kd.rD9)); exact HO155.out) hb); have n1_ := Aside0.mk (Kd.rB9 (by (with_reducible repeat (first | apply Kd.rA9 | apply Kd.rN9 | apply Kd.rD9)); exact HO159.out) hb); have n2_ := Aside0.mk (Kd.rB9 (by (with_reducible repeat (first | apply Kd.rA9 | apply Kd.rN9 | apply Kd.rD9)); exact HO163.out) hb); have n3_ := Aside0.mk (Kd.rB9 (by (with_reducible repeat (first | apply Kd.rA9 | apply Kd.rN9 | apply Kd.rD9)); exact HO166.out) hb); have n4_ := Aside0.mk (Kd.rB9 (by (with_reducible repeat (first | apply Kd.rA9 | apply Kd.rN9 | apply Kd.rD9)); exact HO170.out) hb); have n5_ := Aside0.mk (Kd.rB9 (by (with_reducible repeat (first | apply Kd.rA9 | apply Kd.rN9 | apply Kd.rD9)); exact HO173.out) hb); have n6_ := Aside0.mk (Kd.rB9 (by (with_reducible repeat (first | apply Kd.rA9 | apply Kd.rN9 | apply Kd.rD9)); exact HO177.out) hb); have n7_ := Aside0.mk (Kd.rB9 (by (with_reducible repeat (first | apply Kd.rA9 | apply Kd.rN9 | apply Kd.rD9)); exact HO180.out) hb); have n8_ := Aside0.mk (bT9 (by repeat (first | (with_reducible first | exact HB.out | apply bA9 | apply bN9 | apply bD9) | exact HB.out)) hb); clear HO155; clear HO159; clear HO163; clear HO166; clear HO170; clear HO173; clear HO177; clear HO180; clear HB; have HO155 := n0_; have HO159 := n1_; have HO163 := n2_; have HO166 := n3_; have HO170 := n4_; have HO173 := n5_; have HO177 := n6_; have HO180 := n7_; have HB := n8_; clear n0_ n1_ n2_ n3_ n4_ n5_ n6_ n7_ n8_; (try clear hb); (try clear hb2); (try clear hk); (try clear hi)) | (go_at_call 21; (with_reducible refine (falls9.calls k (⟨#[51, 47, 49]⟩ : ByteArray) 6 true _ A15.out).mono ?_); rintro e w54 ⟨rfl, hb⟩; have n0_ := Aside0.mk (Kd.rB9 (by (with_reducible repeat (first | apply Kd.rA9 | apply Kd.rN9 | apply Kd.rD9)); exact HO155.out) hb); have n1_ := Aside0.mk (Kd.rB9 (by (with_reducible repeat (first | apply Kd.rA9 | apply Kd.rN9 | apply Kd.rD9)); exact HO159.out) hb); have n2_ := Aside0.mk (Kd.rB9 (by (with_reducible repeat (first | apply Kd.rA9 | apply Kd.rN9 | apply Kd.rD9)); exact HO163.out) hb); have n3_ := Aside0.mk (Kd.rB9 (by (with_reducible repeat (first | apply Kd.rA9 | apply Kd.rN9 | apply Kd.rD9)); exact HO166.out) hb); have n4_ := Aside0.mk (Kd.rB9 (by (with_reducible repeat (first | apply Kd.rA9 | apply Kd.rN9 | apply Kd.rD9)); exact HO170.out) hb); have n5_ := Aside0.mk (Kd.rB9 (by (with_reducible repeat (first | apply Kd.rA9 | apply Kd.rN9 | apply Kd.rD9)); exact HO173.out) hb); have n6_ := Aside0.mk (Kd.rB9 (by (with_reducible repeat (first | apply Kd.rA9 | apply Kd.rN9 | apply Kd.rD9)); exact HO177.out) hb); have n7_ := Aside0.mk (Kd.rB9 (by (with_reducible repeat (first | apply Kd.rA9 | apply Kd.rN9 | apply Kd.rD9)); exact HO180.out) hb); have n8_ := Aside0.mk (bT9 (by repeat (first | (with_reducible first | exact HB.out | apply bA9 | apply bN9 | apply bD9) | exact HB.out)) hb); clear HO155; clear HO159; clear HO163; clear HO166; clear HO170; clear HO173; clear HO177; clear HO180; clear HB; have HO155 := n0_; have HO159 := n1_; have HO163 := n2_; have HO166 := n3_; have HO170 := n4_; have HO173 := n5_; have HO177 := n6_; have HO180 := n7_; have HB := n8_; clear n0_ n1_ n2_ n3_ n4_ n5_ n6_ n7_ n8_; (try clear hb); (try clear hb2); (try clear hk); (try clear hi)) | (go_at_call 21; (with_reducible refine (falls9.calls k (⟨#[45, 48]⟩ : ByteArray) 6 true _ A17.out).mono ?_); rintro e w55 ⟨rfl, hb⟩; have n0_ := Aside0.mk (Kd.rB9 (by (with_reducible repeat (first | apply Kd.rA9 | apply Kd.rN9 | apply Kd.rD9)); exact HO155.out) hb); have n1_ := Aside0.mk (Kd.rB9 (by (with_reducible repeat (first | apply Kd.rA9 | apply Kd.rN9 | apply Kd.rD9)); exact HO159.out) hb); have n2_ := Aside0.mk (Kd.rB9 (by (with_reducible repeat (first | apply Kd.rA9 | apply Kd.rN9 | apply Kd.rD9)); exact HO163.out) hb); have n3_ := Aside0.mk (Kd.rB9 (by (with_reducible repeat (first | apply Kd.rA9 | apply Kd.rN9 | apply Kd.rD9)); exact HO166.out) hb); have n4_ := Aside0.mk (Kd.rB9 (by (with_reducible repeat (first | apply Kd.rA9 | apply Kd.rN9 | apply Kd.rD9)); exact HO170.out) hb); have n5_ := Aside0.mk (Kd.rB9 (by (with_reducible repeat (first | apply Kd.rA9 | apply Kd.rN9 | apply Kd.rD9)); exact HO173.out) hb); have n6_ := Aside0.mk (Kd.rB9 (by (with_reducible repeat (first | apply Kd.rA9 | apply Kd.rN9 | apply Kd.rD9)); exact HO177.out) hb); have n7_ := Aside0.mk (Kd.rB9 (by (with_reducible repeat (first | apply Kd.rA9 | apply Kd.rN9 | apply Kd.rD9)); exact HO180.out) hb); have n8_ := Aside0.mk (bT9 (by repeat (first | (with_reducible first | exact HB.out | apply bA9 | apply bN9 | apply bD9) | exact HB.out)) hb); clear HO155; clear HO159; clear HO163; clear HO166; clear HO170; clear HO173; clear HO177; clear HO180; clear HB; have HO155 := n0_; have HO159 := n1_; have HO163 := n2_; have HO166 := n3_; have HO170 := n4_; have HO173 := n5_; have HO177 := n6_; have HO180 := n7_; have HB := n8_; clear n0_ n1_ n2_ n3_ n4_ n5_ n6_ n7_ n8_; (try clear hb); (try clear hb2); (try clear hk); (try clear hi)) | (go_at_call 21; (with_reducible refine (falls9.calls k (⟨#[48, 47, 51]⟩ : ByteArray) 6 true _ A19.out).mono ?_); rintro e w56 ⟨rfl, hb⟩; have n0_ := Aside0.mk (Kd.rB9 (by (with_reducible repeat (first | apply Kd.rA9 | apply Kd.rN9 | apply Kd.rD9)); exact HO155.out) hb); have n1_ := Aside0.mk (Kd.rB9 (by (with_reducible repeat (first | apply Kd.rA9 | apply Kd.rN9 | apply Kd.rD9)); exact HO159.out) hb); have n2_ := Aside0.mk (Kd.rB9 (by (with_reducible repeat (first | apply Kd.rA9 | apply Kd.rN9 | apply Kd.rD9)); exact HO163.out) hb); have n3_ := Aside0.mk (Kd.rB9 (by (with_reducible repeat (first | apply Kd.rA9 | apply Kd.rN9 | apply Kd.rD9)); exact HO166.out) hb); have n4_ := Aside0.mk (Kd.rB9 (by (with_reducible repeat (first | apply Kd.rA9 | apply Kd.rN9 | apply Kd.rD9)); exact HO170.out) hb); have n5_ := Aside0.mk (Kd.rB9 (by (with_reducible repeat (first | apply Kd.rA9 | apply Kd.rN9 | apply Kd.rD9)); exact HO173.out) hb); have n6_ := Aside0.mk (Kd.rB9 (by (with_reducible repeat (first | apply Kd.rA9 | apply Kd.rN9 | apply Kd.rD9)); exact HO177.out) hb); have n7_ := Aside0.mk (Kd.rB9 (by (with_reducible repeat (first | apply Kd.rA9 | apply Kd.rN9 | apply Kd.rD9)); exact HO180.out) hb); have n8_ := Aside0.mk (bT9 (by repeat (first | (with_reducible first | exact HB.out | apply bA9 | apply bN9 | apply bD9) | exact HB.out)) hb); clear HO155; clear HO159; clear HO163; clear HO166; clear HO170; clear HO173; clear HO177; clear HO180; clear HB; have HO155 := n0_; have HO159 := n1_; have HO163 := n2_; have HO166 := n3_; have HO170 := n4_; have HO173 := n5_; have HO177 := n6_; have HO180 := n7_; have HB := n8_; clear n0_ n1_ n2_ n3_ n4_ n5_ n6_ n7_ n8_; (try clear hb); (try clear hb2); (try clear hk); (try clear hi)) | (go_at_call 21; (with_reducible refine (falls9.calls k (⟨#[49, 47, 48]⟩ : ByteArray) 6 true _ A21.out).mono ?_); rintro e w57 ⟨rfl, hb⟩; have n0_ := Aside0.mk (Kd.rB9 (by (with_reducible repeat (first | apply Kd.rA9 | apply Kd.rN9 | apply Kd.rD9)); exact HO155.out) hb); have n1_ := Aside0.mk (Kd.rB9 (by (with_reducible repeat (first | apply Kd.rA9 | apply Kd.rN9 | apply Kd.rD9)); exact HO159.out) hb); have n2_ := Aside0.mk (Kd.rB9 (by (with_reducible repeat (first | apply Kd.rA9 | apply Kd.rN9 | apply Kd.rD9)); exact HO163.out) hb); have n3_ := Aside0.mk (Kd.rB9 (by (with_reducible repeat (first | apply Kd.rA9 | apply Kd.rN9 | apply Kd.rD9)); exact HO166.out) hb); have n4_ := Aside0.mk (Kd.rB9 (by (with_reducible repeat (first | apply Kd.rA9 | apply Kd.rN9 | apply Kd.rD9)); exact HO170.out) hb); have n5_ := Aside0.mk (Kd.rB9 (by (with_reducible repeat (first | apply Kd.rA9 | apply Kd.rN9 | apply Kd.rD9)); exact HO173.out) hb); have n6_ := Aside0.mk (Kd.rB9 (by (with_reducible repeat (first | apply Kd.rA9 | apply Kd.rN9 | apply Kd.rD9)); exact HO177.out) hb); have n7_ := Aside0.mk (Kd.rB9 (by (with_reducible repeat (first | apply Kd.rA9 | apply Kd.rN9 | apply Kd.rD9)); exact HO180.out) hb); have n8_ := Aside0.mk (bT9 (by repeat (first | (with_reducible first | exact HB.out | apply bA9 | apply bN9 | apply bD9) | exact HB.out)) hb); clear HO155; clear HO159; clear HO163; clear HO166; clear HO170; clear HO173; clear HO177; clear HO180; clear HB; have HO155 := n0_; have HO159 := n1_; have HO163 := n2_; have HO166 := n3_; have HO170 := n4_; have HO173 := n5_; have HO177 := n6_; have HO180 := n7_; have HB := n8_; clear n0_ n1_ n2_ n3_ n4_ n5_ n6_ n7_ n8_; (try clear hb); (try clear hb2); (try clear hk); (try clear hi)) | (go_at_call 21; (with_reducible refine (falls9.calls k (⟨#[48, 49, 47, 50]⟩ : ByteArray) 19 true _ A23.out).mono ?_); rintro e w58 ⟨rfl, hb⟩; have n0_ := Aside0.mk (Kd.rB9 (by (with_reducible repeat (first | apply Kd.rA9 | apply Kd.rN9 | apply Kd.rD9)); exact HO155.out) hb); have n1_ := Aside0.mk (Kd.rB9 (by (with_reducible repeat (first | apply Kd.rA9 | apply Kd.rN9 | apply Kd.rD9)); exact HO159.out) hb); have n2_ := Aside0.mk (Kd.rB9 (by (with_reducible repeat (first | apply Kd.rA9 | apply Kd.rN9 | apply Kd.rD9)); exact HO163.out) hb); have n3_ := Aside0.mk (Kd.rB9 (by (with_reducible repeat (first | apply Kd.rA9 | apply Kd.rN9 | apply Kd.rD9)); exact HO166.out) hb); have n4_ := Aside0.mk (Kd.rB9 (by (with_reducible repeat (first | apply Kd.rA9 | apply Kd.rN9 | apply Kd.rD9)); exact HO170.out) hb); have n5_ := Aside0.mk (Kd.rB9 (by (with_reducible repeat (first | apply Kd.rA9 | apply Kd.rN9 | apply Kd.rD9)); exact HO173.out) hb); have n6_ := Aside0.mk (Kd.rB9 (by (with_reducible repeat (first | apply Kd.rA9 | apply Kd.rN9 | apply Kd.rD9)); exact HO177.out) hb); have n7_ := Aside0.mk (Kd.rB9 (by (with_reducible repeat (first | apply Kd.rA9 | apply Kd.rN9 | apply Kd.rD9)); exact HO180.out) hb); have n8_ := Aside0.mk (bT9 (by repeat (first | (with_reducible first | exact HB.out | apply bA9 | apply bN9 | apply bD9) | exact HB.out)) hb); clear HO155; clear HO159; clear HO163; clear HO166; clear HO170; clear HO173; clear HO177; clear HO180; clear HB; have HO155 := n0_; have HO159 := n1_; have HO163 := n2_; have HO166 := n3_; have HO170 := n4_; have HO173 := n5_; have HO177 := n6_; have HO180 := n7_; have HB := n8_; clear n0_ n1_ n2_ n3_ n4_ n5_ n6_ n7_ n8_; (try clear hb); (try clear hb2); (try clear hk); (try clear hi)) | (go_at_call 21; (with_reducible refine (falls9.calls k (⟨#[49, 47]⟩ : ByteArray) 19 true _ A25.out).mono ?_); rintro e w59 ⟨rfl, hb⟩; have n0_ := Aside0.mk (Kd.rB9 (by (with_reducible repeat (first | apply Kd.rA9 | apply Kd.rN9 | apply Kd.rD9)); exact HO155.out) hb); have n1_ := Aside0.mk (Kd.rB9 (by (with_reducible repeat (first | apply Kd.rA9 | apply Kd.rN9 | apply Kd.rD9)); exact HO159.out) hb); have n2_ := Aside0.mk (Kd.rB9 (by (with_reducible repeat (first | apply Kd.rA9 | apply Kd.rN9 | apply Kd.rD9)); exact HO163.out) hb); have n3_ := Aside0.mk (Kd.rB9 (by (with_reducible repeat (first | apply Kd.rA9 | apply Kd.rN9 | apply Kd.rD9)); exact HO166.out) hb); have n4_ := Aside0.mk (Kd.rB9 (by (with_reducible repeat (first | apply Kd.rA9 | apply Kd.rN9 | apply Kd.rD9)); exact HO170.out) hb); have n5_ := Aside0.mk (Kd.rB9 (by (with_reducible repeat (first | apply Kd.rA9 | apply Kd.rN9 | apply Kd.rD9)); exact HO173.out) hb); have n6_ := Aside0.mk (Kd.rB9 (by (with_reducible repeat (first | apply Kd.rA9 | apply Kd.rN9 | apply Kd.rD9)); exact HO177.out) hb); have n7_ := Aside0.mk (Kd.rB9 (by (with_reducible repeat (first | apply Kd.rA9 | apply Kd.rN9 | apply Kd.rD9)); exact HO180.out) hb); have n8_ := Aside0.mk (bT9 (by repeat (first | (with_reducible first | exact HB.out | apply bA9 | apply bN9 | apply bD9) | exact HB.out)) hb); clear HO155; clear HO159; clear HO163; clear HO166; clear HO170; clear HO173; clear HO177; clear HO180; clear HB; have HO155 := n0_; have HO159 := n1_; have HO163 := n2_; have HO166 := n3_; have HO170 := n4_; have HO173 := n5_; have HO177 := n6_; have HO180 := n7_; have HB := n8_; clear n0_ n1_ n2_ n3_ n4_ n5_ n6_ n7_ n8_; (try clear hb); (try clear hb2); (try clear hk); (try clear hi)) | (go_at_call 21; (with_reducible refine (falls9.calls k (⟨#[45, 47, 50]⟩ : ByteArray) 19 true _ A27.out).mono ?_); rintro e w60 ⟨rfl, hb⟩; have n0_ := Aside0.mk (Kd.rB9 (by (with_reducible repeat (first | apply Kd.rA9 | apply Kd.rN9 | apply Kd.rD9)); exact HO155.out) hb); have n1_ := Aside0.mk (Kd.rB9 (by (with_reducible repeat (first | apply Kd.rA9 | apply Kd.rN9 | apply Kd.rD9)); exact HO159.out) hb); have n2_ := Aside0.mk (Kd.rB9 (by (with_reducible repeat (first | apply Kd.rA9 | apply Kd.rN9 | apply Kd.rD9)); exact HO163.out) hb); have n3_ := Aside0.mk (Kd.rB9 (by (with_reducible repeat (first | apply Kd.rA9 | apply Kd.rN9 | apply Kd.rD9)); exact HO166.out) hb); have n4_ := Aside0.mk (Kd.rB9 (by (with_reducible repeat (first | apply Kd.rA9 | apply Kd.rN9 | apply Kd.rD9)); exact HO170.out) hb); have n5_ := Aside0.mk (Kd.rB9 (by (with_reducible repeat (first | apply Kd.rA9 | apply Kd.rN9 | apply Kd.rD9)); exact HO173.out) hb); have n6_ := Aside0.mk (Kd.rB9 (by (with_reducible repeat (first | apply Kd.rA9 | apply Kd.rN9 | apply Kd.rD9)); exact HO177.out) hb); have n7_ := Aside0.mk (Kd.rB9 (by (with_reducible repeat (first | apply Kd.rA9 | apply Kd.rN9 | apply Kd.rD9)); exact HO180.out) hb); have n8_ := Aside0.mk (bT9 (by repeat (first | (with_reducible first | exact HB.out | apply bA9 | apply bN9 | apply bD9) | exact HB.out)) hb); clear HO155; clear HO159; clear HO163; clear HO166; clear HO170; clear HO173; clear HO177; clear HO180; clear HB; have HO155 := n0_; have HO159 := n1_; have HO163 := n2_; have HO166 := n3_; have HO170 := n4_; have HO173 := n5_; have HO177 := n6_; have HO180 := n7_; have HB := n8_; clear n0_ n1_ n2_ n3_ n4_ n5_ n6_ n7_ n8_; (try clear hb); (try clear hb2); (try clear hk); (try clear hi)) | (go_at_call 21; (with_reducible refine (falls9.calls k (⟨#[49, 47, 45, 50]⟩ : ByteArray) 19 true _ A29.out).mono ?_); rintro e w61 ⟨rfl, hb⟩; have n0_ := Aside0.mk (Kd.rB9 (by (with_reducible repeat (first | apply Kd.rA9 | apply Kd.rN9 | apply Kd.rD9)); exact HO155.out) hb); have n1_ := Aside0.mk (Kd.rB9 (by (with_reducible repeat (first | apply Kd.rA9 | apply Kd.rN9 | apply Kd.rD9)); exact HO159.out) hb); have n2_ := Aside0.mk (Kd.rB9 (by (with_reducible repeat (first | apply Kd.rA9 | apply Kd.rN9 | apply Kd.rD9)); exact HO163.out) hb); have n3_ := Aside0.mk (Kd.rB9 (by (with_reducible repeat (first | apply Kd.rA9 | apply Kd.rN9 | apply Kd.rD9)); exact HO166.out) hb); have n4_ := Aside0.mk (Kd.rB9 (by (with_reducible repeat (first | apply Kd.rA9 | apply Kd.rN9 | apply Kd.rD9)); exact HO170.out) hb); have n5_ := Aside0.mk (Kd.rB9 (by (with_reducible repeat (first | apply Kd.rA9 | apply Kd.rN9 | apply Kd.rD9)); exact HO173.out) hb); have n6_ := Aside0.mk (Kd.rB9 (by (with_reducible repeat (first | apply Kd.rA9 | apply Kd.rN9 | apply Kd.rD9)); exact HO177.out) hb); have n7_ := Aside0.mk (Kd.rB9 (by (with_reducible repeat (first | apply Kd.rA9 | apply Kd.rN9 | apply Kd.rD9)); exact HO180.out) hb); have n8_ := Aside0.mk (bT9 (by repeat (first | (with_reducible first | exact HB.out | apply bA9 | apply bN9 | apply bD9) | exact HB.out)) hb); clear HO155; clear HO159; clear HO163; clear HO166; clear HO170; clear HO173; clear HO177; clear HO180; clear HB; have HO155 := n0_; have HO159 := n1_; have HO163 := n2_; have HO166 := n3_; have HO170 := n4_; have HO173 := n5_; have HO177 := n6_; have HO180 := n7_; have HB := n8_; clear n0_ n1_ n2_ n3_ n4_ n5_ n6_ n7_ n8_; (try clear hb); (try clear hb2); (try clear hk); (try clear hi)) | (go_at_call 21; (with_reducible refine (falls9.calls k (⟨#[43, 49]⟩ : ByteArray) 19 t191 _ A31.out).mono ?_); rintro e w62 ⟨rfl, hb⟩; have n0_ := Aside0.mk (Kd.rB9 (by (with_reducible repeat (first | apply Kd.rA9 | apply Kd.rN9 | apply Kd.rD9)); exact HO155.out) hb); have n1_ := Aside0.mk (Kd.rB9 (by (with_reducible repeat (first | apply Kd.rA9 | apply Kd.rN9 | apply Kd.rD9)); exact HO159.out) hb); have n2_ := Aside0.mk (Kd.rB9 (by (with_reducible repeat (first | apply Kd.rA9 | apply Kd.rN9 | apply Kd.rD9)); exact HO163.out) hb); have n3_ := Aside0.mk (Kd.rB9 (by (with_reducible repeat (first | apply Kd.rA9 | apply Kd.rN9 | apply Kd.rD9)); exact HO166.out) hb); have n4_ := Aside0.mk (Kd.rB9 (by (with_reducible repeat (first | apply Kd.rA9 | apply Kd.rN9 | apply Kd.rD9)); exact HO170.out) hb); have n5_ := Aside0.mk (Kd.rB9 (by (with_reducible repeat (first | apply Kd.rA9 | apply Kd.rN9 | apply Kd.rD9)); exact HO173.out) hb); have n6_ := Aside0.mk (Kd.rB9 (by (with_reducible repeat (first | apply Kd.rA9 | apply Kd.rN9 | apply Kd.rD9)); exact HO177.out) hb); have n7_ := Aside0.mk (Kd.rB9 (by (with_reducible repeat (first | apply Kd.rA9 | apply Kd.rN9 | apply Kd.rD9)); exact HO180.out) hb); have n8_ := Aside0.mk (bT9 (by repeat (first | (with_reducible first | exact HB.out | apply bA9 | apply bN9 | apply bD9) | exact HB.out)) hb); clear HO155; clear HO159; clear HO163; clear HO166; clear HO170; clear HO173; clear HO177; clear HO180; clear HB; have HO155 := n0_; have HO159 := n1_; have HO163 := n2_; have HO166 := n3_; have HO170 := n4_; have HO173 := n5_; have HO177 := n6_; have HO180 := n7_; have HB := n8_; clear n0_ n1_ n2_ n3_ n4_ n5_ n6_ n7_ n8_; (try clear hb); (try clear hb2); (try clear hk); (try clear hi)))
                go_ret
                exact ⟨by first | rfl | (simp [eN9, eS9] <;> rfl) | (simp [*, eN9, eS9] <;> rfl), by repeat (first | (with_reducible first | exact HB.out | apply bA9 | apply bN9 | apply bD9) | exact HB.out)⟩
               ·replace c30 := Bool.eq_false_iff.mpr c30
                subst c30
                have H1 : (none) = some r := by rw [if_neg (show ¬ (false = true) by decide)] at H; exact H
                clear H
                have H := H1
                clear H1
                exact absurd H (by simp)
              ·replace c28 := Bool.eq_false_iff.mpr c28
               subst c28
               have H1 : (none) = some r := by rw [if_neg (show ¬ (false = true) by decide)] at H; exact H
               clear H
               have H := H1
               clear H1
               exact absurd H (by simp)
             ·replace c26 := Bool.eq_false_iff.mpr c26
              subst c26
              have H1 : (none) = some r := by rw [if_neg (show ¬ (false = true) by decide)] at H; exact H
              clear H
              have H := H1
              clear H1
              exact absurd H (by simp)
            ·replace c24 := Bool.eq_false_iff.mpr c24
             subst c24
             have H1 : (none) = some r := by rw [if_neg (show ¬ (false = true) by decide)] at H; exact H
             clear H
             have H := H1
             clear H1
             exact absurd H (by simp)
           ·replace c22 := Bool.eq_false_iff.mpr c22
            subst c22
            have H1 : (none) = some r := by rw [if_neg (show ¬ (false = true) by decide)] at H; exact H
            clear H
            have H := H1
            clear H1
            exact absurd H (by simp)
          ·replace c20 := Bool.eq_false_iff.mpr c20
           subst c20
           have H1 : (none) = some r := by rw [if_neg (show ¬ (false = true) by decide)] at H; exact H
           clear H
           have H := H1
           clear H1
           exact absurd H (by simp)
         ·replace c18 := Bool.eq_false_iff.mpr c18
          subst c18
          have H1 : (none) = some r := by rw [if_neg (show ¬ (false = true) by decide)] at H; exact H
          clear H
          have H := H1
          clear H1
          exact absurd H (by simp)
        ·replace c16 := Bool.eq_false_iff.mpr c16
         subst c16
         have H1 : (none) = some r := by rw [if_neg (show ¬ (false = true) by decide)] at H; exact H
         clear H
         have H := H1
         clear H1
         exact absurd H (by simp)
       ·replace c14 := Bool.eq_false_iff.mpr c14
        subst c14
        have H1 : (none) = some r := by rw [if_neg (show ¬ (false = true) by decide)] at H; exact H
        clear H
        have H := H1
        clear H1
        exact absurd H (by simp)
      ·rw [if_neg c12] at H
       exact absurd H (by simp)
     ·rw [if_neg c11] at H
      exact absurd H (by simp)
    ·rw [if_neg c10] at H
     exact absurd H (by simp)
   ·rw [if_neg c9] at H
    exact absurd H (by simp)
  ·rw [if_neg c7] at H
   exact absurd H (by simp)
 ·rw [if_neg c5] at H
  exact absurd H (by simp)
end Go.Proofs.YthppjdmkinbccaaGreatDoor.Print

namespace Go.Proofs.YthppjdmkinbccaaGreatDoor.Print
open Go.RowKit Go.Proofs.YthppjdmkinbccaaGreatDoorW.PrintWords Go.Proofs.YthppjdmkinbccaaGreatDoorW.PrintLast Go.Proofs.YthppjdmkinbccaaGreatDoorW.PrintMore
attribute [local go_sem] max2_int min2_int max_two min_two max_three min_three max_four min_four   -- for this text's walks alone
set_option linter.unusedVariables false
set_option linter.unusedSimpArgs false
mutual
def Back9.j0 : Nat → List Int → ByteArray → Bool → Bool → List Int → List Int → Option (Bool)
 | 0, _, _, _, _, _, _ => none
 | k + 1, x0, x2, x29, x102000, x102001, x102002 => if x29 = true then ((kn9.f k).bind fun t102 => (some t102)) else ((digits_Nat.f x0).bind fun t103 => ((digits_ParseNat.f t103).bind fun bt104 => ((r1Of.f k x0).bind fun t108 => ((r1B.f k t108).bind fun t111 => (if t111 > 1024 then (if bt104.2 = 14 then (if (bt104.1.length : Int) = 0 then (Back9.j1 k x2 x102000 x102001 x102002) else (none)) else (none)) else (if bt104.2 = 0 then ((r1Of.f k x0).bind fun t112 => ((r1Is.f k t112 bt104.1).bind fun t115 => (if t115 = true then (Back9.j1 k x2 x102000 x102001 x102002) else (none)))) else (none)))))))
def Back9.j1 : Nat → ByteArray → Bool → List Int → List Int → Option (Bool)
 | 0, _, _, _, _ => none
 | k + 1, x2, x102000, x102001, x102002 => (digits_Rat.f k x102000 x102001 x102002).bind fun t116 => ((digits_ParseRat.f k t116).bind fun bt117 => (if bt117.2.2.2 = 0 then ((r3Of.f k x102000 x102001 x102002).bind fun bt126 => ((r3Is.f k bt126.1 bt126.2.1 bt126.2.2 bt117.1 bt117.2.1 bt117.2.2.1).bind fun t133 => (Back9.j2 k x2 (!t133)))) else (Back9.j2 k x2 true)))
def Back9.j2 : Nat → ByteArray → Bool → Option (Bool)
 | 0, _, _ => none
 | k + 1, x2, x71 => if x71 = true then (none) else ((digits_ParseNat.f x2).bind fun bt134 => (if bt134.2 = 0 then ((digits_Nat.f bt134.1).bind fun t138 => (Back9.j3 k x2 (t138.toList != x2.toList))) else (Back9.j3 k x2 false)))
def Back9.j3 : Nat → ByteArray → Bool → Option (Bool)
 | 0, _, _ => none
 | k + 1, x2, x84 => if x84 = true then (none) else (if (x2.size : Int) > 120 then ((kn9.f k).bind fun t139 => (some t139)) else ((digits_ParseRat.f k x2).bind fun bt140 => (if bt140.2.2.2 = 0 then ((digits_Rat.f k bt140.1 bt140.2.1 bt140.2.2.1).bind fun t149 => (if t149.toList = x2.toList then ((kn9.f k).bind fun t150 => (some t150)) else (none))) else ((kn9.f k).bind fun t151 => (some t151)))))
end
def Back9.f (k : Nat) (l0 : List Int) (a1_0 : Bool) (l1_1 : List Int) (l1_2 : List Int) (a2 : ByteArray) : Option (Bool) := if (l0.length : Int) > 40 then (Back9.j0 k l0 a2 true a1_0 l1_1 l1_2) else (if (l1_1.length : Int) > 8 then (Back9.j0 k l0 a2 true a1_0 l1_1 l1_2) else (Back9.j0 k l0 a2 (decide ((l1_2.length : Int) > 8)) a1_0 l1_1 l1_2))
def Back9.T10 : Bool × List (List Nat × List Nat) := (true, [([], []), ([0], [0]), ([1], [1]), ([2], [2]), ([3, 2, 2], [2, 3]), ([2], [2]), ([4, 5, 4, 2], [2, 4, 5]), ([6, 2], [2, 6]), ([2, 7], [2, 7])])
def Back9.B10 : List Nat := [0, 1, 3, 7, 15, 7, 63, 127, 255]
theorem Back9.tab10 : rtab .any (opsOf Tryz.f6 10) = Back9.T10 := by kernel_rfl
theorem Back9.bits10 : waitsOk Back9.T10.2 Back9.B10 = true := by kernel_rfl
set_option maxHeartbeats 8000000 in
set_option maxRecDepth 100000 in
theorem Back9.calls (k : Nat) (A0 : Option Addr) (c0 : Nat) (l0 : List Int) (a1_0 : Bool) (A1_1 : Option Addr) (c1_1 : Nat) (l1_1 : List Int) (A1_2 : Option Addr) (c1_2 : Nat) (l1_2 : List Int) (a2 : ByteArray) (r : Bool) (w : World) (ht : PowTab w) (hr0 : Kd.C (Kd.int .u32) w A0 l0.length l0) (hc0 : l0.length ≤ c0) (hr1_1 : Kd.C (Kd.int .u32) w A1_1 l1_1.length l1_1) (hc1_1 : l1_1.length ≤ c1_1) (hr1_2 : Kd.C (Kd.int .u32) w A1_2 l1_2.length l1_2) (hc1_2 : l1_2.length ≤ c1_2) (h : Back9.f k l0 a1_0 l1_1 l1_2 a2 = some r) :
  Calls Tryz.prog 6 #[.slice A0 l0.length c0, .agg #[.bool a1_0, .slice A1_1 l1_1.length c1_1, .slice A1_2 l1_2.length c1_2], .string a2] w fun e w' => e = .returned (.bool r) ∧ Below w.heap.size w w' := by
 have HT := Aside0.mk ht
 clear ht
 have hu35 := Tryz.underlying35
 have HR0 := Aside0.mk hr0
 have HC0 := Aside0.mk hc0
 clear hr0 hc0
 have HR1_1 := Aside0.mk hr1_1
 have HC1_1 := Aside0.mk hc1_1
 clear hr1_1 hc1_1
 have HR1_2 := Aside0.mk hr1_2
 have HC1_2 := Aside0.mk hc1_2
 clear hr1_2 hc1_2
 have HB := Aside0.mk (Below.refl w.heap.size w)
 have H : (if (l0.length : Int) > 40 then (Back9.j0 k l0 a2 true a1_0 l1_1 l1_2) else (if (l1_1.length : Int) > 8 then (Back9.j0 k l0 a2 true a1_0 l1_1 l1_2) else (Back9.j0 k l0 a2 (decide ((l1_2.length : Int) > 8)) a1_0 l1_1 l1_2))) = some r := h
 clear h
 have HC4 := Aside0.mk H
 clear H
 go_enter Tryz.func6, Tryz.ntmps6
 go_upto_region 1 with (first | ((with_reducible refine gD9 (N := 4) rfl ?_); (try (refine gate_guard (by rfl) ?_; dsimp only)); refine bE9 ?hg (N := 4) ?hd (cs := #[.bool a1_0, .slice A1_1 l1_1.length c1_1, .slice A1_2 l1_2.length c1_2]) (t := 35) ?hr ?_; (case hd => rfl); (case hg => rfl); (case hr => first | (go_simp; done) | (go_simp; rfl)); intro gb101 hg w5 hbox hb; have n0_ := Aside0.mk (bT9 (by repeat (first | (with_reducible first | exact HB.out | apply bA9 | apply bN9 | apply bD9) | exact HB.out)) hb); have n1_ := Aside0.mk (hbox); have n2_ := Aside0.mk ((by rw [hg]; exact (bZ9 (by repeat (first | (with_reducible first | exact HB.out | apply bA9 | apply bN9 | apply bD9) | exact HB.out))) : w.heap.size ≤ gb101)); have n3_ := Aside0.mk ((by rw [hg]; exact (bZ9 (by repeat (first | (with_reducible first | exact HB.out | apply bA9 | apply bN9 | apply bD9) | exact HB.out))) : w.heap.size ≤ gb101)); clear HB; have HB := n0_; have BK101 := n1_; have GW101 := n2_; have GE101 := n3_; clear n0_ n1_ n2_ n3_; clear hb hbox hg))
 (try simp only [Act.put, List.setIfInBounds_toArray, List.set_cons_zero, List.set_cons_succ])
 go_cut [29] (fun v29 wc => ∃ (kq : Nat) (x29_3 : Bool), v29 = .bool x29_3 ∧ Aside0 (Back9.j0 kq l0 a2 x29_3 a1_0 l1_1 l1_2 = some r) ∧ Aside0 (kq ≤ k) ∧ Aside0 (wc.heap[gb101]? = some (.cells #[.bool a1_0, (.slice A1_1 l1_1.length c1_1), (.slice A1_2 l1_2.length c1_2)] 35 (0, 0))) ∧ Aside0 (Below w.heap.size w wc))
 case first =>
  have H := HC4.out
  clear HC4
  by_cases c6 : (l0.length : Int) > 40
  ·rw [if_pos c6] at H
   have c6b0 : decide (40 < (l0.length : Int)) = true := decide_eq_true c6
   have c6b1 : decide (40 < l0.length) = true := decide_eq_true (by omega)
   clear c6
   (first | rw [c6b0] | (simp only [i64_w, i32_w]; rw [c6b0]) | skip)
   have H' := Aside0.mk H
   clear H
   go_wp2
   go_meet
   case rel => exact ⟨_, (true), (by first | rfl | (simp; done) | (simp [*]; done)), H', ⟨by first | omega | exact Nat.le_refl _⟩, ⟨by (with_reducible repeat (first | refine kN9 ?_ _ | refine kD9 ?_ | refine kA9 ?_ _)); exact BK101.out⟩, ⟨by repeat (first | (with_reducible first | exact HB.out | apply bA9 | apply bN9 | apply bD9 | refine bS9 ?_ GE101.out) | exact HB.out)⟩⟩
  ·rw [if_neg c6] at H
   have c6b0 : decide (40 < (l0.length : Int)) = false := decide_eq_false c6
   have c6b1 : decide (40 < l0.length) = false := decide_eq_false (by omega)
   clear c6
   (first | rw [c6b0] | (simp only [i64_w, i32_w]; rw [c6b0]) | skip)
   by_cases c7 : (l1_1.length : Int) > 8
   ·rw [if_pos c7] at H
    have c7b0 : decide (8 < (l1_1.length : Int)) = true := decide_eq_true c7
    have c7b1 : decide (8 < l1_1.length) = true := decide_eq_true (by omega)
    clear c7
    have H' := Aside0.mk H
    clear H
    have hcz8_0 : w5.cell? ⟨gb101, 0, none⟩ = some (.bool a1_0) := (kC9 BK101.out 0).trans rfl
    have hcz8_1 : w5.cell? ⟨gb101, 1, none⟩ = some (.slice A1_1 l1_1.length c1_1) := (kC9 BK101.out 1).trans rfl
    have hcz8_2 : w5.cell? ⟨gb101, 2, none⟩ = some (.slice A1_2 l1_2.length c1_2) := (kC9 BK101.out 2).trans rfl
    have hfz8_0 := kF9 BK101.out 0
    have hfz8_1 := kF9 BK101.out 1
    have hfz8_2 := kF9 BK101.out 2
    go_wp2
    go_meet
    case rel => exact ⟨_, (true), (by first | rfl | (simp; done) | (simp [*]; done)), H', ⟨by first | omega | exact Nat.le_refl _⟩, ⟨by (with_reducible repeat (first | refine kN9 ?_ _ | refine kD9 ?_ | refine kA9 ?_ _)); exact BK101.out⟩, ⟨by repeat (first | (with_reducible first | exact HB.out | apply bA9 | apply bN9 | apply bD9 | refine bS9 ?_ GE101.out) | exact HB.out)⟩⟩
   ·rw [if_neg c7] at H
    have c7b0 : decide (8 < (l1_1.length : Int)) = false := decide_eq_false c7
    have c7b1 : decide (8 < l1_1.length) = false := decide_eq_false (by omega)
    clear c7
    have H' := Aside0.mk H
    clear H
    have hcz9_0 : w5.cell? ⟨gb101, 0, none⟩ = some (.bool a1_0) := (kC9 BK101.out 0).trans rfl
    have hcz9_1 : w5.cell? ⟨gb101, 1, none⟩ = some (.slice A1_1 l1_1.length c1_1) := (kC9 BK101.out 1).trans rfl
    have hcz9_2 : w5.cell? ⟨gb101, 2, none⟩ = some (.slice A1_2 l1_2.length c1_2) := (kC9 BK101.out 2).trans rfl
    have hfz9_0 := kF9 BK101.out 0
    have hfz9_1 := kF9 BK101.out 1
    have hfz9_2 := kF9 BK101.out 2
    go_wp2
    go_meet
    case rel => exact ⟨_, (decide ((l1_2.length : Int) > 8)), (by first | rfl | (simp; done) | (simp [*]; done)), H', ⟨by first | omega | exact Nat.le_refl _⟩, ⟨by (with_reducible repeat (first | refine kN9 ?_ _ | refine kD9 ?_ | refine kA9 ?_ _)); exact BK101.out⟩, ⟨by repeat (first | (with_reducible first | exact HB.out | apply bA9 | apply bN9 | apply bD9 | refine bS9 ?_ GE101.out) | exact HB.out)⟩⟩
 case rest => as_aux_lemma =>
  clear HC4
  try clear c1
  try clear p2
  try clear c6
  try clear c6b0
  try clear c6b1
  try clear c7
  try clear c7b0
  try clear c7b1
  try clear hcz8_0
  try clear hcz8_1
  try clear hcz8_2
  try clear hcz9_0
  try clear hcz9_1
  try clear hcz9_2
  try clear hfz8_0
  try clear hfz8_1
  try clear hfz8_2
  try clear hfz9_0
  try clear hfz9_1
  try clear hfz9_2
  obtain ⟨kq, x29_3, rfl, HA, HJ3, BK101, HB⟩ := hcut
  cases kq with
  | zero => exact absurd HA.out (by simp [Back9.j0])
  | succ kj3 =>
   have H := HA.out
   clear HA
   simp only [Back9.j0] at H
   by_cases c10 : x29_3 = true
   ·subst c10
    have H1 : ((kn9.f kj3).bind fun t102 => (some t102)) = some r := by rw [if_pos rfl] at H; exact H
    clear H
    have H := H1
    clear H1
    replace H := Option.bind_eq_some_iff.mp H
    obtain ⟨t102, A110, H⟩ := H
    replace H : (some t102) = some r := H
    have A11 := Aside0.mk A110
    clear A110
    obtain rfl := Option.some.inj H
    go_wp2_with (first | ((with_reducible refine gC9 (f := 15) rfl ?_); refine goesL_ (some 30) rfl rfl Tryz.func15 (by kernel_rfl) rfl #[] rfl (by (try simp only [List.map_toArray, List.map_cons, List.map_nil]); first | done | rfl | (simp only [List.length_drop, List.length_take]; rfl)) ?_; (with_reducible refine (kn9.calls kj3  t102 _ (PowTab.below HT.out (by repeat (first | (with_reducible first | exact HB.out | apply bA9 | apply bN9 | apply bD9 | refine bS9 ?_ GE101.out | refine bS9 ?_ GE125.out | refine bS9 ?_ GE148.out) | exact HB.out))) A11.out).mono ?_); rintro e w12 ⟨rfl, hb⟩; refine ⟨_, rfl, ?_⟩; have n0_ := Aside0.mk (kB9 (g := gb101) (o := .cells #[.bool a1_0, .slice A1_1 l1_1.length c1_1, .slice A1_2 l1_2.length c1_2] 35 (0, 0)) (by (with_reducible repeat (first | refine kN9 ?_ _ | refine kD9 ?_ | refine kA9 ?_ _)); exact BK101.out) hb); have n1_ := Aside0.mk (bT9 (by repeat (first | (with_reducible first | exact HB.out | apply bA9 | apply bN9 | apply bD9 | refine bS9 ?_ GE101.out) | exact HB.out)) hb); clear BK101; clear HB; have BK101 := n0_; have HB := n1_; clear n0_ n1_; (try clear hb); (try clear hb2); (try clear hk); (try clear hi)))
    go_ret
    exact ⟨by first | rfl | (simp [eN9, eS9] <;> rfl) | (simp [*, eN9, eS9] <;> rfl), by repeat (first | (with_reducible first | exact HB.out | apply bA9 | apply bN9 | apply bD9 | refine bS9 ?_ GE101.out) | exact HB.out)⟩
   ·replace c10 := Bool.eq_false_iff.mpr c10
    subst c10
    have H1 : ((digits_Nat.f l0).bind fun t103 => ((digits_ParseNat.f t103).bind fun bt104 => ((r1Of.f kj3 l0).bind fun t108 => ((r1B.f kj3 t108).bind fun t111 => (if t111 > 1024 then (if bt104.2 = 14 then (if (bt104.1.length : Int) = 0 then (Back9.j1 kj3 a2 a1_0 l1_1 l1_2) else (none)) else (none)) else (if bt104.2 = 0 then ((r1Of.f kj3 l0).bind fun t112 => ((r1Is.f kj3 t112 bt104.1).bind fun t115 => (if t115 = true then (Back9.j1 kj3 a2 a1_0 l1_1 l1_2) else (none)))) else (none))))))) = some r := by rw [if_neg (show ¬ (false = true) by decide)] at H; exact H
    clear H
    have H := H1
    clear H1
    replace H := Option.bind_eq_some_iff.mp H
    obtain ⟨t103, A130, H⟩ := H
    (try dsimp only at H)
    have A13 := Aside0.mk A130
    clear A130
    replace H := Option.bind_eq_some_iff.mp H
    obtain ⟨⟨t104, t105⟩, A140, H⟩ := H
    (try dsimp only at H)
    have A14 := Aside0.mk A140
    clear A140
    replace H := Option.bind_eq_some_iff.mp H
    obtain ⟨t108, A150, H⟩ := H
    (try dsimp only at H)
    have A15 := Aside0.mk A150
    clear A150
    replace H := Option.bind_eq_some_iff.mp H
    obtain ⟨t111, A160, H⟩ := H
    (try dsimp only at H)
    have A16 := Aside0.mk A160
    clear A160
    have HC17 := Aside0.mk H
    clear H
    go_upto_if 40 with (first | ((with_reducible refine gC9 (f := 23) rfl ?_); refine goesL_ (some 33) rfl rfl Tryz.func23 (by kernel_rfl) rfl #[.slice A0 l0.length c0] rfl (by (try simp only [List.map_toArray, List.map_cons, List.map_nil]); first | done | rfl | (simp only [List.length_drop, List.length_take]; rfl)) ?_; (with_reducible refine (digits_Nat.calls _ _ l0 t103 _ (PowTab.below HT.out (by repeat (first | (with_reducible first | exact HB.out | apply bA9 | apply bN9 | apply bD9 | refine bS9 ?_ GE101.out | refine bS9 ?_ GE125.out | refine bS9 ?_ GE148.out) | exact HB.out))) ?side1 ?side2 A13.out).mono ?_); (case side1 => repeat (first | exact (Kd.cB9 HR0.out HB.out) | (with_reducible refine Kd.cA9 ?_ _) | (with_reducible refine Kd.cN9 ?_ _) | (with_reducible refine Kd.cD9 ?_))); (case side2 => exact HC0.out); rintro e w18 ⟨rfl, hb⟩; refine ⟨_, rfl, ?_⟩; have n0_ := Aside0.mk (kB9 (g := gb101) (o := .cells #[.bool a1_0, .slice A1_1 l1_1.length c1_1, .slice A1_2 l1_2.length c1_2] 35 (0, 0)) (by (with_reducible repeat (first | refine kN9 ?_ _ | refine kD9 ?_ | refine kA9 ?_ _)); exact BK101.out) hb); have n1_ := Aside0.mk (bT9 (by repeat (first | (with_reducible first | exact HB.out | apply bA9 | apply bN9 | apply bD9 | refine bS9 ?_ GE101.out) | exact HB.out)) hb); clear BK101; clear HB; have BK101 := n0_; have HB := n1_; clear n0_ n1_; (try clear hb); (try clear hb2); (try clear hk); (try clear hi)) | ((with_reducible refine gC9 (f := 12) rfl ?_); refine goesL_ (some 34) rfl rfl Tryz.func12 (by kernel_rfl) rfl #[.string t103] rfl (by (try simp only [List.map_toArray, List.map_cons, List.map_nil]); first | done | rfl | (simp only [List.length_drop, List.length_take]; rfl)) ?_; (with_reducible refine (digits_ParseNat.calls t103 t104 t105 _ A14.out).mono ?_); rintro e w19 ⟨v106, rfl, ho0, hb⟩; refine ⟨_, rfl, ?_⟩; have n0_ := Aside0.mk (Kd.rL9 ho0 (bZ9 (by repeat (first | (with_reducible first | exact HB.out | apply bA9 | apply bN9 | apply bD9 | refine bS9 ?_ GE101.out) | exact HB.out)))); have n1_ := Aside0.mk (kB9 (g := gb101) (o := .cells #[.bool a1_0, .slice A1_1 l1_1.length c1_1, .slice A1_2 l1_2.length c1_2] 35 (0, 0)) (by (with_reducible repeat (first | refine kN9 ?_ _ | refine kD9 ?_ | refine kA9 ?_ _)); exact BK101.out) hb); have n2_ := Aside0.mk (bT9 (by repeat (first | (with_reducible first | exact HB.out | apply bA9 | apply bN9 | apply bD9 | refine bS9 ?_ GE101.out) | exact HB.out)) hb); clear BK101; clear HB; have HO107 := n0_; have BK101 := n1_; have HB := n2_; clear n0_ n1_ n2_; (try clear hb); (try clear hb2); (try clear hk); (try clear hi); (try clear ho0)) | ((with_reducible refine gC9 (f := 25) rfl ?_); refine goesL_ (some 38) rfl rfl Tryz.func25 (by kernel_rfl) rfl #[.slice A0 l0.length c0] rfl (by (try simp only [List.map_toArray, List.map_cons, List.map_nil]); first | done | rfl | (simp only [List.length_drop, List.length_take]; rfl)) ?_; (with_reducible refine (r1Of.calls kj3 _ _ l0 t108 _ ?side1 ?side2 A15.out).mono ?_); (case side1 => repeat (first | exact (Kd.cB9 HR0.out HB.out) | (with_reducible refine Kd.cA9 ?_ _) | (with_reducible refine Kd.cN9 ?_ _) | (with_reducible refine Kd.cD9 ?_))); (case side2 => exact HC0.out); rintro e w20 ⟨v109, rfl, ho0, hb⟩; refine ⟨_, rfl, ?_⟩; have n0_ := Aside0.mk (Kd.rB9 (by (with_reducible repeat (first | apply Kd.rA9 | apply Kd.rN9 | apply Kd.rD9)); exact HO107.out) hb); have n1_ := Aside0.mk (Kd.rL9 ho0 (bZ9 (by repeat (first | (with_reducible first | exact HB.out | apply bA9 | apply bN9 | apply bD9 | refine bS9 ?_ GE101.out) | exact HB.out)))); have n2_ := Aside0.mk (kB9 (g := gb101) (o := .cells #[.bool a1_0, .slice A1_1 l1_1.length c1_1, .slice A1_2 l1_2.length c1_2] 35 (0, 0)) (by (with_reducible repeat (first | refine kN9 ?_ _ | refine kD9 ?_ | refine kA9 ?_ _)); exact BK101.out) hb); have n3_ := Aside0.mk (bT9 (by repeat (first | (with_reducible first | exact HB.out | apply bA9 | apply bN9 | apply bD9 | refine bS9 ?_ GE101.out) | exact HB.out)) hb); clear HO107; clear BK101; clear HB; have HO107 := n0_; have HO110 := n1_; have BK101 := n2_; have HB := n3_; clear n0_ n1_ n2_ n3_; (try clear hb); (try clear hb2); (try clear hk); (try clear hi); (try clear ho0); obtain ⟨Ao21, co21, eo21⟩ := Kd.rS9 HO110.out; subst eo21) | ((with_reducible refine gC9 (f := 24) rfl ?_); refine goesL_ (some 39) rfl rfl Tryz.func24 (by kernel_rfl) rfl #[.slice Ao21 t108.length co21] rfl (by (try simp only [List.map_toArray, List.map_cons, List.map_nil]); first | done | rfl | (simp only [List.length_drop, List.length_take]; rfl)) ?_; (with_reducible refine (r1B.calls kj3 (fun k_ => some k_ = (.slice Ao21 t108.length co21 : Value).ownBlock) _ _ t108 t111 _ ?side1 A16.out).mono ?_); (case side1 => exact Kd.R_V (Kd.R_tight rfl (Kd.rT9 (Kd.R_apart' (HO110.out) (Kd.R_typed HO107.out) (by decide)) BK101.out (by decide)))); rintro e w22 ⟨rfl, hb⟩; refine ⟨_, rfl, ?_⟩; have n0_ := Aside0.mk (Kd.rB9 (by (with_reducible repeat (first | apply Kd.rA9 | apply Kd.rN9 | apply Kd.rD9)); exact HO107.out) hb); have n1_ := Aside0.mk (Kd.rB9 (by (with_reducible repeat (first | apply Kd.rA9 | apply Kd.rN9 | apply Kd.rD9)); exact HO110.out) hb); have n2_ := Aside0.mk (kB9 (g := gb101) (o := .cells #[.bool a1_0, .slice A1_1 l1_1.length c1_1, .slice A1_2 l1_2.length c1_2] 35 (0, 0)) (by (with_reducible repeat (first | refine kN9 ?_ _ | refine kD9 ?_ | refine kA9 ?_ _)); exact BK101.out) hb); have n3_ := Aside0.mk (bT9 (by repeat (first | (with_reducible first | exact HB.out | apply bA9 | apply bN9 | apply bD9 | refine bS9 ?_ GE101.out) | exact HB.out)) hb); clear HO107; clear HO110; clear BK101; clear HB; have HO107 := n0_; have HO110 := n1_; have BK101 := n2_; have HB := n3_; clear n0_ n1_ n2_ n3_; (try clear hb); (try clear hb2); (try clear hk); (try clear hi)))
    (try simp only [Act.put, List.setIfInBounds_toArray, List.set_cons_zero, List.set_cons_succ])
    go_cut [] (fun wc => ∃ (kq : Nat), Aside0 (Back9.j1 kq a2 a1_0 l1_1 l1_2 = some r) ∧ Aside0 (kq ≤ kj3) ∧ Aside0 (wc.heap[gb101]? = some (.cells #[.bool a1_0, (.slice A1_1 l1_1.length c1_1), (.slice A1_2 l1_2.length c1_2)] 35 (0, 0))) ∧ Aside0 (Below w.heap.size w wc))
    case first =>
     have H := HC17.out
     clear HC17
     by_cases c23 : t111 > 1024
     ·rw [if_pos c23] at H
      have c23b0 : decide (1024 < t111) = true := decide_eq_true c23
      clear c23
      (first | rw [c23b0] | (simp only [i64_w, i32_w]; rw [c23b0]) | skip)
      by_cases c24 : t105 = 14
      ·rw [if_pos c24] at H
       have c24b0 : (t105 == 14) = true := beq_iff_eq.mpr c24
       have c24b1 : (t105 != 14) = false := bne_eq_false_iff_eq.mpr c24
       clear c24
       by_cases c25 : (t104.length : Int) = 0
       ·rw [if_pos c25] at H
        have c25b0 : ((t104.length : Int) == 0) = true := beq_iff_eq.mpr c25
        have c25b1 : ((t104.length : Int) != 0) = false := bne_eq_false_iff_eq.mpr c25
        clear c25
        have H' := Aside0.mk H
        clear H
        obtain ⟨Ao26, co26, eo26⟩ := Kd.rS9 HO107.out
        subst eo26
        go_wp2
        go_meet
        case rel => exact ⟨_, H', ⟨by have := HJ3.out; first | omega | exact Nat.le_refl _⟩, ⟨by (with_reducible repeat (first | refine kN9 ?_ _ | refine kD9 ?_ | refine kA9 ?_ _)); exact BK101.out⟩, ⟨by repeat (first | (with_reducible first | exact HB.out | apply bA9 | apply bN9 | apply bD9 | refine bS9 ?_ GE101.out) | exact HB.out)⟩⟩
       ·rw [if_neg c25] at H
        exact absurd H (by simp)
      ·rw [if_neg c24] at H
       exact absurd H (by simp)
     ·rw [if_neg c23] at H
      have c23b0 : decide (1024 < t111) = false := decide_eq_false c23
      clear c23
      (first | rw [c23b0] | (simp only [i64_w, i32_w]; rw [c23b0]) | skip)
      by_cases c27 : t105 = 0
      ·rw [if_pos c27] at H
       have c27b0 : (t105 == 0) = true := beq_iff_eq.mpr c27
       have c27b1 : (t105 != 0) = false := bne_eq_false_iff_eq.mpr c27
       clear c27
       replace H := Option.bind_eq_some_iff.mp H
       obtain ⟨t112, A280, H⟩ := H
       (try dsimp only at H)
       have A28 := Aside0.mk A280
       clear A280
       replace H := Option.bind_eq_some_iff.mp H
       obtain ⟨t115, A290, H⟩ := H
       (try dsimp only at H)
       have A29 := Aside0.mk A290
       clear A290
       by_cases c30 : t115 = true
       ·subst c30
        have H1 : (Back9.j1 kj3 a2 a1_0 l1_1 l1_2) = some r := by rw [if_pos rfl] at H; exact H
        clear H
        have H := H1
        clear H1
        have H' := Aside0.mk H
        clear H
        go_wp2_with (first | (go_at_call 25; (with_reducible refine (r1Of.calls kj3 _ _ l0 t112 _ ?side1 ?side2 A28.out).mono ?_); (case side1 => repeat (first | exact (Kd.cB9 HR0.out HB.out) | (with_reducible refine Kd.cA9 ?_ _) | (with_reducible refine Kd.cN9 ?_ _) | (with_reducible refine Kd.cD9 ?_))); (case side2 => exact HC0.out); rintro e w31 ⟨v113, rfl, ho0, hb⟩; have n0_ := Aside0.mk (Kd.rB9 (by (with_reducible repeat (first | apply Kd.rA9 | apply Kd.rN9 | apply Kd.rD9)); exact HO107.out) hb); have n1_ := Aside0.mk (Kd.R_elder' (by (with_reducible repeat (first | apply Kd.rA9 | apply Kd.rN9 | apply Kd.rD9)); exact HO110.out) (Kd.R_base ho0) hb); have n2_ := Aside0.mk (Kd.rL9 (Kd.R_new' ho0 (Kd.R_lt (by (with_reducible repeat (first | apply Kd.rA9 | apply Kd.rN9 | apply Kd.rD9)); exact HO110.out))) (bZ9 (by repeat (first | (with_reducible first | exact HB.out | apply bA9 | apply bN9 | apply bD9 | refine bS9 ?_ GE101.out) | exact HB.out)))); have n3_ := Aside0.mk (kB9 (g := gb101) (o := .cells #[.bool a1_0, .slice A1_1 l1_1.length c1_1, .slice A1_2 l1_2.length c1_2] 35 (0, 0)) (by (with_reducible repeat (first | refine kN9 ?_ _ | refine kD9 ?_ | refine kA9 ?_ _)); exact BK101.out) hb); have n4_ := Aside0.mk (bT9 (by repeat (first | (with_reducible first | exact HB.out | apply bA9 | apply bN9 | apply bD9 | refine bS9 ?_ GE101.out) | exact HB.out)) hb); clear HO107; clear HO110; clear BK101; clear HB; have HO107 := n0_; have HO110 := n1_; have HO114 := n2_; have BK101 := n3_; have HB := n4_; clear n0_ n1_ n2_ n3_ n4_; (try clear hb); (try clear hb2); (try clear hk); (try clear hi); (try clear ho0); obtain ⟨Ao32, co32, eo32⟩ := Kd.rS9 HO114.out; subst eo32; obtain ⟨Ao33, co33, eo33⟩ := Kd.rS9 HO107.out; subst eo33) | (go_at_call 14; (with_reducible refine (r1Is.calls kj3 _ _ t112 _ _ t104 true _ ?side1 ?side2 ?side3 ?side4 A29.out).mono ?_); (case side1 => repeat (first | exact (Kd.rR9 HO114.out).2.2 | (with_reducible refine Kd.cA9 ?_ _) | (with_reducible refine Kd.cN9 ?_ _) | (with_reducible refine Kd.cD9 ?_))); (case side2 => exact (Kd.rR9 HO114.out).2.1); (case side3 => repeat (first | exact (Kd.rR9 HO107.out).2.2 | (with_reducible refine Kd.cA9 ?_ _) | (with_reducible refine Kd.cN9 ?_ _) | (with_reducible refine Kd.cD9 ?_))); (case side4 => exact (Kd.rR9 HO107.out).2.1); rintro e w34 ⟨rfl, hb⟩; have n0_ := Aside0.mk (Kd.rB9 (by (with_reducible repeat (first | apply Kd.rA9 | apply Kd.rN9 | apply Kd.rD9)); exact HO107.out) hb); have n1_ := Aside0.mk (Kd.rB9 (by (with_reducible repeat (first | apply Kd.rA9 | apply Kd.rN9 | apply Kd.rD9)); exact HO110.out) hb); have n2_ := Aside0.mk (Kd.rB9 (by (with_reducible repeat (first | apply Kd.rA9 | apply Kd.rN9 | apply Kd.rD9)); exact HO114.out) hb); have n3_ := Aside0.mk (kB9 (g := gb101) (o := .cells #[.bool a1_0, .slice A1_1 l1_1.length c1_1, .slice A1_2 l1_2.length c1_2] 35 (0, 0)) (by (with_reducible repeat (first | refine kN9 ?_ _ | refine kD9 ?_ | refine kA9 ?_ _)); exact BK101.out) hb); have n4_ := Aside0.mk (bT9 (by repeat (first | (with_reducible first | exact HB.out | apply bA9 | apply bN9 | apply bD9 | refine bS9 ?_ GE101.out) | exact HB.out)) hb); clear HO107; clear HO110; clear HO114; clear BK101; clear HB; have HO107 := n0_; have HO110 := n1_; have HO114 := n2_; have BK101 := n3_; have HB := n4_; clear n0_ n1_ n2_ n3_ n4_; (try clear hb); (try clear hb2); (try clear hk); (try clear hi)))
        go_meet
        case rel => exact ⟨_, H', ⟨by have := HJ3.out; first | omega | exact Nat.le_refl _⟩, ⟨by (with_reducible repeat (first | refine kN9 ?_ _ | refine kD9 ?_ | refine kA9 ?_ _)); exact BK101.out⟩, ⟨by repeat (first | (with_reducible first | exact HB.out | apply bA9 | apply bN9 | apply bD9 | refine bS9 ?_ GE101.out) | exact HB.out)⟩⟩
       ·replace c30 := Bool.eq_false_iff.mpr c30
        subst c30
        have H1 : (none) = some r := by rw [if_neg (show ¬ (false = true) by decide)] at H; exact H
        clear H
        have H := H1
        clear H1
        exact absurd H (by simp)
      ·rw [if_neg c27] at H
       exact absurd H (by simp)
    case rest => as_aux_lemma =>
     clear HC17
     try clear c1
     try clear c2
     try clear p2
     try clear c3
     try clear c6
     try clear c6b0
     try clear c6b1
     try clear c7
     try clear c7b0
     try clear c7b1
     try clear c10
     try clear c12
     try clear c15
     try clear c23
     try clear c23b0
     try clear c24
     try clear c24b0
     try clear c24b1
     try clear c25
     try clear c25b0
     try clear c25b1
     try clear c27
     try clear c27b0
     try clear c27b1
     try clear c30
     try clear hcz8_0
     try clear hcz8_1
     try clear hcz8_2
     try clear hcz9_0
     try clear hcz9_1
     try clear hcz9_2
     try clear hfz8_0
     try clear hfz8_1
     try clear hfz8_2
     try clear hfz9_0
     try clear hfz9_1
     try clear hfz9_2
     try clear p2
     obtain ⟨kq, HA, HJ16, BK101, HB⟩ := hcut
     cases kq with
     | zero => exact absurd HA.out (by simp [Back9.j1])
     | succ kj16 =>
      have H := HA.out
      clear HA
      simp only [Back9.j1] at H
      replace H := Option.bind_eq_some_iff.mp H
      obtain ⟨t116, A350, H⟩ := H
      (try dsimp only at H)
      have A35 := Aside0.mk A350
      clear A350
      replace H := Option.bind_eq_some_iff.mp H
      obtain ⟨⟨t117, t118, t121, t124⟩, A360, H⟩ := H
      (try dsimp only at H)
      have A36 := Aside0.mk A360
      clear A360
      have HC37 := Aside0.mk H
      clear H
      have hcz38_0 : wc.cell? ⟨gb101, 0, none⟩ = some (.bool a1_0) := (kC9 BK101.out 0).trans rfl
      have hcz38_1 : wc.cell? ⟨gb101, 1, none⟩ = some (.slice A1_1 l1_1.length c1_1) := (kC9 BK101.out 1).trans rfl
      have hcz38_2 : wc.cell? ⟨gb101, 2, none⟩ = some (.slice A1_2 l1_2.length c1_2) := (kC9 BK101.out 2).trans rfl
      have hfz38_0 := kF9 BK101.out 0
      have hfz38_1 := kF9 BK101.out 1
      have hfz38_2 := kF9 BK101.out 2
      go_upto_region 10 with (first | ((with_reducible refine gC9 (f := 16) rfl ?_); refine goesL_ (some 59) rfl rfl Tryz.func16 (by kernel_rfl) rfl #[.agg #[.bool a1_0, .slice A1_1 l1_1.length c1_1, .slice A1_2 l1_2.length c1_2]] rfl (by (try simp only [List.map_toArray, List.map_cons, List.map_nil]); first | done | rfl | (simp only [List.length_drop, List.length_take]; rfl)) ?_; (with_reducible refine (digits_Rat.calls kj16 a1_0 _ _ l1_1 _ _ l1_2 t116 _ (PowTab.below HT.out (by repeat (first | (with_reducible first | exact HB.out | apply bA9 | apply bN9 | apply bD9 | refine bS9 ?_ GE101.out | refine bS9 ?_ GE125.out | refine bS9 ?_ GE148.out) | exact HB.out))) ?side1 ?side2 ?side3 ?side4 A35.out).mono ?_); (case side1 => repeat (first | exact (Kd.cB9 HR1_1.out HB.out) | (with_reducible refine Kd.cA9 ?_ _) | (with_reducible refine Kd.cN9 ?_ _) | (with_reducible refine Kd.cD9 ?_))); (case side2 => exact HC1_1.out); (case side3 => repeat (first | exact (Kd.cB9 HR1_2.out HB.out) | (with_reducible refine Kd.cA9 ?_ _) | (with_reducible refine Kd.cN9 ?_ _) | (with_reducible refine Kd.cD9 ?_))); (case side4 => exact HC1_2.out); rintro e w39 ⟨rfl, hb⟩; refine ⟨_, rfl, ?_⟩; have n0_ := Aside0.mk (kB9 (g := gb101) (o := .cells #[.bool a1_0, .slice A1_1 l1_1.length c1_1, .slice A1_2 l1_2.length c1_2] 35 (0, 0)) (by (with_reducible repeat (first | refine kN9 ?_ _ | refine kD9 ?_ | refine kA9 ?_ _)); exact BK101.out) hb); have n1_ := Aside0.mk (bT9 (by repeat (first | (with_reducible first | exact HB.out | apply bA9 | apply bN9 | apply bD9 | refine bS9 ?_ GE101.out) | exact HB.out)) hb); clear BK101; clear HB; have BK101 := n0_; have HB := n1_; clear n0_ n1_; (try clear hb); (try clear hb2); (try clear hk); (try clear hi)) | ((with_reducible refine gC9 (f := 19) rfl ?_); refine goesL_ (some 60) rfl rfl Tryz.func19 (by kernel_rfl) rfl #[.string t116] rfl (by (try simp only [List.map_toArray, List.map_cons, List.map_nil]); first | done | rfl | (simp only [List.length_drop, List.length_take]; rfl)) ?_; (with_reducible refine (digits_ParseRat.calls kj16 t116 t117 t118 t121 t124 _ A36.out).mono ?_); rintro e w40 ⟨v119, v122, rfl, ho0, ho1, hb⟩; refine ⟨_, rfl, ?_⟩; have n0_ := Aside0.mk (Kd.rL9 ho0 (bZ9 (by repeat (first | (with_reducible first | exact HB.out | apply bA9 | apply bN9 | apply bD9 | refine bS9 ?_ GE101.out) | exact HB.out)))); have n1_ := Aside0.mk (Kd.rL9 ho1 (bZ9 (by repeat (first | (with_reducible first | exact HB.out | apply bA9 | apply bN9 | apply bD9 | refine bS9 ?_ GE101.out) | exact HB.out)))); have n2_ := Aside0.mk (kB9 (g := gb101) (o := .cells #[.bool a1_0, .slice A1_1 l1_1.length c1_1, .slice A1_2 l1_2.length c1_2] 35 (0, 0)) (by (with_reducible repeat (first | refine kN9 ?_ _ | refine kD9 ?_ | refine kA9 ?_ _)); exact BK101.out) hb); have n3_ := Aside0.mk (bT9 (by repeat (first | (with_reducible first | exact HB.out | apply bA9 | apply bN9 | apply bD9 | refine bS9 ?_ GE101.out) | exact HB.out)) hb); clear BK101; clear HB; have HO120 := n0_; have HO123 := n1_; have BK101 := n2_; have HB := n3_; clear n0_ n1_ n2_ n3_; (try clear hb); (try clear hb2); (try clear hk); (try clear hi); (try clear ho0); (try clear ho1)) | ((with_reducible refine gD9 (N := 9) rfl ?_); (try (refine gate_guard (by rfl) ?_; dsimp only)); refine bE9 ?hg (N := 9) ?hd (cs := #[.bool false, .slice none 0 0, .slice none 0 0]) (t := 35) ?hr ?_; (case hd => rfl); (case hg => rfl); (case hr => first | (go_simp; done) | (go_simp; rfl)); intro gb125 hg w41 hbox hb; have n0_ := Aside0.mk (Kd.rB9 (by (with_reducible repeat (first | apply Kd.rA9 | apply Kd.rN9 | apply Kd.rD9)); exact HO120.out) hb); have n1_ := Aside0.mk (Kd.rB9 (by (with_reducible repeat (first | apply Kd.rA9 | apply Kd.rN9 | apply Kd.rD9)); exact HO123.out) hb); have n2_ := Aside0.mk (kB9 (g := gb101) (o := .cells #[.bool a1_0, .slice A1_1 l1_1.length c1_1, .slice A1_2 l1_2.length c1_2] 35 (0, 0)) (by (with_reducible repeat (first | refine kN9 ?_ _ | refine kD9 ?_ | refine kA9 ?_ _)); exact BK101.out) hb); have n3_ := Aside0.mk (bT9 (by repeat (first | (with_reducible first | exact HB.out | apply bA9 | apply bN9 | apply bD9 | refine bS9 ?_ GE101.out) | exact HB.out)) hb); have n4_ := Aside0.mk (hbox); have n5_ := Aside0.mk ((by rw [hg]; exact (bZ9 (by repeat (first | (with_reducible first | exact HB.out | apply bA9 | apply bN9 | apply bD9 | refine bS9 ?_ GE101.out) | exact HB.out))) : w.heap.size ≤ gb125)); have n6_ := Aside0.mk ((by rw [hg]; exact (bZ9 (by repeat (first | (with_reducible first | exact HB.out | apply bA9 | apply bN9 | apply bD9 | refine bS9 ?_ GE101.out) | exact HB.out))) : w.heap.size ≤ gb125)); have n7_ := Aside0.mk ((by rw [hg]; exact Nat.ne_of_lt (blk_lt (g := gb101) (o := .cells #[.bool a1_0, .slice A1_1 l1_1.length c1_1, .slice A1_2 l1_2.length c1_2] 35 (0, 0)) (by (with_reducible repeat (first | refine kN9 ?_ _ | refine kD9 ?_ | refine kA9 ?_ _)); exact BK101.out)) : gb101 ≠ gb125)); have n8_ := Aside0.mk ((by rw [hg]; exact Nat.ne_of_gt (blk_lt (g := gb101) (o := .cells #[.bool a1_0, .slice A1_1 l1_1.length c1_1, .slice A1_2 l1_2.length c1_2] 35 (0, 0)) (by (with_reducible repeat (first | refine kN9 ?_ _ | refine kD9 ?_ | refine kA9 ?_ _)); exact BK101.out)) : gb125 ≠ gb101)); clear HO120; clear HO123; clear BK101; clear HB; have HO120 := n0_; have HO123 := n1_; have BK101 := n2_; have HB := n3_; have BK125 := n4_; have GW125 := n5_; have GE125 := n6_; have NB101_125 := n7_; have NB125_101 := n8_; clear n0_ n1_ n2_ n3_ n4_ n5_ n6_ n7_ n8_; clear hb hbox hg; have hnb42 := NB125_101.out; have hnc42 := NB101_125.out; have hcz43_0 : w41.cell? ⟨gb125, 0, none⟩ = some (.bool false) := (kC9 BK125.out 0).trans rfl; have hcz43_1 : w41.cell? ⟨gb125, 1, none⟩ = some (.slice none 0 0) := (kC9 BK125.out 1).trans rfl; have hcz43_2 : w41.cell? ⟨gb125, 2, none⟩ = some (.slice none 0 0) := (kC9 BK125.out 2).trans rfl; have hfz43_0 := kF9 BK125.out 0; have hfz43_1 := kF9 BK125.out 1; have hfz43_2 := kF9 BK125.out 2; obtain ⟨Ao44, co44, eo44⟩ := Kd.rS9 HO120.out; subst eo44; obtain ⟨Ao45, co45, eo45⟩ := Kd.rS9 HO123.out; subst eo45))
      (try simp only [Act.put, List.setIfInBounds_toArray, List.set_cons_zero, List.set_cons_succ])
      go_cut [71] (fun v71 wc => ∃ (kq : Nat) (x71_36 : Bool), v71 = .bool x71_36 ∧ Aside0 (Back9.j2 kq a2 x71_36 = some r) ∧ Aside0 (kq ≤ kj16) ∧ Aside0 (Kd.R (Kd.int .u32) 56 wc w.heap.size (fun k_ => some k_ ≠ ((.slice Ao45 t121.length co45) : Value).ownBlock) (.slice Ao44 t118.length co44) t118) ∧ Aside0 (Kd.R (Kd.int .u32) 56 wc w.heap.size (fun k_ => some k_ ≠ ((.slice Ao44 t118.length co44) : Value).ownBlock) (.slice Ao45 t121.length co45) t121) ∧ Aside0 (wc.heap[gb101]? = some (.cells #[.bool a1_0, (.slice A1_1 l1_1.length c1_1), (.slice A1_2 l1_2.length c1_2)] 35 (0, 0))) ∧ Aside0 (wc.heap[gb125]? = some (.cells #[.bool t117, (.slice Ao44 t118.length co44), (.slice Ao45 t121.length co45)] 35 (0, 0))) ∧ Aside0 (Below w.heap.size w wc))
      case first =>
       have H := HC37.out
       clear HC37
       by_cases c46 : t124 = 0
       ·rw [if_pos c46] at H
        have c46b0 : (t124 == 0) = true := beq_iff_eq.mpr c46
        have c46b1 : (t124 != 0) = false := bne_eq_false_iff_eq.mpr c46
        clear c46
        (first | rw [c46b0] | (simp only [i64_w, i32_w]; rw [c46b0]) | skip)
        replace H := Option.bind_eq_some_iff.mp H
        obtain ⟨⟨t126, t127, t130⟩, A470, H⟩ := H
        (try dsimp only at H)
        have A47 := Aside0.mk A470
        clear A470
        replace H := Option.bind_eq_some_iff.mp H
        obtain ⟨t133, A480, H⟩ := H
        replace H : (Back9.j2 kj16 a2 (!t133)) = some r := H
        have A48 := Aside0.mk A480
        clear A480
        have H' := Aside0.mk H
        clear H
        try go_wp2
        have n0_ : Aside0 (Kd.R (Kd.int .u32) 56 (((w41.setCell ⟨gb125, 0, none⟩ (.bool t117)).setCell ⟨gb125, 1, none⟩ (.slice Ao44 t118.length co44)).setCell ⟨gb125, 2, none⟩ (.slice Ao45 t121.length co45)) w.heap.size (fun k_ => some k_ ≠ (.slice Ao45 t121.length co45 : Value).ownBlock) (.slice Ao44 t118.length co44) t118) := ⟨by (with_reducible repeat (first | apply Kd.rA9 | apply Kd.rN9 | apply Kd.rD9)); exact Kd.R_mono (Kd.R_far (p := ⟨gb125, 2, none⟩) (Kd.R_far (p := ⟨gb125, 1, none⟩) (Kd.R_far (p := ⟨gb125, 0, none⟩) (Kd.rT9 HO120.out BK125.out (by decide)) (fun _ hk => hk.2) (.bool t117)) (fun _ hk => hk.2) (.slice Ao44 t118.length co44)) (fun _ hk => hk.2) (.slice Ao45 t121.length co45)) (fun _ hk => hk.1)⟩
        have n1_ : Aside0 (Kd.R (Kd.int .u32) 56 (((w41.setCell ⟨gb125, 0, none⟩ (.bool t117)).setCell ⟨gb125, 1, none⟩ (.slice Ao44 t118.length co44)).setCell ⟨gb125, 2, none⟩ (.slice Ao45 t121.length co45)) w.heap.size (fun k_ => some k_ ≠ (.slice Ao44 t118.length co44 : Value).ownBlock) (.slice Ao45 t121.length co45) t121) := ⟨by (with_reducible repeat (first | apply Kd.rA9 | apply Kd.rN9 | apply Kd.rD9)); exact Kd.R_mono (Kd.R_far (p := ⟨gb125, 2, none⟩) (Kd.R_far (p := ⟨gb125, 1, none⟩) (Kd.R_far (p := ⟨gb125, 0, none⟩) (Kd.rT9 HO123.out BK125.out (by decide)) (fun _ hk => hk.2) (.bool t117)) (fun _ hk => hk.2) (.slice Ao44 t118.length co44)) (fun _ hk => hk.2) (.slice Ao45 t121.length co45)) (fun _ hk => hk.1)⟩
        have n2_ : Aside0 ((((w41.setCell ⟨gb125, 0, none⟩ (.bool t117)).setCell ⟨gb125, 1, none⟩ (.slice Ao44 t118.length co44)).setCell ⟨gb125, 2, none⟩ (.slice Ao45 t121.length co45)).heap[gb101]? = some (.cells #[.bool a1_0, .slice A1_1 l1_1.length c1_1, .slice A1_2 l1_2.length c1_2] 35 (0, 0))) := ⟨by (with_reducible repeat (first | refine kN9 ?_ _ | refine kD9 ?_ | refine kA9 ?_ _)); refine blk_far ?_ NB101_125.out _; (with_reducible repeat (first | refine kN9 ?_ _ | refine kD9 ?_ | refine kA9 ?_ _)); refine blk_far ?_ NB101_125.out _; (with_reducible repeat (first | refine kN9 ?_ _ | refine kD9 ?_ | refine kA9 ?_ _)); refine blk_far ?_ NB101_125.out _; (with_reducible repeat (first | refine kN9 ?_ _ | refine kD9 ?_ | refine kA9 ?_ _)); exact BK101.out⟩
        have n3_ : Aside0 ((((w41.setCell ⟨gb125, 0, none⟩ (.bool t117)).setCell ⟨gb125, 1, none⟩ (.slice Ao44 t118.length co44)).setCell ⟨gb125, 2, none⟩ (.slice Ao45 t121.length co45)).heap[gb125]? = some (.cells #[.bool t117, .slice Ao44 t118.length co44, .slice Ao45 t121.length co45] 35 (0, 0))) := ⟨by (with_reducible repeat (first | refine kN9 ?_ _ | refine kD9 ?_ | refine kA9 ?_ _)); refine kP9 (cs := #[.bool t117, .slice Ao44 t118.length co44, .slice none 0 0]) ?_ 2 _ rfl; (with_reducible repeat (first | refine kN9 ?_ _ | refine kD9 ?_ | refine kA9 ?_ _)); refine kP9 (cs := #[.bool t117, .slice none 0 0, .slice none 0 0]) ?_ 1 _ rfl; (with_reducible repeat (first | refine kN9 ?_ _ | refine kD9 ?_ | refine kA9 ?_ _)); refine kP9 (cs := #[.bool false, .slice none 0 0, .slice none 0 0]) ?_ 0 _ rfl; (with_reducible repeat (first | refine kN9 ?_ _ | refine kD9 ?_ | refine kA9 ?_ _)); exact BK125.out⟩
        have n4_ : Aside0 (Below w.heap.size w (((w41.setCell ⟨gb125, 0, none⟩ (.bool t117)).setCell ⟨gb125, 1, none⟩ (.slice Ao44 t118.length co44)).setCell ⟨gb125, 2, none⟩ (.slice Ao45 t121.length co45))) := ⟨by repeat (first | (with_reducible first | exact HB.out | apply bA9 | apply bN9 | apply bD9 | refine bS9 ?_ GE101.out | refine bS9 ?_ GE125.out) | exact HB.out)⟩
        (try clear HO120)
        (try clear HO123)
        (try clear BK101)
        (try clear BK125)
        (try clear HB)
        generalize (((w41.setCell ⟨gb125, 0, none⟩ (.bool t117)).setCell ⟨gb125, 1, none⟩ (.slice Ao44 t118.length co44)).setCell ⟨gb125, 2, none⟩ (.slice Ao45 t121.length co45)) = w49 at n0_ n1_ n2_ n3_ n4_ ⊢
        have HO120 := n0_
        have HO123 := n1_
        have BK101 := n2_
        have BK125 := n3_
        have HB := n4_
        clear n0_ n1_ n2_ n3_ n4_
        have n0_ := Aside0.mk (Kd.rD9 HO120.out)
        have n1_ := Aside0.mk (Kd.rD9 HO123.out)
        have n2_ := Aside0.mk (kD9 BK101.out)
        have n3_ := Aside0.mk (kD9 BK125.out)
        have n4_ := Aside0.mk (bD9 HB.out)
        clear HO120
        clear HO123
        clear BK101
        clear BK125
        clear HB
        have HO120 := n0_
        have HO123 := n1_
        have BK101 := n2_
        have BK125 := n3_
        have HB := n4_
        clear n0_ n1_ n2_ n3_ n4_
        refine start_ (n := 9) (S := fun w' => w'.cell? ⟨gb101, 0, none⟩ = some (.bool a1_0) ∧ w'.cell? ⟨gb101, 1, none⟩ = some (.slice A1_1 l1_1.length c1_1) ∧ w'.cell? ⟨gb101, 2, none⟩ = some (.slice A1_2 l1_2.length c1_2) ∧ w'.cell? ⟨gb125, 0, none⟩ = some (.bool t117) ∧ w'.cell? ⟨gb125, 1, none⟩ = some (.slice Ao44 t118.length co44) ∧ w'.cell? ⟨gb125, 2, none⟩ = some (.slice Ao45 t121.length co45)) (ds := []) #[false, false, false, false, false, false, false, false, false] (by kernel_rfl) rfl rfl ⟨(kC9 BK101.out 0).trans rfl, (kC9 BK101.out 1).trans rfl, (kC9 BK101.out 2).trans rfl, (kC9 BK125.out 0).trans rfl, (kC9 BK125.out 1).trans rfl, (kC9 BK125.out 2).trans rfl⟩ (fun hHeld => ?_); refine with_tabW Back9.tab10 Back9.bits10 (fun HT_ HW_ => ?_)
        generalize w49.drew = w50 at HO120 HO123 BK101 BK125 HB hHeld ⊢
        refine pure_ (i := 0) (N := some 63) (v := ?_) (a' := ?_) #[true, false, false, false, false, false, false, false, false] rfl rfl (any_of HT_.out (by kernel_rfl)) (fun _ _ _ h => h) (Or.inl ⟨by rfl, ?_⟩) ?_ ?_
        rotate_left
        ·intro w'
         go_simp
         with_reducible rfl
        rotate_left
        ·simp only [Act.put, List.setIfInBounds_toArray, List.set_cons_zero, List.set_cons_succ, i64_w, i32_w]
         rfl
        refine pure_ (i := 1) (N := some 64) (v := ?_) (a' := ?_) #[true, true, false, false, false, false, false, false, false] rfl rfl (any_of HT_.out (by kernel_rfl)) (fun _ _ _ h => h) (Or.inl ⟨by rfl, ?_⟩) ?_ ?_
        rotate_left
        ·intro w'
         go_simp
         with_reducible rfl
        rotate_left
        ·simp only [Act.put, List.setIfInBounds_toArray, List.set_cons_zero, List.set_cons_succ, i64_w, i32_w]
         rfl
        refine pure_ (i := 2) (N := some 65) (v := ?_) (a' := ?_) #[true, true, true, false, false, false, false, false, false] rfl rfl (any_of HT_.out (by kernel_rfl)) (fun _ _ _ h => h) (Or.inl ⟨by rfl, ?_⟩) ?_ ?_
        rotate_left
        ·intro w'
         go_simp
         with_reducible rfl
        rotate_left
        ·simp only [Act.put, List.setIfInBounds_toArray, List.set_cons_zero, List.set_cons_succ, i64_w, i32_w]
         rfl
        refine take_ (i := 3) (N := some 66) (v := ?_) (a' := ?_) #[true, true, true, true, false, false, false, false, false] rfl rfl (take_ofW HT_.out HW_.out (by kernel_rfl)) (fun _ _ _ h => h) (Or.inl ⟨by rfl, ?_⟩) hHeld ?_ ?_
        rotate_left
        ·rintro w' ⟨s0, s1, s2, s3, s4, s5⟩
         go_simp
         with_reducible rfl
        rotate_left
        ·simp only [Act.put, List.setIfInBounds_toArray, List.set_cons_zero, List.set_cons_succ, i64_w, i32_w]
         rfl
        refine take_ (i := 5) (N := some 68) (v := ?_) (a' := ?_) #[true, true, true, true, false, true, false, false, false] rfl rfl (take_ofW HT_.out HW_.out (by kernel_rfl)) (fun _ _ _ h => h) (Or.inl ⟨by rfl, ?_⟩) hHeld ?_ ?_
        rotate_left
        ·rintro w' ⟨s0, s1, s2, s3, s4, s5⟩
         go_simp
         with_reducible rfl
        rotate_left
        ·simp only [Act.put, List.setIfInBounds_toArray, List.set_cons_zero, List.set_cons_succ, i64_w, i32_w]
         rfl
        refine one_ (i := 4) (N := some 67) #[true, true, true, true, true, true, false, false, false] rfl rfl (one_of HT_.out (by kernel_rfl)) (by decide) (fun K hK => ?_)
        refine goes_ Tryz.func18 (by kernel_rfl) rfl #[.agg #[.bool a1_0, .slice A1_1 l1_1.length c1_1, .slice A1_2 l1_2.length c1_2]] (by rfl) rfl rfl (by (try simp only [List.map_toArray, List.map_cons, List.map_nil]); first | done | rfl | (simp only [List.length_drop, List.length_take]; rfl)) ?_
        with_reducible refine (r3Of.calls kj16 a1_0 _ _ l1_1 _ _ l1_2 t126 t127 t130 _ ?side1 ?side2 ?side3 ?side4 A47.out).mono ?_
        (case side1 => repeat (first | exact (Kd.cB9 HR1_1.out HB.out) | (with_reducible refine Kd.cA9 ?_ _) | (with_reducible refine Kd.cN9 ?_ _) | (with_reducible refine Kd.cD9 ?_)))
        (case side2 => exact HC1_1.out)
        (case side3 => repeat (first | exact (Kd.cB9 HR1_2.out HB.out) | (with_reducible refine Kd.cA9 ?_ _) | (with_reducible refine Kd.cN9 ?_ _) | (with_reducible refine Kd.cD9 ?_)))
        (case side4 => exact HC1_2.out)
        rintro e w51 ⟨v128, v131, rfl, ho0, ho1, hb⟩
        refine ⟨_, rfl, ?_⟩
        have n0_ := Aside0.mk (Kd.rB9 (by (with_reducible repeat (first | apply Kd.rA9 | apply Kd.rN9 | apply Kd.rD9)); exact HO120.out) hb)
        have n1_ := Aside0.mk (Kd.rB9 (by (with_reducible repeat (first | apply Kd.rA9 | apply Kd.rN9 | apply Kd.rD9)); exact HO123.out) hb)
        have n2_ := Aside0.mk (Kd.rL9 ho0 (bZ9 (by repeat (first | (with_reducible first | exact HB.out | apply bA9 | apply bN9 | apply bD9 | refine bS9 ?_ GE101.out | refine bS9 ?_ GE125.out) | exact HB.out))))
        have n3_ := Aside0.mk (Kd.rL9 ho1 (bZ9 (by repeat (first | (with_reducible first | exact HB.out | apply bA9 | apply bN9 | apply bD9 | refine bS9 ?_ GE101.out | refine bS9 ?_ GE125.out) | exact HB.out))))
        have n4_ := Aside0.mk (kB9 (g := gb101) (o := .cells #[.bool a1_0, .slice A1_1 l1_1.length c1_1, .slice A1_2 l1_2.length c1_2] 35 (0, 0)) (by (with_reducible repeat (first | refine kN9 ?_ _ | refine kD9 ?_ | refine kA9 ?_ _)); exact BK101.out) hb)
        have n5_ := Aside0.mk (kB9 (g := gb125) (o := .cells #[.bool t117, .slice Ao44 t118.length co44, .slice Ao45 t121.length co45] 35 (0, 0)) (by (with_reducible repeat (first | refine kN9 ?_ _ | refine kD9 ?_ | refine kA9 ?_ _)); exact BK125.out) hb)
        have n6_ := Aside0.mk (bT9 (by repeat (first | (with_reducible first | exact HB.out | apply bA9 | apply bN9 | apply bD9 | refine bS9 ?_ GE101.out | refine bS9 ?_ GE125.out) | exact HB.out)) hb)
        clear HO120
        clear HO123
        clear BK101
        clear BK125
        clear HB
        have HO120 := n0_
        have HO123 := n1_
        have HO129 := n2_
        have HO132 := n3_
        have BK101 := n4_
        have BK125 := n5_
        have HB := n6_
        clear n0_ n1_ n2_ n3_ n4_ n5_ n6_
        (try clear hb)
        (try clear hb2)
        (try clear hk)
        (try clear hi)
        (try clear ho0)
        (try clear ho1)
        obtain ⟨Ao52, co52, eo52⟩ := Kd.rS9 HO129.out
        (first | subst eo52 | (injection eo52 with f1_ f2_ f3_; have f4_ := f1_.symm; have f5_ := f3_.symm; clear f1_ f2_ f3_; subst f4_; subst f5_))
        obtain ⟨Ao53, co53, eo53⟩ := Kd.rS9 HO132.out
        (first | subst eo53 | (injection eo53 with f1_ f2_ f3_; have f4_ := f1_.symm; have f5_ := f3_.symm; clear f1_ f2_ f3_; subst f4_; subst f5_))
        refine hK.out _ _ ⟨(kC9 BK101.out 0).trans rfl, (kC9 BK101.out 1).trans rfl, (kC9 BK101.out 2).trans rfl, (kC9 BK125.out 0).trans rfl, (kC9 BK125.out 1).trans rfl, (kC9 BK125.out 2).trans rfl⟩ (fun hHeld => ?_)
        clear hK K
        refine norm_ (a' := ?_) ?_ ?_
        rotate_left
        ·show Act.put _ (some 67) _ = _
         simp only [Act.put, List.setIfInBounds_toArray, List.set_cons_zero, List.set_cons_succ, i64_w, i32_w]
         rfl
        refine one_ (i := 6) (N := some 69) #[true, true, true, true, true, true, true, false, false] rfl rfl (one_of HT_.out (by kernel_rfl)) (by decide) (fun K hK => ?_)
        refine goes_ Tryz.func22 (by kernel_rfl) rfl #[.agg #[.bool t126, .slice Ao52 t127.length co52, .slice Ao53 t130.length co53], .agg #[.bool t117, .slice Ao44 t118.length co44, .slice Ao45 t121.length co45]] (by rfl) rfl rfl (by (try simp only [List.map_toArray, List.map_cons, List.map_nil]); first | done | rfl | (simp only [List.length_drop, List.length_take]; rfl)) ?_
        with_reducible refine (r3Is.calls kj16 t126 _ _ t127 _ _ t130 t117 _ _ t118 _ _ t121 t133 _ ?side1 ?side2 ?side3 ?side4 ?side5 ?side6 ?side7 ?side8 A48.out).mono ?_
        (case side1 => repeat (first | exact (Kd.rR9 HO129.out).2.2 | (with_reducible refine Kd.cA9 ?_ _) | (with_reducible refine Kd.cN9 ?_ _) | (with_reducible refine Kd.cD9 ?_)))
        (case side2 => exact (Kd.rR9 HO129.out).2.1)
        (case side3 => repeat (first | exact (Kd.rR9 HO132.out).2.2 | (with_reducible refine Kd.cA9 ?_ _) | (with_reducible refine Kd.cN9 ?_ _) | (with_reducible refine Kd.cD9 ?_)))
        (case side4 => exact (Kd.rR9 HO132.out).2.1)
        (case side5 => repeat (first | exact (Kd.rR9 HO120.out).2.2 | (with_reducible refine Kd.cA9 ?_ _) | (with_reducible refine Kd.cN9 ?_ _) | (with_reducible refine Kd.cD9 ?_)))
        (case side6 => exact (Kd.rR9 HO120.out).2.1)
        (case side7 => repeat (first | exact (Kd.rR9 HO123.out).2.2 | (with_reducible refine Kd.cA9 ?_ _) | (with_reducible refine Kd.cN9 ?_ _) | (with_reducible refine Kd.cD9 ?_)))
        (case side8 => exact (Kd.rR9 HO123.out).2.1)
        rintro e w54 ⟨rfl, hb⟩
        refine ⟨_, rfl, ?_⟩
        have n0_ := Aside0.mk (Kd.rB9 (by (with_reducible repeat (first | apply Kd.rA9 | apply Kd.rN9 | apply Kd.rD9)); exact HO120.out) hb)
        have n1_ := Aside0.mk (Kd.rB9 (by (with_reducible repeat (first | apply Kd.rA9 | apply Kd.rN9 | apply Kd.rD9)); exact HO123.out) hb)
        have n2_ := Aside0.mk (Kd.rB9 (by (with_reducible repeat (first | apply Kd.rA9 | apply Kd.rN9 | apply Kd.rD9)); exact HO129.out) hb)
        have n3_ := Aside0.mk (Kd.rB9 (by (with_reducible repeat (first | apply Kd.rA9 | apply Kd.rN9 | apply Kd.rD9)); exact HO132.out) hb)
        have n4_ := Aside0.mk (kB9 (g := gb101) (o := .cells #[.bool a1_0, .slice A1_1 l1_1.length c1_1, .slice A1_2 l1_2.length c1_2] 35 (0, 0)) (by (with_reducible repeat (first | refine kN9 ?_ _ | refine kD9 ?_ | refine kA9 ?_ _)); exact BK101.out) hb)
        have n5_ := Aside0.mk (kB9 (g := gb125) (o := .cells #[.bool t117, .slice Ao44 t118.length co44, .slice Ao45 t121.length co45] 35 (0, 0)) (by (with_reducible repeat (first | refine kN9 ?_ _ | refine kD9 ?_ | refine kA9 ?_ _)); exact BK125.out) hb)
        have n6_ := Aside0.mk (bT9 (by repeat (first | (with_reducible first | exact HB.out | apply bA9 | apply bN9 | apply bD9 | refine bS9 ?_ GE101.out | refine bS9 ?_ GE125.out) | exact HB.out)) hb)
        clear HO120
        clear HO123
        clear HO129
        clear HO132
        clear BK101
        clear BK125
        clear HB
        have HO120 := n0_
        have HO123 := n1_
        have HO129 := n2_
        have HO132 := n3_
        have BK101 := n4_
        have BK125 := n5_
        have HB := n6_
        clear n0_ n1_ n2_ n3_ n4_ n5_ n6_
        (try clear hb)
        (try clear hb2)
        (try clear hk)
        (try clear hi)
        refine hK.out _ _ ⟨(kC9 BK101.out 0).trans rfl, (kC9 BK101.out 1).trans rfl, (kC9 BK101.out 2).trans rfl, (kC9 BK125.out 0).trans rfl, (kC9 BK125.out 1).trans rfl, (kC9 BK125.out 2).trans rfl⟩ (fun hHeld => ?_)
        clear hK K
        refine norm_ (a' := ?_) ?_ ?_
        rotate_left
        ·show Act.put _ (some 69) _ = _
         simp only [Act.put, List.setIfInBounds_toArray, List.set_cons_zero, List.set_cons_succ, i64_w, i32_w]
         rfl
        refine pure_ (i := 7) (N := some 70) (v := ?_) (a' := ?_) #[true, true, true, true, true, true, true, true, false] rfl rfl (any_of HT_.out (by kernel_rfl)) (fun _ _ _ h => h) (Or.inl ⟨by rfl, ?_⟩) ?_ ?_
        rotate_left
        ·intro w'
         go_simp
         with_reducible rfl
        rotate_left
        ·simp only [Act.put, List.setIfInBounds_toArray, List.set_cons_zero, List.set_cons_succ, i64_w, i32_w]
         rfl
        refine pure_ (i := 8) (N := some 71) (v := ?_) (a' := ?_) #[true, true, true, true, true, true, true, true, true] rfl rfl (any_of HT_.out (by kernel_rfl)) (fun _ _ _ h => h) (Or.inl ⟨by rfl, ?_⟩) ?_ ?_
        rotate_left
        ·intro w'
         go_simp
         with_reducible rfl
        rotate_left
        ·simp only [Act.put, List.setIfInBounds_toArray, List.set_cons_zero, List.set_cons_succ, i64_w, i32_w]
         rfl
        refine done_ (done_of HT_.out (by kernel_rfl)) ?_
        try go_wp2
        go_meet
        case rel => exact ⟨_, (!t133), (by first | rfl | (simp; done) | (simp [*]; done)), H', ⟨by have := HJ3.out; have := HJ16.out; first | omega | exact Nat.le_refl _⟩, ⟨by (with_reducible repeat (first | apply Kd.rA9 | apply Kd.rN9 | apply Kd.rD9)); exact HO120.out⟩, ⟨by (with_reducible repeat (first | apply Kd.rA9 | apply Kd.rN9 | apply Kd.rD9)); exact HO123.out⟩, ⟨by (with_reducible repeat (first | refine kN9 ?_ _ | refine kD9 ?_ | refine kA9 ?_ _)); exact BK101.out⟩, ⟨by (with_reducible repeat (first | refine kN9 ?_ _ | refine kD9 ?_ | refine kA9 ?_ _)); exact BK125.out⟩, ⟨by repeat (first | (with_reducible first | exact HB.out | apply bA9 | apply bN9 | apply bD9 | refine bS9 ?_ GE101.out | refine bS9 ?_ GE125.out) | exact HB.out)⟩⟩
       ·rw [if_neg c46] at H
        have c46b0 : (t124 == 0) = false := beq_eq_false_iff_ne.mpr c46
        have c46b1 : (t124 != 0) = true := bne_iff_ne.mpr c46
        (first | rw [c46b0] | (simp only [i64_w, i32_w]; rw [c46b0]) | skip)
        have H' := Aside0.mk H
        clear H
        try go_wp2
        have n0_ : Aside0 (Kd.R (Kd.int .u32) 56 (((w41.setCell ⟨gb125, 0, none⟩ (.bool t117)).setCell ⟨gb125, 1, none⟩ (.slice Ao44 t118.length co44)).setCell ⟨gb125, 2, none⟩ (.slice Ao45 t121.length co45)) w.heap.size (fun k_ => some k_ ≠ (.slice Ao45 t121.length co45 : Value).ownBlock) (.slice Ao44 t118.length co44) t118) := ⟨by (with_reducible repeat (first | apply Kd.rA9 | apply Kd.rN9 | apply Kd.rD9)); exact Kd.R_mono (Kd.R_far (p := ⟨gb125, 2, none⟩) (Kd.R_far (p := ⟨gb125, 1, none⟩) (Kd.R_far (p := ⟨gb125, 0, none⟩) (Kd.rT9 HO120.out BK125.out (by decide)) (fun _ hk => hk.2) (.bool t117)) (fun _ hk => hk.2) (.slice Ao44 t118.length co44)) (fun _ hk => hk.2) (.slice Ao45 t121.length co45)) (fun _ hk => hk.1)⟩
        have n1_ : Aside0 (Kd.R (Kd.int .u32) 56 (((w41.setCell ⟨gb125, 0, none⟩ (.bool t117)).setCell ⟨gb125, 1, none⟩ (.slice Ao44 t118.length co44)).setCell ⟨gb125, 2, none⟩ (.slice Ao45 t121.length co45)) w.heap.size (fun k_ => some k_ ≠ (.slice Ao44 t118.length co44 : Value).ownBlock) (.slice Ao45 t121.length co45) t121) := ⟨by (with_reducible repeat (first | apply Kd.rA9 | apply Kd.rN9 | apply Kd.rD9)); exact Kd.R_mono (Kd.R_far (p := ⟨gb125, 2, none⟩) (Kd.R_far (p := ⟨gb125, 1, none⟩) (Kd.R_far (p := ⟨gb125, 0, none⟩) (Kd.rT9 HO123.out BK125.out (by decide)) (fun _ hk => hk.2) (.bool t117)) (fun _ hk => hk.2) (.slice Ao44 t118.length co44)) (fun _ hk => hk.2) (.slice Ao45 t121.length co45)) (fun _ hk => hk.1)⟩
        have n2_ : Aside0 ((((w41.setCell ⟨gb125, 0, none⟩ (.bool t117)).setCell ⟨gb125, 1, none⟩ (.slice Ao44 t118.length co44)).setCell ⟨gb125, 2, none⟩ (.slice Ao45 t121.length co45)).heap[gb101]? = some (.cells #[.bool a1_0, .slice A1_1 l1_1.length c1_1, .slice A1_2 l1_2.length c1_2] 35 (0, 0))) := ⟨by (with_reducible repeat (first | refine kN9 ?_ _ | refine kD9 ?_ | refine kA9 ?_ _)); refine blk_far ?_ NB101_125.out _; (with_reducible repeat (first | refine kN9 ?_ _ | refine kD9 ?_ | refine kA9 ?_ _)); refine blk_far ?_ NB101_125.out _; (with_reducible repeat (first | refine kN9 ?_ _ | refine kD9 ?_ | refine kA9 ?_ _)); refine blk_far ?_ NB101_125.out _; (with_reducible repeat (first | refine kN9 ?_ _ | refine kD9 ?_ | refine kA9 ?_ _)); exact BK101.out⟩
        have n3_ : Aside0 ((((w41.setCell ⟨gb125, 0, none⟩ (.bool t117)).setCell ⟨gb125, 1, none⟩ (.slice Ao44 t118.length co44)).setCell ⟨gb125, 2, none⟩ (.slice Ao45 t121.length co45)).heap[gb125]? = some (.cells #[.bool t117, .slice Ao44 t118.length co44, .slice Ao45 t121.length co45] 35 (0, 0))) := ⟨by (with_reducible repeat (first | refine kN9 ?_ _ | refine kD9 ?_ | refine kA9 ?_ _)); refine kP9 (cs := #[.bool t117, .slice Ao44 t118.length co44, .slice none 0 0]) ?_ 2 _ rfl; (with_reducible repeat (first | refine kN9 ?_ _ | refine kD9 ?_ | refine kA9 ?_ _)); refine kP9 (cs := #[.bool t117, .slice none 0 0, .slice none 0 0]) ?_ 1 _ rfl; (with_reducible repeat (first | refine kN9 ?_ _ | refine kD9 ?_ | refine kA9 ?_ _)); refine kP9 (cs := #[.bool false, .slice none 0 0, .slice none 0 0]) ?_ 0 _ rfl; (with_reducible repeat (first | refine kN9 ?_ _ | refine kD9 ?_ | refine kA9 ?_ _)); exact BK125.out⟩
        have n4_ : Aside0 (Below w.heap.size w (((w41.setCell ⟨gb125, 0, none⟩ (.bool t117)).setCell ⟨gb125, 1, none⟩ (.slice Ao44 t118.length co44)).setCell ⟨gb125, 2, none⟩ (.slice Ao45 t121.length co45))) := ⟨by repeat (first | (with_reducible first | exact HB.out | apply bA9 | apply bN9 | apply bD9 | refine bS9 ?_ GE101.out | refine bS9 ?_ GE125.out) | exact HB.out)⟩
        (try clear HO120)
        (try clear HO123)
        (try clear BK101)
        (try clear BK125)
        (try clear HB)
        generalize (((w41.setCell ⟨gb125, 0, none⟩ (.bool t117)).setCell ⟨gb125, 1, none⟩ (.slice Ao44 t118.length co44)).setCell ⟨gb125, 2, none⟩ (.slice Ao45 t121.length co45)) = w55 at n0_ n1_ n2_ n3_ n4_ ⊢
        have HO120 := n0_
        have HO123 := n1_
        have BK101 := n2_
        have BK125 := n3_
        have HB := n4_
        clear n0_ n1_ n2_ n3_ n4_
        have n0_ := Aside0.mk (Kd.rD9 HO120.out)
        have n1_ := Aside0.mk (Kd.rD9 HO123.out)
        have n2_ := Aside0.mk (kD9 BK101.out)
        have n3_ := Aside0.mk (kD9 BK125.out)
        have n4_ := Aside0.mk (bD9 HB.out)
        clear HO120
        clear HO123
        clear BK101
        clear BK125
        clear HB
        have HO120 := n0_
        have HO123 := n1_
        have BK101 := n2_
        have BK125 := n3_
        have HB := n4_
        clear n0_ n1_ n2_ n3_ n4_
        refine start_ (n := 9) (S := fun w' => True) (ds := []) #[false, false, false, false, false, false, false, false, false] (by kernel_rfl) rfl rfl trivial (fun hHeld => ?_); refine with_tabW Back9.tab10 Back9.bits10 (fun HT_ HW_ => ?_)
        generalize w55.drew = w56 at HO120 HO123 BK101 BK125 HB hHeld ⊢
        refine pure_ (i := 0) (N := some 63) (v := ?_) (a' := ?_) #[true, false, false, false, false, false, false, false, false] rfl rfl (any_of HT_.out (by kernel_rfl)) (fun _ _ _ h => h) (Or.inl ⟨by rfl, ?_⟩) ?_ ?_
        rotate_left
        ·intro w'
         go_simp
         with_reducible rfl
        rotate_left
        ·simp only [Act.put, List.setIfInBounds_toArray, List.set_cons_zero, List.set_cons_succ, i64_w, i32_w]
         rfl
        refine pure_ (i := 1) (N := some 64) (v := ?_) (a' := ?_) #[true, true, false, false, false, false, false, false, false] rfl rfl (any_of HT_.out (by kernel_rfl)) (fun _ _ _ h => h) (Or.inl ⟨by rfl, ?_⟩) ?_ ?_
        rotate_left
        ·intro w'
         go_simp
         with_reducible rfl
        rotate_left
        ·simp only [Act.put, List.setIfInBounds_toArray, List.set_cons_zero, List.set_cons_succ, i64_w, i32_w]
         rfl
        refine pure_ (i := 2) (N := some 65) (v := ?_) (a' := ?_) #[true, true, true, false, false, false, false, false, false] rfl rfl (any_of HT_.out (by kernel_rfl)) (fun _ _ _ h => h) (Or.inl ⟨by rfl, ?_⟩) ?_ ?_
        rotate_left
        ·intro w'
         go_simp
         with_reducible rfl
        rotate_left
        ·simp only [Act.put, List.setIfInBounds_toArray, List.set_cons_zero, List.set_cons_succ, i64_w, i32_w]
         rfl
        refine pure_ (i := 3) (N := some 66) (v := undef) (a' := ?_) #[true, true, true, true, false, false, false, false, false] rfl rfl (any_of HT_.out (by kernel_rfl)) (fun _ _ _ h => h) (Or.inr ⟨by rfl, rfl⟩) ?_ ?_
        rotate_left
        ·simp only [Act.put, List.setIfInBounds_toArray, List.set_cons_zero, List.set_cons_succ, i64_w, i32_w]
         rfl
        refine pure_ (i := 4) (N := some 67) (v := undef) (a' := ?_) #[true, true, true, true, true, false, false, false, false] rfl rfl (any_of HT_.out (by kernel_rfl)) (fun _ _ _ h => h) (Or.inr ⟨by rfl, rfl⟩) ?_ ?_
        rotate_left
        ·simp only [Act.put, List.setIfInBounds_toArray, List.set_cons_zero, List.set_cons_succ, i64_w, i32_w]
         rfl
        refine pure_ (i := 5) (N := some 68) (v := undef) (a' := ?_) #[true, true, true, true, true, true, false, false, false] rfl rfl (any_of HT_.out (by kernel_rfl)) (fun _ _ _ h => h) (Or.inr ⟨by rfl, rfl⟩) ?_ ?_
        rotate_left
        ·simp only [Act.put, List.setIfInBounds_toArray, List.set_cons_zero, List.set_cons_succ, i64_w, i32_w]
         rfl
        refine pure_ (i := 6) (N := some 69) (v := undef) (a' := ?_) #[true, true, true, true, true, true, true, false, false] rfl rfl (any_of HT_.out (by kernel_rfl)) (fun _ _ _ h => h) (Or.inr ⟨by rfl, rfl⟩) ?_ ?_
        rotate_left
        ·simp only [Act.put, List.setIfInBounds_toArray, List.set_cons_zero, List.set_cons_succ, i64_w, i32_w]
         rfl
        refine pure_ (i := 7) (N := some 70) (v := undef) (a' := ?_) #[true, true, true, true, true, true, true, true, false] rfl rfl (any_of HT_.out (by kernel_rfl)) (fun _ _ _ h => h) (Or.inr ⟨by rfl, rfl⟩) ?_ ?_
        rotate_left
        ·simp only [Act.put, List.setIfInBounds_toArray, List.set_cons_zero, List.set_cons_succ, i64_w, i32_w]
         rfl
        refine pure_ (i := 8) (N := some 71) (v := ?_) (a' := ?_) #[true, true, true, true, true, true, true, true, true] rfl rfl (any_of HT_.out (by kernel_rfl)) (fun _ _ _ h => h) (Or.inl ⟨by rfl, ?_⟩) ?_ ?_
        rotate_left
        ·intro w'
         go_simp
         with_reducible rfl
        rotate_left
        ·simp only [Act.put, List.setIfInBounds_toArray, List.set_cons_zero, List.set_cons_succ, i64_w, i32_w]
         rfl
        refine done_ (done_of HT_.out (by kernel_rfl)) ?_
        try go_wp2
        go_meet
        case rel => exact ⟨_, (true), (by first | rfl | (simp; done) | (simp [*]; done)), H', ⟨by have := HJ3.out; have := HJ16.out; first | omega | exact Nat.le_refl _⟩, ⟨by (with_reducible repeat (first | apply Kd.rA9 | apply Kd.rN9 | apply Kd.rD9)); exact HO120.out⟩, ⟨by (with_reducible repeat (first | apply Kd.rA9 | apply Kd.rN9 | apply Kd.rD9)); exact HO123.out⟩, ⟨by (with_reducible repeat (first | refine kN9 ?_ _ | refine kD9 ?_ | refine kA9 ?_ _)); exact BK101.out⟩, ⟨by (with_reducible repeat (first | refine kN9 ?_ _ | refine kD9 ?_ | refine kA9 ?_ _)); exact BK125.out⟩, ⟨by repeat (first | (with_reducible first | exact HB.out | apply bA9 | apply bN9 | apply bD9 | refine bS9 ?_ GE101.out | refine bS9 ?_ GE125.out) | exact HB.out)⟩⟩
      case rest => as_aux_lemma =>
       clear HC37
       try clear c1
       try clear c2
       try clear p2
       try clear c3
       try clear c4
       try clear c6
       try clear c6b0
       try clear c6b1
       try clear c7
       try clear c7b0
       try clear c7b1
       try clear c10
       try clear c12
       try clear c15
       try clear c16
       try clear c18
       try clear c19
       try clear c22
       try clear c23
       try clear c23b0
       try clear c24
       try clear c24b0
       try clear c24b1
       try clear c25
       try clear c25b0
       try clear c25b1
       try clear c27
       try clear c27b0
       try clear c27b1
       try clear c30
       try clear c42
       try clear c46
       try clear c46b0
       try clear c46b1
       try clear hcz38_0
       try clear hcz38_1
       try clear hcz38_2
       try clear hcz43_0
       try clear hcz43_1
       try clear hcz43_2
       try clear hcz8_0
       try clear hcz8_1
       try clear hcz8_2
       try clear hcz9_0
       try clear hcz9_1
       try clear hcz9_2
       try clear hfz38_0
       try clear hfz38_1
       try clear hfz38_2
       try clear hfz43_0
       try clear hfz43_1
       try clear hfz43_2
       try clear hfz8_0
       try clear hfz8_1
       try clear hfz8_2
       try clear hfz9_0
       try clear hfz9_1
       try clear hfz9_2
       try clear p2
       obtain ⟨kq, x71_36, rfl, HA, HJ36, HO_126001, HO_126002, BK101, BK125, HB⟩ := hcut
       cases kq with
       | zero => exact absurd HA.out (by simp [Back9.j2])
       | succ kj36 =>
        have H := HA.out
        clear HA
        simp only [Back9.j2] at H
        by_cases c57 : x71_36 = true
        ·subst c57
         have H1 : (none) = some r := by rw [if_pos rfl] at H; exact H
         clear H
         have H := H1
         clear H1
         exact absurd H (by simp)
        ·replace c57 := Bool.eq_false_iff.mpr c57
         subst c57
         have H1 : ((digits_ParseNat.f a2).bind fun bt134 => (if bt134.2 = 0 then ((digits_Nat.f bt134.1).bind fun t138 => (Back9.j3 kj36 a2 (t138.toList != a2.toList))) else (Back9.j3 kj36 a2 false))) = some r := by rw [if_neg (show ¬ (false = true) by decide)] at H; exact H
         clear H
         have H := H1
         clear H1
         replace H := Option.bind_eq_some_iff.mp H
         obtain ⟨⟨t134, t135⟩, A580, H⟩ := H
         (try dsimp only at H)
         have A58 := Aside0.mk A580
         clear A580
         have HC59 := Aside0.mk H
         clear H
         go_upto_region 13 with (first | ((with_reducible refine gC9 (f := 12) rfl ?_); refine goesL_ (some 74) rfl rfl Tryz.func12 (by kernel_rfl) rfl #[.string a2] rfl (by (try simp only [List.map_toArray, List.map_cons, List.map_nil]); first | done | rfl | (simp only [List.length_drop, List.length_take]; rfl)) ?_; (with_reducible refine (digits_ParseNat.calls a2 t134 t135 _ A58.out).mono ?_); rintro e w60 ⟨v136, rfl, ho0, hb⟩; refine ⟨_, rfl, ?_⟩; have n0_ := Aside0.mk (Kd.R_elder' (by (with_reducible repeat (first | apply Kd.rA9 | apply Kd.rN9 | apply Kd.rD9)); exact HO_126001.out) (Kd.R_base ho0) hb); have n1_ := Aside0.mk (Kd.R_elder' (by (with_reducible repeat (first | apply Kd.rA9 | apply Kd.rN9 | apply Kd.rD9)); exact HO_126002.out) (Kd.R_base ho0) hb); have n2_ := Aside0.mk (Kd.rL9 (Kd.R_new' (Kd.R_new' ho0 (Kd.R_lt (by (with_reducible repeat (first | apply Kd.rA9 | apply Kd.rN9 | apply Kd.rD9)); exact HO_126001.out))) (Kd.R_lt (by (with_reducible repeat (first | apply Kd.rA9 | apply Kd.rN9 | apply Kd.rD9)); exact HO_126002.out))) (bZ9 (by repeat (first | (with_reducible first | exact HB.out | apply bA9 | apply bN9 | apply bD9 | refine bS9 ?_ GE101.out | refine bS9 ?_ GE125.out) | exact HB.out)))); have n3_ := Aside0.mk (kB9 (g := gb101) (o := .cells #[.bool a1_0, .slice A1_1 l1_1.length c1_1, .slice A1_2 l1_2.length c1_2] 35 (0, 0)) (by (with_reducible repeat (first | refine kN9 ?_ _ | refine kD9 ?_ | refine kA9 ?_ _)); exact BK101.out) hb); have n4_ := Aside0.mk (kB9 (g := gb125) (o := .cells #[.bool t117, .slice Ao44 t118.length co44, .slice Ao45 t121.length co45] 35 (0, 0)) (by (with_reducible repeat (first | refine kN9 ?_ _ | refine kD9 ?_ | refine kA9 ?_ _)); exact BK125.out) hb); have n5_ := Aside0.mk (bT9 (by repeat (first | (with_reducible first | exact HB.out | apply bA9 | apply bN9 | apply bD9 | refine bS9 ?_ GE101.out | refine bS9 ?_ GE125.out) | exact HB.out)) hb); clear HO_126001; clear HO_126002; clear BK101; clear BK125; clear HB; have HO_126001 := n0_; have HO_126002 := n1_; have HO137 := n2_; have BK101 := n3_; have BK125 := n4_; have HB := n5_; clear n0_ n1_ n2_ n3_ n4_ n5_; (try clear hb); (try clear hb2); (try clear hk); (try clear hi); (try clear ho0)))
         (try simp only [Act.put, List.setIfInBounds_toArray, List.set_cons_zero, List.set_cons_succ])
         go_cut [84] (fun v84 wc => ∃ (kq : Nat) (x84_58 : Bool), v84 = .bool x84_58 ∧ Aside0 (Back9.j3 kq a2 x84_58 = some r) ∧ Aside0 (kq ≤ kj36) ∧ Aside0 (Kd.R (Kd.int .u32) 56 wc w.heap.size (fun k_ => some k_ ≠ ((.slice Ao45 t121.length co45) : Value).ownBlock) (.slice Ao44 t118.length co44) t118) ∧ Aside0 (Kd.R (Kd.int .u32) 56 wc w.heap.size (fun k_ => some k_ ≠ ((.slice Ao44 t118.length co44) : Value).ownBlock) (.slice Ao45 t121.length co45) t121) ∧ Aside0 (wc.heap[gb101]? = some (.cells #[.bool a1_0, (.slice A1_1 l1_1.length c1_1), (.slice A1_2 l1_2.length c1_2)] 35 (0, 0))) ∧ Aside0 (wc.heap[gb125]? = some (.cells #[.bool t117, (.slice Ao44 t118.length co44), (.slice Ao45 t121.length co45)] 35 (0, 0))) ∧ Aside0 (Below w.heap.size w wc))
         case first =>
          have H := HC59.out
          clear HC59
          by_cases c61 : t135 = 0
          ·rw [if_pos c61] at H
           have c61b0 : (t135 == 0) = true := beq_iff_eq.mpr c61
           have c61b1 : (t135 != 0) = false := bne_eq_false_iff_eq.mpr c61
           clear c61
           (first | rw [c61b0] | (simp only [i64_w, i32_w]; rw [c61b0]) | skip)
           replace H := Option.bind_eq_some_iff.mp H
           obtain ⟨t138, A620, H⟩ := H
           (try dsimp only at H)
           have A62 := Aside0.mk A620
           clear A620
           have H' := Aside0.mk H
           clear H
           obtain ⟨Ao63, co63, eo63⟩ := Kd.rS9 HO137.out
           subst eo63
           go_wp2_with (first | (go_at_call 23; (with_reducible refine (digits_Nat.calls _ _ t134 t138 _ (PowTab.below HT.out (by repeat (first | (with_reducible first | exact HB.out | apply bA9 | apply bN9 | apply bD9 | refine bS9 ?_ GE101.out | refine bS9 ?_ GE125.out | refine bS9 ?_ GE148.out) | exact HB.out))) ?side1 ?side2 A62.out).mono ?_); (case side1 => repeat (first | exact (Kd.rR9 HO137.out).2.2 | (with_reducible refine Kd.cA9 ?_ _) | (with_reducible refine Kd.cN9 ?_ _) | (with_reducible refine Kd.cD9 ?_))); (case side2 => exact (Kd.rR9 HO137.out).2.1); rintro e w64 ⟨rfl, hb⟩; have n0_ := Aside0.mk (Kd.rB9 (by (with_reducible repeat (first | apply Kd.rA9 | apply Kd.rN9 | apply Kd.rD9)); exact HO_126001.out) hb); have n1_ := Aside0.mk (Kd.rB9 (by (with_reducible repeat (first | apply Kd.rA9 | apply Kd.rN9 | apply Kd.rD9)); exact HO_126002.out) hb); have n2_ := Aside0.mk (Kd.rB9 (by (with_reducible repeat (first | apply Kd.rA9 | apply Kd.rN9 | apply Kd.rD9)); exact HO137.out) hb); have n3_ := Aside0.mk (kB9 (g := gb101) (o := .cells #[.bool a1_0, .slice A1_1 l1_1.length c1_1, .slice A1_2 l1_2.length c1_2] 35 (0, 0)) (by (with_reducible repeat (first | refine kN9 ?_ _ | refine kD9 ?_ | refine kA9 ?_ _)); exact BK101.out) hb); have n4_ := Aside0.mk (kB9 (g := gb125) (o := .cells #[.bool t117, .slice Ao44 t118.length co44, .slice Ao45 t121.length co45] 35 (0, 0)) (by (with_reducible repeat (first | refine kN9 ?_ _ | refine kD9 ?_ | refine kA9 ?_ _)); exact BK125.out) hb); have n5_ := Aside0.mk (bT9 (by repeat (first | (with_reducible first | exact HB.out | apply bA9 | apply bN9 | apply bD9 | refine bS9 ?_ GE101.out | refine bS9 ?_ GE125.out) | exact HB.out)) hb); clear HO_126001; clear HO_126002; clear HO137; clear BK101; clear BK125; clear HB; have HO_126001 := n0_; have HO_126002 := n1_; have HO137 := n2_; have BK101 := n3_; have BK125 := n4_; have HB := n5_; clear n0_ n1_ n2_ n3_ n4_ n5_; (try clear hb); (try clear hb2); (try clear hk); (try clear hi)))
           go_meet
           case rel => exact ⟨_, ((t138.toList != a2.toList)), (by first | rfl | (simp; done) | (simp [*]; done)), H', ⟨by have := HJ3.out; have := HJ16.out; have := HJ36.out; first | omega | exact Nat.le_refl _⟩, ⟨by (with_reducible repeat (first | apply Kd.rA9 | apply Kd.rN9 | apply Kd.rD9)); exact Kd.R_mono HO_126001.out (fun _ hk => hk.1)⟩, ⟨by (with_reducible repeat (first | apply Kd.rA9 | apply Kd.rN9 | apply Kd.rD9)); exact Kd.R_mono HO_126002.out (fun _ hk => hk.1)⟩, ⟨by (with_reducible repeat (first | refine kN9 ?_ _ | refine kD9 ?_ | refine kA9 ?_ _)); exact BK101.out⟩, ⟨by (with_reducible repeat (first | refine kN9 ?_ _ | refine kD9 ?_ | refine kA9 ?_ _)); exact BK125.out⟩, ⟨by repeat (first | (with_reducible first | exact HB.out | apply bA9 | apply bN9 | apply bD9 | refine bS9 ?_ GE101.out | refine bS9 ?_ GE125.out) | exact HB.out)⟩⟩
          ·rw [if_neg c61] at H
           have c61b0 : (t135 == 0) = false := beq_eq_false_iff_ne.mpr c61
           have c61b1 : (t135 != 0) = true := bne_iff_ne.mpr c61
           (first | rw [c61b0] | (simp only [i64_w, i32_w]; rw [c61b0]) | skip)
           have H' := Aside0.mk H
           clear H
           go_wp2
           go_meet
           case rel => exact ⟨_, (false), (by first | rfl | (simp; done) | (simp [*]; done)), H', ⟨by have := HJ3.out; have := HJ16.out; have := HJ36.out; first | omega | exact Nat.le_refl _⟩, ⟨by (with_reducible repeat (first | apply Kd.rA9 | apply Kd.rN9 | apply Kd.rD9)); exact Kd.R_mono HO_126001.out (fun _ hk => hk.1)⟩, ⟨by (with_reducible repeat (first | apply Kd.rA9 | apply Kd.rN9 | apply Kd.rD9)); exact Kd.R_mono HO_126002.out (fun _ hk => hk.1)⟩, ⟨by (with_reducible repeat (first | refine kN9 ?_ _ | refine kD9 ?_ | refine kA9 ?_ _)); exact BK101.out⟩, ⟨by (with_reducible repeat (first | refine kN9 ?_ _ | refine kD9 ?_ | refine kA9 ?_ _)); exact BK125.out⟩, ⟨by repeat (first | (with_reducible first | exact HB.out | apply bA9 | apply bN9 | apply bD9 | refine bS9 ?_ GE101.out | refine bS9 ?_ GE125.out) | exact HB.out)⟩⟩
         case rest => as_aux_lemma =>
          clear HC59
          try clear c1
          try clear c2
          try clear p2
          try clear c3
          try clear c4
          try clear c5
          try clear c6
          try clear c6b0
          try clear c6b1
          try clear c7
          try clear c7b0
          try clear c7b1
          try clear c10
          try clear c12
          try clear c15
          try clear c16
          try clear c18
          try clear c19
          try clear c22
          try clear c23
          try clear c23b0
          try clear c24
          try clear c24b0
          try clear c24b1
          try clear c25
          try clear c25b0
          try clear c25b1
          try clear c27
          try clear c27b0
          try clear c27b1
          try clear c30
          try clear c42
          try clear c46
          try clear c46b0
          try clear c46b1
          try clear c57
          try clear c61
          try clear c61b0
          try clear c61b1
          try clear hcz38_0
          try clear hcz38_1
          try clear hcz38_2
          try clear hcz43_0
          try clear hcz43_1
          try clear hcz43_2
          try clear hcz8_0
          try clear hcz8_1
          try clear hcz8_2
          try clear hcz9_0
          try clear hcz9_1
          try clear hcz9_2
          try clear hfz38_0
          try clear hfz38_1
          try clear hfz38_2
          try clear hfz43_0
          try clear hfz43_1
          try clear hfz43_2
          try clear hfz8_0
          try clear hfz8_1
          try clear hfz8_2
          try clear hfz9_0
          try clear hfz9_1
          try clear hfz9_2
          try clear p2
          obtain ⟨kq, x84_58, rfl, HA, HJ58, HO_126001, HO_126002, BK101, BK125, HB⟩ := hcut
          cases kq with
          | zero => exact absurd HA.out (by simp [Back9.j3])
          | succ kj58 =>
           have H := HA.out
           clear HA
           simp only [Back9.j3] at H
           by_cases c65 : x84_58 = true
           ·subst c65
            have H1 : (none) = some r := by rw [if_pos rfl] at H; exact H
            clear H
            have H := H1
            clear H1
            exact absurd H (by simp)
           ·replace c65 := Bool.eq_false_iff.mpr c65
            subst c65
            have H1 : (if (a2.size : Int) > 120 then ((kn9.f kj58).bind fun t139 => (some t139)) else ((digits_ParseRat.f kj58 a2).bind fun bt140 => (if bt140.2.2.2 = 0 then ((digits_Rat.f kj58 bt140.1 bt140.2.1 bt140.2.2.1).bind fun t149 => (if t149.toList = a2.toList then ((kn9.f kj58).bind fun t150 => (some t150)) else (none))) else ((kn9.f kj58).bind fun t151 => (some t151))))) = some r := by rw [if_neg (show ¬ (false = true) by decide)] at H; exact H
            clear H
            have H := H1
            clear H1
            by_cases c66 : (a2.size : Int) > 120
            ·rw [if_pos c66] at H
             have c66b0 : decide (120 < (a2.size : Int)) = true := decide_eq_true c66
             have c66b1 : decide (120 < a2.size) = true := decide_eq_true (by omega)
             clear c66
             replace H := Option.bind_eq_some_iff.mp H
             obtain ⟨t139, A670, H⟩ := H
             replace H : (some t139) = some r := H
             have A67 := Aside0.mk A670
             clear A670
             obtain rfl := Option.some.inj H
             go_wp2_with (first | ((with_reducible refine gC9 (f := 15) rfl ?_); refine goesL_ (some 88) rfl rfl Tryz.func15 (by kernel_rfl) rfl #[] rfl (by (try simp only [List.map_toArray, List.map_cons, List.map_nil]); first | done | rfl | (simp only [List.length_drop, List.length_take]; rfl)) ?_; (with_reducible refine (kn9.calls kj58  t139 _ (PowTab.below HT.out (by repeat (first | (with_reducible first | exact HB.out | apply bA9 | apply bN9 | apply bD9 | refine bS9 ?_ GE101.out | refine bS9 ?_ GE125.out | refine bS9 ?_ GE148.out) | exact HB.out))) A67.out).mono ?_); rintro e w68 ⟨rfl, hb⟩; refine ⟨_, rfl, ?_⟩; have n0_ := Aside0.mk (Kd.rB9 (by (with_reducible repeat (first | apply Kd.rA9 | apply Kd.rN9 | apply Kd.rD9)); exact HO_126001.out) hb); have n1_ := Aside0.mk (Kd.rB9 (by (with_reducible repeat (first | apply Kd.rA9 | apply Kd.rN9 | apply Kd.rD9)); exact HO_126002.out) hb); have n2_ := Aside0.mk (kB9 (g := gb101) (o := .cells #[.bool a1_0, .slice A1_1 l1_1.length c1_1, .slice A1_2 l1_2.length c1_2] 35 (0, 0)) (by (with_reducible repeat (first | refine kN9 ?_ _ | refine kD9 ?_ | refine kA9 ?_ _)); exact BK101.out) hb); have n3_ := Aside0.mk (kB9 (g := gb125) (o := .cells #[.bool t117, .slice Ao44 t118.length co44, .slice Ao45 t121.length co45] 35 (0, 0)) (by (with_reducible repeat (first | refine kN9 ?_ _ | refine kD9 ?_ | refine kA9 ?_ _)); exact BK125.out) hb); have n4_ := Aside0.mk (bT9 (by repeat (first | (with_reducible first | exact HB.out | apply bA9 | apply bN9 | apply bD9 | refine bS9 ?_ GE101.out | refine bS9 ?_ GE125.out) | exact HB.out)) hb); clear HO_126001; clear HO_126002; clear BK101; clear BK125; clear HB; have HO_126001 := n0_; have HO_126002 := n1_; have BK101 := n2_; have BK125 := n3_; have HB := n4_; clear n0_ n1_ n2_ n3_ n4_; (try clear hb); (try clear hb2); (try clear hk); (try clear hi)))
             go_ret
             exact ⟨by first | rfl | (simp [eN9, eS9] <;> rfl) | (simp [*, eN9, eS9] <;> rfl), by repeat (first | (with_reducible first | exact HB.out | apply bA9 | apply bN9 | apply bD9 | refine bS9 ?_ GE101.out | refine bS9 ?_ GE125.out) | exact HB.out)⟩
            ·rw [if_neg c66] at H
             have c66b0 : decide (120 < (a2.size : Int)) = false := decide_eq_false c66
             have c66b1 : decide (120 < a2.size) = false := decide_eq_false (by omega)
             clear c66
             replace H := Option.bind_eq_some_iff.mp H
             obtain ⟨⟨t140, t141, t144, t147⟩, A690, H⟩ := H
             (try dsimp only at H)
             have A69 := Aside0.mk A690
             clear A690
             by_cases c70 : t147 = 0
             ·rw [if_pos c70] at H
              have c70b0 : (t147 == 0) = true := beq_iff_eq.mpr c70
              have c70b1 : (t147 != 0) = false := bne_eq_false_iff_eq.mpr c70
              clear c70
              replace H := Option.bind_eq_some_iff.mp H
              obtain ⟨t149, A710, H⟩ := H
              (try dsimp only at H)
              have A71 := Aside0.mk A710
              clear A710
              by_cases c72 : t149.toList = a2.toList
              ·rw [if_pos c72] at H
               have c72b0 : (t149.toList == a2.toList) = true := beq_iff_eq.mpr c72
               have c72b1 : (t149.toList != a2.toList) = false := bne_eq_false_iff_eq.mpr c72
               clear c72
               replace H := Option.bind_eq_some_iff.mp H
               obtain ⟨t150, A730, H⟩ := H
               replace H : (some t150) = some r := H
               have A73 := Aside0.mk A730
               clear A730
               obtain rfl := Option.some.inj H
               go_wp2_with (first | ((with_reducible refine gC9 (f := 19) rfl ?_); refine goesL_ (some 91) rfl rfl Tryz.func19 (by kernel_rfl) rfl #[.string a2] rfl (by (try simp only [List.map_toArray, List.map_cons, List.map_nil]); first | done | rfl | (simp only [List.length_drop, List.length_take]; rfl)) ?_; (with_reducible refine (digits_ParseRat.calls kj58 a2 t140 t141 t144 t147 _ A69.out).mono ?_); rintro e w74 ⟨v142, v145, rfl, ho0, ho1, hb⟩; refine ⟨_, rfl, ?_⟩; have n0_ := Aside0.mk (Kd.R_mono (Kd.R_told (Kd.R_told (Kd.R_old (by (with_reducible repeat (first | apply Kd.rA9 | apply Kd.rN9 | apply Kd.rD9)); exact HO_126001.out) hb) (Kd.R_base ho0)) (Kd.R_base ho1)) (fun _ h_ => h_.1)); have n1_ := Aside0.mk (Kd.R_mono (Kd.R_told (Kd.R_told (Kd.R_old (by (with_reducible repeat (first | apply Kd.rA9 | apply Kd.rN9 | apply Kd.rD9)); exact HO_126002.out) hb) (Kd.R_base ho0)) (Kd.R_base ho1)) (fun _ h_ => h_.1)); have n2_ := Aside0.mk (Kd.rL9 (Kd.R_new' (Kd.R_new' ho0 (Kd.R_lt (by (with_reducible repeat (first | apply Kd.rA9 | apply Kd.rN9 | apply Kd.rD9)); exact HO_126001.out))) (Kd.R_lt (by (with_reducible repeat (first | apply Kd.rA9 | apply Kd.rN9 | apply Kd.rD9)); exact HO_126002.out))) (bZ9 (by repeat (first | (with_reducible first | exact HB.out | apply bA9 | apply bN9 | apply bD9 | refine bS9 ?_ GE101.out | refine bS9 ?_ GE125.out) | exact HB.out)))); have n3_ := Aside0.mk (Kd.rL9 (Kd.R_new' (Kd.R_new' ho1 (Kd.R_lt (by (with_reducible repeat (first | apply Kd.rA9 | apply Kd.rN9 | apply Kd.rD9)); exact HO_126001.out))) (Kd.R_lt (by (with_reducible repeat (first | apply Kd.rA9 | apply Kd.rN9 | apply Kd.rD9)); exact HO_126002.out))) (bZ9 (by repeat (first | (with_reducible first | exact HB.out | apply bA9 | apply bN9 | apply bD9 | refine bS9 ?_ GE101.out | refine bS9 ?_ GE125.out) | exact HB.out)))); have n4_ := Aside0.mk (kB9 (g := gb101) (o := .cells #[.bool a1_0, .slice A1_1 l1_1.length c1_1, .slice A1_2 l1_2.length c1_2] 35 (0, 0)) (by (with_reducible repeat (first | refine kN9 ?_ _ | refine kD9 ?_ | refine kA9 ?_ _)); exact BK101.out) hb); have n5_ := Aside0.mk (kB9 (g := gb125) (o := .cells #[.bool t117, .slice Ao44 t118.length co44, .slice Ao45 t121.length co45] 35 (0, 0)) (by (with_reducible repeat (first | refine kN9 ?_ _ | refine kD9 ?_ | refine kA9 ?_ _)); exact BK125.out) hb); have n6_ := Aside0.mk (bT9 (by repeat (first | (with_reducible first | exact HB.out | apply bA9 | apply bN9 | apply bD9 | refine bS9 ?_ GE101.out | refine bS9 ?_ GE125.out) | exact HB.out)) hb); clear HO_126001; clear HO_126002; clear BK101; clear BK125; clear HB; have HO_126001 := n0_; have HO_126002 := n1_; have HO143 := n2_; have HO146 := n3_; have BK101 := n4_; have BK125 := n5_; have HB := n6_; clear n0_ n1_ n2_ n3_ n4_ n5_ n6_; (try clear hb); (try clear hb2); (try clear hk); (try clear hi); (try clear ho0); (try clear ho1)) | ((with_reducible refine gD9 (N := 13) rfl ?_); (try (refine gate_guard (by rfl) ?_; dsimp only)); refine bE9 ?hg (N := 13) ?hd (cs := #[.bool false, .slice none 0 0, .slice none 0 0]) (t := 35) ?hr ?_; (case hd => rfl); (case hg => rfl); (case hr => first | (go_simp; done) | (go_simp; rfl)); intro gb148 hg w75 hbox hb; have n0_ := Aside0.mk (Kd.rB9 (by (with_reducible repeat (first | apply Kd.rA9 | apply Kd.rN9 | apply Kd.rD9)); exact HO_126001.out) hb); have n1_ := Aside0.mk (Kd.rB9 (by (with_reducible repeat (first | apply Kd.rA9 | apply Kd.rN9 | apply Kd.rD9)); exact HO_126002.out) hb); have n2_ := Aside0.mk (Kd.rB9 (by (with_reducible repeat (first | apply Kd.rA9 | apply Kd.rN9 | apply Kd.rD9)); exact HO143.out) hb); have n3_ := Aside0.mk (Kd.rB9 (by (with_reducible repeat (first | apply Kd.rA9 | apply Kd.rN9 | apply Kd.rD9)); exact HO146.out) hb); have n4_ := Aside0.mk (kB9 (g := gb101) (o := .cells #[.bool a1_0, .slice A1_1 l1_1.length c1_1, .slice A1_2 l1_2.length c1_2] 35 (0, 0)) (by (with_reducible repeat (first | refine kN9 ?_ _ | refine kD9 ?_ | refine kA9 ?_ _)); exact BK101.out) hb); have n5_ := Aside0.mk (kB9 (g := gb125) (o := .cells #[.bool t117, .slice Ao44 t118.length co44, .slice Ao45 t121.length co45] 35 (0, 0)) (by (with_reducible repeat (first | refine kN9 ?_ _ | refine kD9 ?_ | refine kA9 ?_ _)); exact BK125.out) hb); have n6_ := Aside0.mk (bT9 (by repeat (first | (with_reducible first | exact HB.out | apply bA9 | apply bN9 | apply bD9 | refine bS9 ?_ GE101.out | refine bS9 ?_ GE125.out) | exact HB.out)) hb); have n7_ := Aside0.mk (hbox); have n8_ := Aside0.mk ((by rw [hg]; exact (bZ9 (by repeat (first | (with_reducible first | exact HB.out | apply bA9 | apply bN9 | apply bD9 | refine bS9 ?_ GE101.out | refine bS9 ?_ GE125.out) | exact HB.out))) : w.heap.size ≤ gb148)); have n9_ := Aside0.mk ((by rw [hg]; exact (bZ9 (by repeat (first | (with_reducible first | exact HB.out | apply bA9 | apply bN9 | apply bD9 | refine bS9 ?_ GE101.out | refine bS9 ?_ GE125.out) | exact HB.out))) : w.heap.size ≤ gb148)); have n10_ := Aside0.mk ((by rw [hg]; exact Nat.ne_of_lt (blk_lt (g := gb101) (o := .cells #[.bool a1_0, .slice A1_1 l1_1.length c1_1, .slice A1_2 l1_2.length c1_2] 35 (0, 0)) (by (with_reducible repeat (first | refine kN9 ?_ _ | refine kD9 ?_ | refine kA9 ?_ _)); exact BK101.out)) : gb101 ≠ gb148)); have n11_ := Aside0.mk ((by rw [hg]; exact Nat.ne_of_gt (blk_lt (g := gb101) (o := .cells #[.bool a1_0, .slice A1_1 l1_1.length c1_1, .slice A1_2 l1_2.length c1_2] 35 (0, 0)) (by (with_reducible repeat (first | refine kN9 ?_ _ | refine kD9 ?_ | refine kA9 ?_ _)); exact BK101.out)) : gb148 ≠ gb101)); have n12_ := Aside0.mk ((by rw [hg]; exact Nat.ne_of_lt (blk_lt (g := gb125) (o := .cells #[.bool t117, .slice Ao44 t118.length co44, .slice Ao45 t121.length co45] 35 (0, 0)) (by (with_reducible repeat (first | refine kN9 ?_ _ | refine kD9 ?_ | refine kA9 ?_ _)); exact BK125.out)) : gb125 ≠ gb148)); have n13_ := Aside0.mk ((by rw [hg]; exact Nat.ne_of_gt (blk_lt (g := gb125) (o := .cells #[.bool t117, .slice Ao44 t118.length co44, .slice Ao45 t121.length co45] 35 (0, 0)) (by (with_reducible repeat (first | refine kN9 ?_ _ | refine kD9 ?_ | refine kA9 ?_ _)); exact BK125.out)) : gb148 ≠ gb125)); clear HO_126001; clear HO_126002; clear HO143; clear HO146; clear BK101; clear BK125; clear HB; have HO_126001 := n0_; have HO_126002 := n1_; have HO143 := n2_; have HO146 := n3_; have BK101 := n4_; have BK125 := n5_; have HB := n6_; have BK148 := n7_; have GW148 := n8_; have GE148 := n9_; have NB101_148 := n10_; have NB148_101 := n11_; have NB125_148 := n12_; have NB148_125 := n13_; clear n0_ n1_ n2_ n3_ n4_ n5_ n6_ n7_ n8_ n9_ n10_ n11_ n12_ n13_; clear hb hbox hg; have hnb76 := NB148_101.out; have hnc76 := NB101_148.out; have hnb77 := NB148_125.out; have hnc77 := NB125_148.out; have hcz78_0 : w75.cell? ⟨gb148, 0, none⟩ = some (.bool false) := (kC9 BK148.out 0).trans rfl; have hcz78_1 : w75.cell? ⟨gb148, 1, none⟩ = some (.slice none 0 0) := (kC9 BK148.out 1).trans rfl; have hcz78_2 : w75.cell? ⟨gb148, 2, none⟩ = some (.slice none 0 0) := (kC9 BK148.out 2).trans rfl; have hfz78_0 := kF9 BK148.out 0; have hfz78_1 := kF9 BK148.out 1; have hfz78_2 := kF9 BK148.out 2; obtain ⟨Ao79, co79, eo79⟩ := Kd.rS9 HO143.out; subst eo79; obtain ⟨Ao80, co80, eo80⟩ := Kd.rS9 HO146.out; subst eo80) | (go_at_call 16; (with_reducible refine (digits_Rat.calls kj58 t140 _ _ t141 _ _ t144 t149 _ (PowTab.below HT.out (by repeat (first | (with_reducible first | exact HB.out | apply bA9 | apply bN9 | apply bD9 | refine bS9 ?_ GE101.out | refine bS9 ?_ GE125.out | refine bS9 ?_ GE148.out) | exact HB.out))) ?side1 ?side2 ?side3 ?side4 A71.out).mono ?_); (case side1 => refine (Kd.rR9 (e := 56) (base := w.heap.size) (ok := fun k_ => ((some k_ ≠ (.slice Ao80 t144.length co80 : Value).ownBlock ∧ some k_ ≠ (.slice Ao44 t118.length co44 : Value).ownBlock) ∧ some k_ ≠ (.slice Ao45 t121.length co45 : Value).ownBlock)) (n := t141.length) (c := co79) ?_).2.2; exact (by (with_reducible repeat (first | apply Kd.rA9 | apply Kd.rN9 | apply Kd.rD9)); exact (Kd.R_mono (Kd.R_far (p := ⟨gb148, 2, none⟩) (Kd.R_far (p := ⟨gb148, 1, none⟩) (Kd.R_far (p := ⟨gb148, 0, none⟩) (Kd.rT9 HO143.out BK148.out (by decide)) (fun _ hk => hk.2) (.bool t140)) (fun _ hk => hk.2) (.slice Ao79 t141.length co79)) (fun _ hk => hk.2) (.slice Ao80 t144.length co80)) (fun _ h_ => h_.1)))); (case side2 => exact (Kd.rR9 HO143.out).2.1); (case side3 => refine (Kd.rR9 (e := 56) (base := w.heap.size) (ok := fun k_ => ((some k_ ≠ (.slice Ao79 t141.length co79 : Value).ownBlock ∧ some k_ ≠ (.slice Ao44 t118.length co44 : Value).ownBlock) ∧ some k_ ≠ (.slice Ao45 t121.length co45 : Value).ownBlock)) (n := t144.length) (c := co80) ?_).2.2; exact (by (with_reducible repeat (first | apply Kd.rA9 | apply Kd.rN9 | apply Kd.rD9)); exact (Kd.R_mono (Kd.R_far (p := ⟨gb148, 2, none⟩) (Kd.R_far (p := ⟨gb148, 1, none⟩) (Kd.R_far (p := ⟨gb148, 0, none⟩) (Kd.rT9 HO146.out BK148.out (by decide)) (fun _ hk => hk.2) (.bool t140)) (fun _ hk => hk.2) (.slice Ao79 t141.length co79)) (fun _ hk => hk.2) (.slice Ao80 t144.length co80)) (fun _ h_ => h_.1)))); (case side4 => exact (Kd.rR9 HO146.out).2.1); rintro e w81 ⟨rfl, hb⟩; have n0_ := Aside0.mk (Kd.rB9 (by (with_reducible repeat (first | apply Kd.rA9 | apply Kd.rN9 | apply Kd.rD9)); exact (Kd.R_mono (Kd.R_far (p := ⟨gb148, 2, none⟩) (Kd.R_far (p := ⟨gb148, 1, none⟩) (Kd.R_far (p := ⟨gb148, 0, none⟩) (Kd.rT9 HO_126001.out BK148.out (by decide)) (fun _ hk => hk.2) (.bool t140)) (fun _ hk => hk.2) (.slice Ao79 t141.length co79)) (fun _ hk => hk.2) (.slice Ao80 t144.length co80)) (fun _ h_ => h_.1))) hb); have n1_ := Aside0.mk (Kd.rB9 (by (with_reducible repeat (first | apply Kd.rA9 | apply Kd.rN9 | apply Kd.rD9)); exact (Kd.R_mono (Kd.R_far (p := ⟨gb148, 2, none⟩) (Kd.R_far (p := ⟨gb148, 1, none⟩) (Kd.R_far (p := ⟨gb148, 0, none⟩) (Kd.rT9 HO_126002.out BK148.out (by decide)) (fun _ hk => hk.2) (.bool t140)) (fun _ hk => hk.2) (.slice Ao79 t141.length co79)) (fun _ hk => hk.2) (.slice Ao80 t144.length co80)) (fun _ h_ => h_.1))) hb); have n2_ := Aside0.mk (Kd.rB9 (by (with_reducible repeat (first | apply Kd.rA9 | apply Kd.rN9 | apply Kd.rD9)); exact (Kd.R_mono (Kd.R_far (p := ⟨gb148, 2, none⟩) (Kd.R_far (p := ⟨gb148, 1, none⟩) (Kd.R_far (p := ⟨gb148, 0, none⟩) (Kd.rT9 HO143.out BK148.out (by decide)) (fun _ hk => hk.2) (.bool t140)) (fun _ hk => hk.2) (.slice Ao79 t141.length co79)) (fun _ hk => hk.2) (.slice Ao80 t144.length co80)) (fun _ h_ => h_.1))) hb); have n3_ := Aside0.mk (Kd.rB9 (by (with_reducible repeat (first | apply Kd.rA9 | apply Kd.rN9 | apply Kd.rD9)); exact (Kd.R_mono (Kd.R_far (p := ⟨gb148, 2, none⟩) (Kd.R_far (p := ⟨gb148, 1, none⟩) (Kd.R_far (p := ⟨gb148, 0, none⟩) (Kd.rT9 HO146.out BK148.out (by decide)) (fun _ hk => hk.2) (.bool t140)) (fun _ hk => hk.2) (.slice Ao79 t141.length co79)) (fun _ hk => hk.2) (.slice Ao80 t144.length co80)) (fun _ h_ => h_.1))) hb); have n4_ := Aside0.mk (kB9 (g := gb101) (o := .cells #[.bool a1_0, .slice A1_1 l1_1.length c1_1, .slice A1_2 l1_2.length c1_2] 35 (0, 0)) (by (with_reducible repeat (first | refine kN9 ?_ _ | refine kD9 ?_ | refine kA9 ?_ _)); refine blk_far ?_ NB101_148.out _; (with_reducible repeat (first | refine kN9 ?_ _ | refine kD9 ?_ | refine kA9 ?_ _)); refine blk_far ?_ NB101_148.out _; (with_reducible repeat (first | refine kN9 ?_ _ | refine kD9 ?_ | refine kA9 ?_ _)); refine blk_far ?_ NB101_148.out _; (with_reducible repeat (first | refine kN9 ?_ _ | refine kD9 ?_ | refine kA9 ?_ _)); exact BK101.out) hb); have n5_ := Aside0.mk (kB9 (g := gb125) (o := .cells #[.bool t117, .slice Ao44 t118.length co44, .slice Ao45 t121.length co45] 35 (0, 0)) (by (with_reducible repeat (first | refine kN9 ?_ _ | refine kD9 ?_ | refine kA9 ?_ _)); refine blk_far ?_ NB125_148.out _; (with_reducible repeat (first | refine kN9 ?_ _ | refine kD9 ?_ | refine kA9 ?_ _)); refine blk_far ?_ NB125_148.out _; (with_reducible repeat (first | refine kN9 ?_ _ | refine kD9 ?_ | refine kA9 ?_ _)); refine blk_far ?_ NB125_148.out _; (with_reducible repeat (first | refine kN9 ?_ _ | refine kD9 ?_ | refine kA9 ?_ _)); exact BK125.out) hb); have n6_ := Aside0.mk (kB9 (g := gb148) (o := .cells #[.bool t140, .slice Ao79 t141.length co79, .slice Ao80 t144.length co80] 35 (0, 0)) (by (with_reducible repeat (first | refine kN9 ?_ _ | refine kD9 ?_ | refine kA9 ?_ _)); refine kP9 (cs := #[.bool t140, .slice Ao79 t141.length co79, .slice none 0 0]) ?_ 2 _ rfl; (with_reducible repeat (first | refine kN9 ?_ _ | refine kD9 ?_ | refine kA9 ?_ _)); refine kP9 (cs := #[.bool t140, .slice none 0 0, .slice none 0 0]) ?_ 1 _ rfl; (with_reducible repeat (first | refine kN9 ?_ _ | refine kD9 ?_ | refine kA9 ?_ _)); refine kP9 (cs := #[.bool false, .slice none 0 0, .slice none 0 0]) ?_ 0 _ rfl; (with_reducible repeat (first | refine kN9 ?_ _ | refine kD9 ?_ | refine kA9 ?_ _)); exact BK148.out) hb); have n7_ := Aside0.mk (bT9 (by repeat (first | (with_reducible first | exact HB.out | apply bA9 | apply bN9 | apply bD9 | refine bS9 ?_ GE101.out | refine bS9 ?_ GE125.out | refine bS9 ?_ GE148.out) | exact HB.out)) hb); clear HO_126001; clear HO_126002; clear HO143; clear HO146; clear BK101; clear BK125; clear BK148; clear HB; have HO_126001 := n0_; have HO_126002 := n1_; have HO143 := n2_; have HO146 := n3_; have BK101 := n4_; have BK125 := n5_; have BK148 := n6_; have HB := n7_; clear n0_ n1_ n2_ n3_ n4_ n5_ n6_ n7_; (try clear hb); (try clear hb2); (try clear hk); (try clear hi)) | (go_at_call 15; (with_reducible refine (kn9.calls kj58  t150 _ (PowTab.below HT.out (by repeat (first | (with_reducible first | exact HB.out | apply bA9 | apply bN9 | apply bD9 | refine bS9 ?_ GE101.out | refine bS9 ?_ GE125.out | refine bS9 ?_ GE148.out) | exact HB.out))) A73.out).mono ?_); rintro e w82 ⟨rfl, hb⟩; have n0_ := Aside0.mk (Kd.rB9 (by (with_reducible repeat (first | apply Kd.rA9 | apply Kd.rN9 | apply Kd.rD9)); exact HO_126001.out) hb); have n1_ := Aside0.mk (Kd.rB9 (by (with_reducible repeat (first | apply Kd.rA9 | apply Kd.rN9 | apply Kd.rD9)); exact HO_126002.out) hb); have n2_ := Aside0.mk (Kd.rB9 (by (with_reducible repeat (first | apply Kd.rA9 | apply Kd.rN9 | apply Kd.rD9)); exact HO143.out) hb); have n3_ := Aside0.mk (Kd.rB9 (by (with_reducible repeat (first | apply Kd.rA9 | apply Kd.rN9 | apply Kd.rD9)); exact HO146.out) hb); have n4_ := Aside0.mk (kB9 (g := gb101) (o := .cells #[.bool a1_0, .slice A1_1 l1_1.length c1_1, .slice A1_2 l1_2.length c1_2] 35 (0, 0)) (by (with_reducible repeat (first | refine kN9 ?_ _ | refine kD9 ?_ | refine kA9 ?_ _)); exact BK101.out) hb); have n5_ := Aside0.mk (kB9 (g := gb125) (o := .cells #[.bool t117, .slice Ao44 t118.length co44, .slice Ao45 t121.length co45] 35 (0, 0)) (by (with_reducible repeat (first | refine kN9 ?_ _ | refine kD9 ?_ | refine kA9 ?_ _)); exact BK125.out) hb); have n6_ := Aside0.mk (kB9 (g := gb148) (o := .cells #[.bool t140, .slice Ao79 t141.length co79, .slice Ao80 t144.length co80] 35 (0, 0)) (by (with_reducible repeat (first | refine kN9 ?_ _ | refine kD9 ?_ | refine kA9 ?_ _)); exact BK148.out) hb); have n7_ := Aside0.mk (bT9 (by repeat (first | (with_reducible first | exact HB.out | apply bA9 | apply bN9 | apply bD9 | refine bS9 ?_ GE101.out | refine bS9 ?_ GE125.out | refine bS9 ?_ GE148.out) | exact HB.out)) hb); clear HO_126001; clear HO_126002; clear HO143; clear HO146; clear BK101; clear BK125; clear BK148; clear HB; have HO_126001 := n0_; have HO_126002 := n1_; have HO143 := n2_; have HO146 := n3_; have BK101 := n4_; have BK125 := n5_; have BK148 := n6_; have HB := n7_; clear n0_ n1_ n2_ n3_ n4_ n5_ n6_ n7_; (try clear hb); (try clear hb2); (try clear hk); (try clear hi)))
               go_ret
               exact ⟨by first | rfl | (simp [eN9, eS9] <;> rfl) | (simp [*, eN9, eS9] <;> rfl), by repeat (first | (with_reducible first | exact HB.out | apply bA9 | apply bN9 | apply bD9 | refine bS9 ?_ GE101.out | refine bS9 ?_ GE125.out | refine bS9 ?_ GE148.out) | exact HB.out)⟩
              ·rw [if_neg c72] at H
               exact absurd H (by simp)
             ·rw [if_neg c70] at H
              have c70b0 : (t147 == 0) = false := beq_eq_false_iff_ne.mpr c70
              have c70b1 : (t147 != 0) = true := bne_iff_ne.mpr c70
              replace H := Option.bind_eq_some_iff.mp H
              obtain ⟨t151, A830, H⟩ := H
              replace H : (some t151) = some r := H
              have A83 := Aside0.mk A830
              clear A830
              obtain rfl := Option.some.inj H
              go_wp2_with (first | ((with_reducible refine gC9 (f := 19) rfl ?_); refine goesL_ (some 91) rfl rfl Tryz.func19 (by kernel_rfl) rfl #[.string a2] rfl (by (try simp only [List.map_toArray, List.map_cons, List.map_nil]); first | done | rfl | (simp only [List.length_drop, List.length_take]; rfl)) ?_; (with_reducible refine (digits_ParseRat.calls kj58 a2 t140 t141 t144 t147 _ A69.out).mono ?_); rintro e w84 ⟨v142, v145, rfl, ho0, ho1, hb⟩; refine ⟨_, rfl, ?_⟩; have n0_ := Aside0.mk (Kd.R_mono (Kd.R_told (Kd.R_told (Kd.R_old (by (with_reducible repeat (first | apply Kd.rA9 | apply Kd.rN9 | apply Kd.rD9)); exact HO_126001.out) hb) (Kd.R_base ho0)) (Kd.R_base ho1)) (fun _ h_ => h_.1)); have n1_ := Aside0.mk (Kd.R_mono (Kd.R_told (Kd.R_told (Kd.R_old (by (with_reducible repeat (first | apply Kd.rA9 | apply Kd.rN9 | apply Kd.rD9)); exact HO_126002.out) hb) (Kd.R_base ho0)) (Kd.R_base ho1)) (fun _ h_ => h_.1)); have n2_ := Aside0.mk (Kd.rL9 (Kd.R_new' (Kd.R_new' ho0 (Kd.R_lt (by (with_reducible repeat (first | apply Kd.rA9 | apply Kd.rN9 | apply Kd.rD9)); exact HO_126001.out))) (Kd.R_lt (by (with_reducible repeat (first | apply Kd.rA9 | apply Kd.rN9 | apply Kd.rD9)); exact HO_126002.out))) (bZ9 (by repeat (first | (with_reducible first | exact HB.out | apply bA9 | apply bN9 | apply bD9 | refine bS9 ?_ GE101.out | refine bS9 ?_ GE125.out) | exact HB.out)))); have n3_ := Aside0.mk (Kd.rL9 (Kd.R_new' (Kd.R_new' ho1 (Kd.R_lt (by (with_reducible repeat (first | apply Kd.rA9 | apply Kd.rN9 | apply Kd.rD9)); exact HO_126001.out))) (Kd.R_lt (by (with_reducible repeat (first | apply Kd.rA9 | apply Kd.rN9 | apply Kd.rD9)); exact HO_126002.out))) (bZ9 (by repeat (first | (with_reducible first | exact HB.out | apply bA9 | apply bN9 | apply bD9 | refine bS9 ?_ GE101.out | refine bS9 ?_ GE125.out) | exact HB.out)))); have n4_ := Aside0.mk (kB9 (g := gb101) (o := .cells #[.bool a1_0, .slice A1_1 l1_1.length c1_1, .slice A1_2 l1_2.length c1_2] 35 (0, 0)) (by (with_reducible repeat (first | refine kN9 ?_ _ | refine kD9 ?_ | refine kA9 ?_ _)); exact BK101.out) hb); have n5_ := Aside0.mk (kB9 (g := gb125) (o := .cells #[.bool t117, .slice Ao44 t118.length co44, .slice Ao45 t121.length co45] 35 (0, 0)) (by (with_reducible repeat (first | refine kN9 ?_ _ | refine kD9 ?_ | refine kA9 ?_ _)); exact BK125.out) hb); have n6_ := Aside0.mk (bT9 (by repeat (first | (with_reducible first | exact HB.out | apply bA9 | apply bN9 | apply bD9 | refine bS9 ?_ GE101.out | refine bS9 ?_ GE125.out) | exact HB.out)) hb); clear HO_126001; clear HO_126002; clear BK101; clear BK125; clear HB; have HO_126001 := n0_; have HO_126002 := n1_; have HO143 := n2_; have HO146 := n3_; have BK101 := n4_; have BK125 := n5_; have HB := n6_; clear n0_ n1_ n2_ n3_ n4_ n5_ n6_; (try clear hb); (try clear hb2); (try clear hk); (try clear hi); (try clear ho0); (try clear ho1)) | ((with_reducible refine gD9 (N := 13) rfl ?_); (try (refine gate_guard (by rfl) ?_; dsimp only)); refine bE9 ?hg (N := 13) ?hd (cs := #[.bool false, .slice none 0 0, .slice none 0 0]) (t := 35) ?hr ?_; (case hd => rfl); (case hg => rfl); (case hr => first | (go_simp; done) | (go_simp; rfl)); intro gb148 hg w85 hbox hb; have n0_ := Aside0.mk (Kd.rB9 (by (with_reducible repeat (first | apply Kd.rA9 | apply Kd.rN9 | apply Kd.rD9)); exact HO_126001.out) hb); have n1_ := Aside0.mk (Kd.rB9 (by (with_reducible repeat (first | apply Kd.rA9 | apply Kd.rN9 | apply Kd.rD9)); exact HO_126002.out) hb); have n2_ := Aside0.mk (Kd.rB9 (by (with_reducible repeat (first | apply Kd.rA9 | apply Kd.rN9 | apply Kd.rD9)); exact HO143.out) hb); have n3_ := Aside0.mk (Kd.rB9 (by (with_reducible repeat (first | apply Kd.rA9 | apply Kd.rN9 | apply Kd.rD9)); exact HO146.out) hb); have n4_ := Aside0.mk (kB9 (g := gb101) (o := .cells #[.bool a1_0, .slice A1_1 l1_1.length c1_1, .slice A1_2 l1_2.length c1_2] 35 (0, 0)) (by (with_reducible repeat (first | refine kN9 ?_ _ | refine kD9 ?_ | refine kA9 ?_ _)); exact BK101.out) hb); have n5_ := Aside0.mk (kB9 (g := gb125) (o := .cells #[.bool t117, .slice Ao44 t118.length co44, .slice Ao45 t121.length co45] 35 (0, 0)) (by (with_reducible repeat (first | refine kN9 ?_ _ | refine kD9 ?_ | refine kA9 ?_ _)); exact BK125.out) hb); have n6_ := Aside0.mk (bT9 (by repeat (first | (with_reducible first | exact HB.out | apply bA9 | apply bN9 | apply bD9 | refine bS9 ?_ GE101.out | refine bS9 ?_ GE125.out) | exact HB.out)) hb); have n7_ := Aside0.mk (hbox); have n8_ := Aside0.mk ((by rw [hg]; exact (bZ9 (by repeat (first | (with_reducible first | exact HB.out | apply bA9 | apply bN9 | apply bD9 | refine bS9 ?_ GE101.out | refine bS9 ?_ GE125.out) | exact HB.out))) : w.heap.size ≤ gb148)); have n9_ := Aside0.mk ((by rw [hg]; exact (bZ9 (by repeat (first | (with_reducible first | exact HB.out | apply bA9 | apply bN9 | apply bD9 | refine bS9 ?_ GE101.out | refine bS9 ?_ GE125.out) | exact HB.out))) : w.heap.size ≤ gb148)); have n10_ := Aside0.mk ((by rw [hg]; exact Nat.ne_of_lt (blk_lt (g := gb101) (o := .cells #[.bool a1_0, .slice A1_1 l1_1.length c1_1, .slice A1_2 l1_2.length c1_2] 35 (0, 0)) (by (with_reducible repeat (first | refine kN9 ?_ _ | refine kD9 ?_ | refine kA9 ?_ _)); exact BK101.out)) : gb101 ≠ gb148)); have n11_ := Aside0.mk ((by rw [hg]; exact Nat.ne_of_gt (blk_lt (g := gb101) (o := .cells #[.bool a1_0, .slice A1_1 l1_1.length c1_1, .slice A1_2 l1_2.length c1_2] 35 (0, 0)) (by (with_reducible repeat (first | refine kN9 ?_ _ | refine kD9 ?_ | refine kA9 ?_ _)); exact BK101.out)) : gb148 ≠ gb101)); have n12_ := Aside0.mk ((by rw [hg]; exact Nat.ne_of_lt (blk_lt (g := gb125) (o := .cells #[.bool t117, .slice Ao44 t118.length co44, .slice Ao45 t121.length co45] 35 (0, 0)) (by (with_reducible repeat (first | refine kN9 ?_ _ | refine kD9 ?_ | refine kA9 ?_ _)); exact BK125.out)) : gb125 ≠ gb148)); have n13_ := Aside0.mk ((by rw [hg]; exact Nat.ne_of_gt (blk_lt (g := gb125) (o := .cells #[.bool t117, .slice Ao44 t118.length co44, .slice Ao45 t121.length co45] 35 (0, 0)) (by (with_reducible repeat (first | refine kN9 ?_ _ | refine kD9 ?_ | refine kA9 ?_ _)); exact BK125.out)) : gb148 ≠ gb125)); clear HO_126001; clear HO_126002; clear HO143; clear HO146; clear BK101; clear BK125; clear HB; have HO_126001 := n0_; have HO_126002 := n1_; have HO143 := n2_; have HO146 := n3_; have BK101 := n4_; have BK125 := n5_; have HB := n6_; have BK148 := n7_; have GW148 := n8_; have GE148 := n9_; have NB101_148 := n10_; have NB148_101 := n11_; have NB125_148 := n12_; have NB148_125 := n13_; clear n0_ n1_ n2_ n3_ n4_ n5_ n6_ n7_ n8_ n9_ n10_ n11_ n12_ n13_; clear hb hbox hg; have hnb86 := NB148_101.out; have hnc86 := NB101_148.out; have hnb87 := NB148_125.out; have hnc87 := NB125_148.out; have hcz88_0 : w85.cell? ⟨gb148, 0, none⟩ = some (.bool false) := (kC9 BK148.out 0).trans rfl; have hcz88_1 : w85.cell? ⟨gb148, 1, none⟩ = some (.slice none 0 0) := (kC9 BK148.out 1).trans rfl; have hcz88_2 : w85.cell? ⟨gb148, 2, none⟩ = some (.slice none 0 0) := (kC9 BK148.out 2).trans rfl; have hfz88_0 := kF9 BK148.out 0; have hfz88_1 := kF9 BK148.out 1; have hfz88_2 := kF9 BK148.out 2; obtain ⟨Ao89, co89, eo89⟩ := Kd.rS9 HO143.out; subst eo89; obtain ⟨Ao90, co90, eo90⟩ := Kd.rS9 HO146.out; subst eo90) | (go_at_call 15; (with_reducible refine (kn9.calls kj58  t151 _ (PowTab.below HT.out (by repeat (first | (with_reducible first | exact HB.out | apply bA9 | apply bN9 | apply bD9 | refine bS9 ?_ GE101.out | refine bS9 ?_ GE125.out | refine bS9 ?_ GE148.out) | exact HB.out))) A83.out).mono ?_); rintro e w91 ⟨rfl, hb⟩; have n0_ := Aside0.mk (Kd.rB9 (by (with_reducible repeat (first | apply Kd.rA9 | apply Kd.rN9 | apply Kd.rD9)); exact (Kd.R_mono (Kd.R_far (p := ⟨gb148, 2, none⟩) (Kd.R_far (p := ⟨gb148, 1, none⟩) (Kd.R_far (p := ⟨gb148, 0, none⟩) (Kd.rT9 HO_126001.out BK148.out (by decide)) (fun _ hk => hk.2) (.bool t140)) (fun _ hk => hk.2) (.slice Ao89 t141.length co89)) (fun _ hk => hk.2) (.slice Ao90 t144.length co90)) (fun _ h_ => h_.1))) hb); have n1_ := Aside0.mk (Kd.rB9 (by (with_reducible repeat (first | apply Kd.rA9 | apply Kd.rN9 | apply Kd.rD9)); exact (Kd.R_mono (Kd.R_far (p := ⟨gb148, 2, none⟩) (Kd.R_far (p := ⟨gb148, 1, none⟩) (Kd.R_far (p := ⟨gb148, 0, none⟩) (Kd.rT9 HO_126002.out BK148.out (by decide)) (fun _ hk => hk.2) (.bool t140)) (fun _ hk => hk.2) (.slice Ao89 t141.length co89)) (fun _ hk => hk.2) (.slice Ao90 t144.length co90)) (fun _ h_ => h_.1))) hb); have n2_ := Aside0.mk (Kd.rB9 (by (with_reducible repeat (first | apply Kd.rA9 | apply Kd.rN9 | apply Kd.rD9)); exact (Kd.R_mono (Kd.R_far (p := ⟨gb148, 2, none⟩) (Kd.R_far (p := ⟨gb148, 1, none⟩) (Kd.R_far (p := ⟨gb148, 0, none⟩) (Kd.rT9 HO143.out BK148.out (by decide)) (fun _ hk => hk.2) (.bool t140)) (fun _ hk => hk.2) (.slice Ao89 t141.length co89)) (fun _ hk => hk.2) (.slice Ao90 t144.length co90)) (fun _ h_ => h_.1))) hb); have n3_ := Aside0.mk (Kd.rB9 (by (with_reducible repeat (first | apply Kd.rA9 | apply Kd.rN9 | apply Kd.rD9)); exact (Kd.R_mono (Kd.R_far (p := ⟨gb148, 2, none⟩) (Kd.R_far (p := ⟨gb148, 1, none⟩) (Kd.R_far (p := ⟨gb148, 0, none⟩) (Kd.rT9 HO146.out BK148.out (by decide)) (fun _ hk => hk.2) (.bool t140)) (fun _ hk => hk.2) (.slice Ao89 t141.length co89)) (fun _ hk => hk.2) (.slice Ao90 t144.length co90)) (fun _ h_ => h_.1))) hb); have n4_ := Aside0.mk (kB9 (g := gb101) (o := .cells #[.bool a1_0, .slice A1_1 l1_1.length c1_1, .slice A1_2 l1_2.length c1_2] 35 (0, 0)) (by (with_reducible repeat (first | refine kN9 ?_ _ | refine kD9 ?_ | refine kA9 ?_ _)); refine blk_far ?_ NB101_148.out _; (with_reducible repeat (first | refine kN9 ?_ _ | refine kD9 ?_ | refine kA9 ?_ _)); refine blk_far ?_ NB101_148.out _; (with_reducible repeat (first | refine kN9 ?_ _ | refine kD9 ?_ | refine kA9 ?_ _)); refine blk_far ?_ NB101_148.out _; (with_reducible repeat (first | refine kN9 ?_ _ | refine kD9 ?_ | refine kA9 ?_ _)); exact BK101.out) hb); have n5_ := Aside0.mk (kB9 (g := gb125) (o := .cells #[.bool t117, .slice Ao44 t118.length co44, .slice Ao45 t121.length co45] 35 (0, 0)) (by (with_reducible repeat (first | refine kN9 ?_ _ | refine kD9 ?_ | refine kA9 ?_ _)); refine blk_far ?_ NB125_148.out _; (with_reducible repeat (first | refine kN9 ?_ _ | refine kD9 ?_ | refine kA9 ?_ _)); refine blk_far ?_ NB125_148.out _; (with_reducible repeat (first | refine kN9 ?_ _ | refine kD9 ?_ | refine kA9 ?_ _)); refine blk_far ?_ NB125_148.out _; (with_reducible repeat (first | refine kN9 ?_ _ | refine kD9 ?_ | refine kA9 ?_ _)); exact BK125.out) hb); have n6_ := Aside0.mk (kB9 (g := gb148) (o := .cells #[.bool t140, .slice Ao89 t141.length co89, .slice Ao90 t144.length co90] 35 (0, 0)) (by (with_reducible repeat (first | refine kN9 ?_ _ | refine kD9 ?_ | refine kA9 ?_ _)); refine kP9 (cs := #[.bool t140, .slice Ao89 t141.length co89, .slice none 0 0]) ?_ 2 _ rfl; (with_reducible repeat (first | refine kN9 ?_ _ | refine kD9 ?_ | refine kA9 ?_ _)); refine kP9 (cs := #[.bool t140, .slice none 0 0, .slice none 0 0]) ?_ 1 _ rfl; (with_reducible repeat (first | refine kN9 ?_ _ | refine kD9 ?_ | refine kA9 ?_ _)); refine kP9 (cs := #[.bool false, .slice none 0 0, .slice none 0 0]) ?_ 0 _ rfl; (with_reducible repeat (first | refine kN9 ?_ _ | refine kD9 ?_ | refine kA9 ?_ _)); exact BK148.out) hb); have n7_ := Aside0.mk (bT9 (by repeat (first | (with_reducible first | exact HB.out | apply bA9 | apply bN9 | apply bD9 | refine bS9 ?_ GE101.out | refine bS9 ?_ GE125.out | refine bS9 ?_ GE148.out) | exact HB.out)) hb); clear HO_126001; clear HO_126002; clear HO143; clear HO146; clear BK101; clear BK125; clear BK148; clear HB; have HO_126001 := n0_; have HO_126002 := n1_; have HO143 := n2_; have HO146 := n3_; have BK101 := n4_; have BK125 := n5_; have BK148 := n6_; have HB := n7_; clear n0_ n1_ n2_ n3_ n4_ n5_ n6_ n7_; (try clear hb); (try clear hb2); (try clear hk); (try clear hi)))
              go_ret
              exact ⟨by first | rfl | (simp [eN9, eS9] <;> rfl) | (simp [*, eN9, eS9] <;> rfl), by repeat (first | (with_reducible first | exact HB.out | apply bA9 | apply bN9 | apply bD9 | refine bS9 ?_ GE101.out | refine bS9 ?_ GE125.out | refine bS9 ?_ GE148.out) | exact HB.out)⟩
end Go.Proofs.YthppjdmkinbccaaGreatDoor.Print
