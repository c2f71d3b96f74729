/- Proved here: LexApart, the card of the law: no word is of two kinds, and a word of any kind is one word of a line. Without a condition. Written by wip/tools/claimtexts.py: these texts, one behind another, without what this claim does not use: PuNames, A1, A2, A3, PuRefA, A6, A7, PuRefB, PuNats, PuWord, A4, A5, PuRefC, A8, A9, PuRats, PuParse, PuBack, PuLines, PuSplits, PuApart, PureLexApart, LawLexApart. -/
import Derived.Test.YtibaoacjjcgjlaaGreatDoorMgApt5
import Derived.Test.YtibaoacjjcgjlaaGreatDoorMgApt6
import Derived.Test.YtibaoacjjcgjlaaGreatDoorMgApt2
import Derived.Test.YtibaoacjjcgjlaaGreatDoorMgApt4
import Derived.Test.YtibaoacjjcgjlaaGreatDoorMgApt3
import Derived.Test.YtibaoacjjcgjlaaGreatDoorCards
import Derived.Test.YtibaoacjjcgjlaaGreatDoorTie
import Derived.WalkKit
import Derived.ProofKit
import Derived.OpenShut
import Derived.ShutString
import Derived.ChangeOld
import Derived.Below
import Derived.SizedLaws
import Derived.Lay
import Derived.Look8
import Derived.Deep.DeepHandedRow
import Derived.Deep.DeepWitnessRowRef
import Derived.Lib.LaidTab
import Derived.Stop.LaidErr
import Derived.Test.YtibaoacjjcgjlaaGreatDoorMgApt1
namespace Go.Proofs.YtibaoacjjcgjlaaGreatDoor.Print
open Go.RowKit Go.Proofs.YtibaoacjjcgjlaaGreatDoorW.PrintWords Go.Proofs.YtibaoacjjcgjlaaGreatDoorW.PrintLast Go.Proofs.YtibaoacjjcgjlaaGreatDoorW.PrintMore
set_option linter.unusedVariables false
set_option linter.unusedSimpArgs false
theorem known16_ev : Ev (fun k => fluxionlaw16_known.f k) true := Ev.of (fun k => fluxionlaw16_known.mono k) (k := 40) (by decide +kernel)
theorem wrap_id {x : Int} (h0 : -9223372036854775808 ≤ x) (h1 : x ≤ 9223372036854775807) : wrap64 x = x := by
  unfold wrap64; omega
theorem Ev.at {α : Type} {g : Nat → Option α} {r : α} (n : Nat) (h : ∀ k, g (k + n) = some r) : Ev g r :=
  ⟨n, fun k hk => by rw [show k = (k - n) + n by omega]; exact h _⟩
theorem inB_iff (a b c : Int) : inB a b c = true ↔ a ≤ c ∧ c ≤ b := by simp [inB]
def hidB (s : ByteArray) : Bool := if Lib.hasPrefix s.data.toList [126] = true then (natW (s.extract 1 s.size) && decide (s.size ≤ 32)) else false
theorem rest_eq (s : ByteArray) (h : Lib.hasPrefix s.data.toList [126] = true) : (⟨(Lib.trimPrefix s.data.toList [126]).toArray⟩ : ByteArray) = s.extract 1 s.size := by
  refine Go.WideShapes.bytes_inj ?_
  rw [Lib.extract_to_end]
  unfold Lib.trimPrefix
  rw [if_pos h]; rfl
theorem rest_size (s : ByteArray) : (s.extract 1 s.size).size = s.size - 1 := by simp [ByteArray.size_extract]
theorem hidden_eq (s : ByteArray) (hs : s.size ≤ 140737488351232) : lex_Hidden.f s = some (hidB s) := by
  unfold lex_Hidden.f strings_CutPrefix.f hidB
  simp only [Option.bind_some]
  by_cases h : Lib.hasPrefix s.data.toList [126] = true
  · rw [if_pos h, if_pos h, rest_eq s h]
    unfold lex_natural.f
    rw [if_pos (by rw [rest_size]; omega)]
    simp only [Option.bind_some]
    cases natW (s.extract 1 s.size) with
    | true => rw [if_pos rfl]; simp; omega
    | false => rw [if_neg (by decide)]; rfl
  · rw [if_neg h, if_neg h]
theorem mayK_0 (s : ByteArray) : mayK s 0 3 = inB 97 122 (bt s 0) := by
  show (inB 97 122 (bt s ((0 : Nat) : Int)) || _ && decide (0 < 0) || _ && decide (0 < 0)) = _
  simp
theorem mayK_pos (s : ByteArray) (i : Nat) (h : 0 < i) : mayK s i 3 = (inB 97 122 (bt s (i : Int)) || inB 48 57 (bt s (i : Int)) || inB 95 95 (bt s (i : Int))) := by
  show (inB 97 122 (bt s (i : Int)) || _ && decide (0 < i) || _ && decide (0 < i)) = _
  simp [h]
theorem name_eq (s : ByteArray) (hs : s.size ≤ 140737488351232) : lex_Name.f s = some (if plainB s = true then 0 else if hidB s = true then 0 else 15) := by
  unfold lex_Name.f lex_plain.f
  rw [if_pos hs, Option.bind_some, hidden_eq s hs]
  by_cases h : plainB s = true
  · rw [if_pos h, if_pos h]
  · rw [if_neg h, if_neg h, Option.bind_some]
    by_cases h2 : hidB s = true
    · rw [if_pos h2, if_pos h2]
    · rw [if_neg h2, if_neg h2]
end Go.Proofs.YtibaoacjjcgjlaaGreatDoor.Print

namespace Go.Proofs.YtibaoacjjcgjlaaGreatDoor.Print
open Go.RowKit Go.Proofs.YtibaoacjjcgjlaaGreatDoorW.PrintWords Go.Proofs.YtibaoacjjcgjlaaGreatDoorW.PrintLast Go.Proofs.YtibaoacjjcgjlaaGreatDoorW.PrintMore
attribute [local go_sem] max2_int min2_int max_two min_two max_three min_three max_four min_four   -- for this text's walks alone
set_option linter.unusedVariables false
set_option linter.unusedSimpArgs false
def r1d.f (l0 : List Int) (a1 : Int) : Option (Int) := if a1 < (l0.length : Int) then (if 0 ≤ a1 then (some (rd l0 a1)) else (none)) else (some 0)
mutual
def r1Add.l0 : Nat → List Int → List Int → List Int → Int → Int → Option (List Int)
 | 0, _, _, _, _, _ => none
 | k + 1, x0, x1, x5, x6, x7 => if x7 < (x0.length : Int) then (r1Add.j1 k x0 x1 x5 x6 x7 true) else (if x7 < (x1.length : Int) then (r1Add.j1 k x0 x1 x5 x6 x7 true) else (r1Add.j1 k x0 x1 x5 x6 x7 (decide (x6 > 0))))
def r1Add.j1 : Nat → List Int → List Int → List Int → Int → Int → Bool → Option (List Int)
 | 0, _, _, _, _, _, _ => none
 | k + 1, x0, x1, x5, x6, x7, x22 => if x22 = true then ((r1d.f x0 x7).bind fun t102 => ((r1d.f x1 x7).bind fun t103 => (if x5.length < 17592186044416 then (r1Add.l0 k x0 x1 (x5 ++ [Int.tmod (wrap64 ((wrap64 (t102 + t103)) + x6)) 10000]) (wrap64 (Int.tdiv (wrap64 ((wrap64 (t102 + t103)) + x6)) 10000)) (wrap64 (x7 + 1))) else (none)))) else (some x5)
end
def r1Add.f (k : Nat) (l0 : List Int) (l1 : List Int) : Option (List Int) := r1Add.l0 k l0 l1 ([] : List Int) 0 0
def r1t.l0 : Nat → List Int → Int → Option (List Int)
 | 0, _, _ => none
 | k + 1, x0, x3 => if x3 > 0 then (if 0 ≤ (wrap64 (x3 - 1)) then (if (wrap64 (x3 - 1)) < (x0.length : Int) then (if (rd x0 (wrap64 (x3 - 1))) = 0 then (r1t.l0 k x0 (wrap64 (x3 - 1))) else (if 0 ≤ x3 then (if x3 ≤ (x0.length : Int) then (some (x0.take (x3 : Int).toNat)) else (none)) else (none))) else (none)) else (none)) else (if 0 ≤ x3 then (if x3 ≤ (x0.length : Int) then (some (x0.take (x3 : Int).toNat)) else (none)) else (none))
def r1t.f (k : Nat) (l0 : List Int) : Option (List Int) := r1t.l0 k l0 (l0.length : Int)
def r1Times.l0 : Nat → List Int → Int → List Int → Int → Int → Option (List Int)
 | 0, _, _, _, _, _ => none
 | k + 1, x0, x1, x5, x6, x7 => if x7 < (x0.length : Int) then ((r1d.f x0 x7).bind fun t114 => (if x5.length < 17592186044416 then (r1Times.l0 k x0 x1 (x5 ++ [Int.tmod (wrap64 ((wrap64 (t114 * x1)) + x6)) 10000]) (wrap64 (Int.tdiv (wrap64 ((wrap64 (t114 * x1)) + x6)) 10000)) (wrap64 (x7 + 1))) else (none))) else (if x6 > 0 then ((r1d.f x0 x7).bind fun t118 => (if x5.length < 17592186044416 then (r1Times.l0 k x0 x1 (x5 ++ [Int.tmod (wrap64 ((wrap64 (t118 * x1)) + x6)) 10000]) (wrap64 (Int.tdiv (wrap64 ((wrap64 (t118 * x1)) + x6)) 10000)) (wrap64 (x7 + 1))) else (none))) else ((r1t.f k x5).bind fun t122 => (some t122)))
def r1Times.f (k : Nat) (l0 : List Int) (a1 : Int) : Option (List Int) := r1Times.l0 k l0 a1 ([] : List Int) 0 0
end Go.Proofs.YtibaoacjjcgjlaaGreatDoor.Print

namespace Go.Proofs.YtibaoacjjcgjlaaGreatDoor.Print
open Go.RowKit Go.Proofs.YtibaoacjjcgjlaaGreatDoorW.PrintWords Go.Proofs.YtibaoacjjcgjlaaGreatDoorW.PrintLast Go.Proofs.YtibaoacjjcgjlaaGreatDoorW.PrintMore
attribute [local go_sem] max2_int min2_int max_two min_two max_three min_three max_four min_four   -- for this text's walks alone
set_option linter.unusedVariables false
set_option linter.unusedSimpArgs false
def r1Sm.l0 : Nat → Int → List Int → Option (List Int)
 | 0, _, _ => none
 | k + 1, x0, x3 => if x0 > 0 then (if x3.length < 17592186044416 then (r1Sm.l0 k (wrap64 (Int.tdiv x0 10000)) (x3 ++ [Int.tmod x0 10000])) else (none)) else (some x3)
def r1Sm.f (k : Nat) (a0 : Int) : Option (List Int) := r1Sm.l0 k a0 ([] : List Int)
end Go.Proofs.YtibaoacjjcgjlaaGreatDoor.Print

namespace Go.Proofs.YtibaoacjjcgjlaaGreatDoor.Print
open Go.RowKit Go.Proofs.YtibaoacjjcgjlaaGreatDoorW.PrintWords Go.Proofs.YtibaoacjjcgjlaaGreatDoorW.PrintLast Go.Proofs.YtibaoacjjcgjlaaGreatDoorW.PrintMore
attribute [local go_sem] max2_int min2_int max_two min_two max_three min_three max_four min_four   -- for this text's walks alone
set_option linter.unusedVariables false
set_option linter.unusedSimpArgs false
def r1Cmp.l0 : Nat → List Int → List Int → Int → Option (Int)
 | 0, _, _, _ => none
 | k + 1, x0, x1, x5 => if x5 ≥ 0 then (if 0 ≤ x5 then (if x5 < (x0.length : Int) then (if x5 < (x1.length : Int) then (if (rd x0 x5) < (rd x1 x5) then (some (-1)) else (if (rd x0 x5) > (rd x1 x5) then (some 1) else (r1Cmp.l0 k x0 x1 (wrap64 (x5 - 1))))) else (none)) else (none)) else (none)) else (some 0)
def r1Cmp.f (k : Nat) (l0 : List Int) (l1 : List Int) : Option (Int) := if (l0.length : Int) = (l1.length : Int) then (r1Cmp.l0 k l0 l1 (wrap64 ((l0.length : Int) - 1))) else (if (l0.length : Int) < (l1.length : Int) then (some (-1)) else (some 1))
def r1S.l0 : Nat → List Int → Int → List Int → Int → Int → Option (List Int × Int)
 | 0, _, _, _, _, _ => none
 | k + 1, x0, x1, x6, x7, x8 => if x8 ≥ 0 then (if 0 ≤ x8 then (if x8 < (x0.length : Int) then (if x1 = 0 then (none) else (if x8 < (x6.length : Int) then (r1S.l0 k x0 x1 (x6.set (x8 : Int).toNat (wrap64 (Int.tdiv (wrap64 ((wrap64 (x7 * 10000)) + (rd x0 x8))) x1))) (Int.tmod (wrap64 ((wrap64 (x7 * 10000)) + (rd x0 x8))) x1) (wrap64 (x8 - 1))) else (none))) else (none)) else (none)) else ((r1t.f k x6).bind fun t156 => (some (t156, x7)))
def r1S.f (k : Nat) (l0 : List Int) (a1 : Int) : Option (List Int × Int) := if 0 ≤ (l0.length : Int) then (if ((l0.length : Int) : Int).toNat ≤ 35184372088832 then (r1S.l0 k l0 a1 (List.replicate ((l0.length : Int) : Int).toNat 0) 0 (wrap64 ((l0.length : Int) - 1))) else (none)) else (none)
def r1B.l0 : Nat → List Int → Int → Option (Int)
 | 0, _, _ => none
 | k + 1, x0, x3 => if (x0.length : Int) > 0 then ((r1S.f k x0 2).bind fun bt159 => (r1B.l0 k bt159.1 (wrap64 (x3 + 1)))) else (some x3)
def r1B.f (k : Nat) (l0 : List Int) : Option (Int) := r1B.l0 k l0 0
end Go.Proofs.YtibaoacjjcgjlaaGreatDoor.Print

namespace Go.Proofs.YtibaoacjjcgjlaaGreatDoor.Ref
open Go.RowKit Go.Proofs.YtibaoacjjcgjlaaGreatDoorW.PrintWords Go.Proofs.YtibaoacjjcgjlaaGreatDoorW.PrintLast Go.Proofs.YtibaoacjjcgjlaaGreatDoor.Print Go.Proofs.YtibaoacjjcgjlaaGreatDoor.Base
set_option linter.unusedVariables false
set_option linter.unusedSimpArgs false
theorem w64 {x : Int} (h0 : -9223372036854775808 ≤ x) (h1 : x ≤ 9223372036854775807) : wrap64 x = x := by
  unfold wrap64; omega
theorem digB_step {B v : Nat} (hB : 2 ≤ B) (hv : 0 < v) : digB B v = ((v % B : Nat) : Int) :: digB B (v / B) := by
  have hm := Nat.mod_lt v (show 0 < B by omega)
  refine GoodB.inj (digB_good B hB v) ⟨DigB.cons (by omega) (by omega) (digB_good B hB _).dig, fun c => ?_⟩ ?_
  · cases hr : digB B (v / B) with
    | nil =>
      rw [hr] at c
      have h1 : ((v % B : Nat) : Int) = 0 := by simpa using c
      have h2 : v / B = 0 := by have := digB_val B hB (v / B); rw [hr] at this; exact this.symm
      have := Nat.mod_add_div v B
      rw [h2] at this; omega
    | cons e s =>
      rw [hr, List.getLast?_cons_cons, ← hr] at c
      exact (digB_good B hB _).can c
  · rw [digB_val B hB, valB_cons, digB_val B hB, Int.toNat_natCast, Nat.mod_add_div]
theorem limb_lt {l : List Int} (h : DigB 10000 l) (i : Nat) : limbN l i < 10000 := limbN_lt (by decide) h i
def addF (a b : List Int) (i : Nat) : Nat := limbN a i + limbN b i
theorem addF_small {a b : List Int} (da : DigB 10000 a) (db : DigB 10000 b) (i : Nat) : addF a b i ≤ 2 * (10000 - 1) := by
  have := limb_lt da i; have := limb_lt db i; unfold addF; omega
theorem valB_drop {B : Nat} {l : List Int} {j : Nat} (h : j < l.length) : valB B (l.drop j) = limbN l j + B * valB B (l.drop (j + 1)) := by
  rw [List.drop_eq_getElem_cons h, valB_cons]
  simp [limbN, h]
end Go.Proofs.YtibaoacjjcgjlaaGreatDoor.Ref

namespace Go.Proofs.YtibaoacjjcgjlaaGreatDoor.Print
open Go.RowKit Go.Proofs.YtibaoacjjcgjlaaGreatDoorW.PrintWords Go.Proofs.YtibaoacjjcgjlaaGreatDoorW.PrintLast Go.Proofs.YtibaoacjjcgjlaaGreatDoorW.PrintMore
attribute [local go_sem] max2_int min2_int max_two min_two max_three min_three max_four min_four   -- for this text's walks alone
set_option linter.unusedVariables false
set_option linter.unusedSimpArgs false
def fluxionref04_four.f (a0 : Int) : Option (ByteArray) := if 0 ≤ (wrap64 (Int.tdiv a0 1000)) then (if (wrap64 (Int.tdiv a0 1000)) ≤ (wrap64 ((wrap64 (Int.tdiv a0 1000)) + 1)) then (if (wrap64 ((wrap64 (Int.tdiv a0 1000)) + 1)) ≤ 10 then (if 0 ≤ (Int.tmod (wrap64 (Int.tdiv a0 100)) 10) then (if (Int.tmod (wrap64 (Int.tdiv a0 100)) 10) ≤ (wrap64 ((Int.tmod (wrap64 (Int.tdiv a0 100)) 10) + 1)) then (if (wrap64 ((Int.tmod (wrap64 (Int.tdiv a0 100)) 10) + 1)) ≤ 10 then (if ((⟨#[48, 49, 50, 51, 52, 53, 54, 55, 56, 57]⟩ : ByteArray).extract ((wrap64 (Int.tdiv a0 1000)) : Int).toNat ((wrap64 ((wrap64 (Int.tdiv a0 1000)) + 1)) : Int).toNat).size + ((⟨#[48, 49, 50, 51, 52, 53, 54, 55, 56, 57]⟩ : ByteArray).extract ((Int.tmod (wrap64 (Int.tdiv a0 100)) 10) : Int).toNat ((wrap64 ((Int.tmod (wrap64 (Int.tdiv a0 100)) 10) + 1)) : Int).toNat).size ≤ 9223372036854775807 then (if 0 ≤ (Int.tmod (wrap64 (Int.tdiv a0 10)) 10) then (if (Int.tmod (wrap64 (Int.tdiv a0 10)) 10) ≤ (wrap64 ((Int.tmod (wrap64 (Int.tdiv a0 10)) 10) + 1)) then (if (wrap64 ((Int.tmod (wrap64 (Int.tdiv a0 10)) 10) + 1)) ≤ 10 then (if (((⟨#[48, 49, 50, 51, 52, 53, 54, 55, 56, 57]⟩ : ByteArray).extract ((wrap64 (Int.tdiv a0 1000)) : Int).toNat ((wrap64 ((wrap64 (Int.tdiv a0 1000)) + 1)) : Int).toNat) ++ ((⟨#[48, 49, 50, 51, 52, 53, 54, 55, 56, 57]⟩ : ByteArray).extract ((Int.tmod (wrap64 (Int.tdiv a0 100)) 10) : Int).toNat ((wrap64 ((Int.tmod (wrap64 (Int.tdiv a0 100)) 10) + 1)) : Int).toNat)).size + ((⟨#[48, 49, 50, 51, 52, 53, 54, 55, 56, 57]⟩ : ByteArray).extract ((Int.tmod (wrap64 (Int.tdiv a0 10)) 10) : Int).toNat ((wrap64 ((Int.tmod (wrap64 (Int.tdiv a0 10)) 10) + 1)) : Int).toNat).size ≤ 9223372036854775807 then (if 0 ≤ (Int.tmod a0 10) then (if (Int.tmod a0 10) ≤ (wrap64 ((Int.tmod a0 10) + 1)) then (if (wrap64 ((Int.tmod a0 10) + 1)) ≤ 10 then (if ((((⟨#[48, 49, 50, 51, 52, 53, 54, 55, 56, 57]⟩ : ByteArray).extract ((wrap64 (Int.tdiv a0 1000)) : Int).toNat ((wrap64 ((wrap64 (Int.tdiv a0 1000)) + 1)) : Int).toNat) ++ ((⟨#[48, 49, 50, 51, 52, 53, 54, 55, 56, 57]⟩ : ByteArray).extract ((Int.tmod (wrap64 (Int.tdiv a0 100)) 10) : Int).toNat ((wrap64 ((Int.tmod (wrap64 (Int.tdiv a0 100)) 10) + 1)) : Int).toNat)) ++ ((⟨#[48, 49, 50, 51, 52, 53, 54, 55, 56, 57]⟩ : ByteArray).extract ((Int.tmod (wrap64 (Int.tdiv a0 10)) 10) : Int).toNat ((wrap64 ((Int.tmod (wrap64 (Int.tdiv a0 10)) 10) + 1)) : Int).toNat)).size + ((⟨#[48, 49, 50, 51, 52, 53, 54, 55, 56, 57]⟩ : ByteArray).extract ((Int.tmod a0 10) : Int).toNat ((wrap64 ((Int.tmod a0 10) + 1)) : Int).toNat).size ≤ 9223372036854775807 then (some (((((⟨#[48, 49, 50, 51, 52, 53, 54, 55, 56, 57]⟩ : ByteArray).extract ((wrap64 (Int.tdiv a0 1000)) : Int).toNat ((wrap64 ((wrap64 (Int.tdiv a0 1000)) + 1)) : Int).toNat) ++ ((⟨#[48, 49, 50, 51, 52, 53, 54, 55, 56, 57]⟩ : ByteArray).extract ((Int.tmod (wrap64 (Int.tdiv a0 100)) 10) : Int).toNat ((wrap64 ((Int.tmod (wrap64 (Int.tdiv a0 100)) 10) + 1)) : Int).toNat)) ++ ((⟨#[48, 49, 50, 51, 52, 53, 54, 55, 56, 57]⟩ : ByteArray).extract ((Int.tmod (wrap64 (Int.tdiv a0 10)) 10) : Int).toNat ((wrap64 ((Int.tmod (wrap64 (Int.tdiv a0 10)) 10) + 1)) : Int).toNat)) ++ ((⟨#[48, 49, 50, 51, 52, 53, 54, 55, 56, 57]⟩ : ByteArray).extract ((Int.tmod a0 10) : Int).toNat ((wrap64 ((Int.tmod a0 10) + 1)) : Int).toNat))) else (none)) else (none)) else (none)) else (none)) else (none)) else (none)) else (none)) else (none)) else (none)) else (none)) else (none)) else (none)) else (none)) else (none)) else (none)
mutual
def r4N.l0 : Nat → List Int → ByteArray → Int → Option (ByteArray)
 | 0, _, _, _ => none
 | k + 1, x0, x3, x4 => if x4 ≥ 0 then (if 0 ≤ x4 then (if x4 < (x0.length : Int) then ((fluxionref04_four.f (rd x0 x4)).bind fun t241 => (if x3.size + t241.size ≤ 9223372036854775807 then (r4N.l0 k x0 (x3 ++ t241) (wrap64 (x4 - 1))) else (none))) else (none)) else (none)) else (r4N.l1 k x3 0)
def r4N.l1 : Nat → ByteArray → Int → Option (ByteArray)
 | 0, _, _ => none
 | k + 1, x3, x5 => if 0 ≤ x5 then (if x5 < (x3.size : Int) then (if (bt x3 x5) = 48 then (r4N.l1 k x3 (wrap64 (x5 + 1))) else (if x5 ≤ (x3.size : Int) then (some (x3.extract (x5 : Int).toNat x3.size)) else (none))) else (none)) else (none)
end
def r4N.f (k : Nat) (l0 : List Int) : Option (ByteArray) := if (l0.length : Int) = 0 then (some (⟨#[48]⟩ : ByteArray)) else (r4N.l0 k l0 (⟨#[]⟩ : ByteArray) (wrap64 ((l0.length : Int) - 1)))
def r4nat.l0 : Nat → ByteArray → Int → Option (Bool)
 | 0, _, _ => none
 | k + 1, x0, x3 => if x3 < (x0.size : Int) then (if 0 ≤ x3 then (if (bt x0 x3) < 48 then (some false) else (if (bt x0 x3) > 57 then (some false) else (r4nat.l0 k x0 (wrap64 (x3 + 1))))) else (none)) else (if (x0.size : Int) > 0 then (if 0 < (x0.size : Int) then (if (bt x0 0) = 48 then (some ((x0.size : Int) == 1)) else (some true)) else (none)) else (some false))
def r4nat.f (k : Nat) (a0 : ByteArray) : Option (Bool) := r4nat.l0 k a0 0
end Go.Proofs.YtibaoacjjcgjlaaGreatDoor.Print

namespace Go.Proofs.YtibaoacjjcgjlaaGreatDoor.Print
open Go.RowKit Go.Proofs.YtibaoacjjcgjlaaGreatDoorW.PrintWords Go.Proofs.YtibaoacjjcgjlaaGreatDoorW.PrintLast Go.Proofs.YtibaoacjjcgjlaaGreatDoorW.PrintMore
attribute [local go_sem] max2_int min2_int max_two min_two max_three min_three max_four min_four   -- for this text's walks alone
set_option linter.unusedVariables false
set_option linter.unusedSimpArgs false
def r4nr.l0 : Nat → ByteArray → List Int → Int → Option (List Int)
 | 0, _, _, _ => none
 | k + 1, x0, x3, x4 => if x4 < (x0.size : Int) then ((r1Times.f k x3 10).bind fun t242 => (if 0 ≤ x4 then ((r1Sm.f k (wrap64 ((wrap64 (bt x0 x4)) - 48))).bind fun t245 => ((r1Add.f k t242 t245).bind fun t248 => (r4nr.l0 k x0 t248 (wrap64 (x4 + 1))))) else (none))) else (some x3)
def r4nr.f (k : Nat) (a0 : ByteArray) : Option (List Int) := r4nr.l0 k a0 ([] : List Int) 0
def r4PN.f (k : Nat) (a0 : ByteArray) : Option (List Int × Int) := (r4nat.f k a0).bind fun t251 => (if t251 = true then (if (a0.size : Int) > 400 then (some (([] : List Int), 14)) else ((r4nr.f k a0).bind fun t252 => ((r1B.f k t252).bind fun t255 => (if t255 > 1024 then (some (([] : List Int), 14)) else (some (t252, 0)))))) else (some (([] : List Int), 19)))
def r4R.j0 : Nat → ByteArray → Bool → List Int → List Int → Option (ByteArray)
 | 0, _, _, _, _ => none
 | k + 1, x3, x257000, x257001, x257002 => (r4N.f k x257002).bind fun t258 => (if t258.toList = ([49] : List UInt8) then (some x3) else (if x3.size + 1 ≤ 9223372036854775807 then (if (x3 ++ (⟨#[47]⟩ : ByteArray)).size + t258.size ≤ 9223372036854775807 then (some ((x3 ++ (⟨#[47]⟩ : ByteArray)) ++ t258)) else (none)) else (none)))
def r4R.f (k : Nat) (a0_0 : Bool) (l0_1 : List Int) (l0_2 : List Int) : Option (ByteArray) := (r4N.f k l0_1).bind fun t257 => (if a0_0 = true then (if 1 + t257.size ≤ 9223372036854775807 then (r4R.j0 k ((⟨#[45]⟩ : ByteArray) ++ t257) a0_0 l0_1 l0_2) else (none)) else (r4R.j0 k t257 a0_0 l0_1 l0_2))
end Go.Proofs.YtibaoacjjcgjlaaGreatDoor.Print

namespace Go.Proofs.YtibaoacjjcgjlaaGreatDoor.Ref
open Go.RowKit Go.Proofs.YtibaoacjjcgjlaaGreatDoorW.PrintWords Go.Proofs.YtibaoacjjcgjlaaGreatDoorW.PrintLast Go.Proofs.YtibaoacjjcgjlaaGreatDoor.Print Go.Proofs.YtibaoacjjcgjlaaGreatDoor.Base
set_option linter.unusedVariables false
set_option linter.unusedSimpArgs false
structure Quot (B V : Nat) (l out : List Int) (i : Nat) : Prop where
  len : out.length = l.length
  dig : DigB B out
  low : ∀ t, t < i → limbN out t = 0
  val : valB B out = B ^ i * (valB B (l.drop i) / V)
theorem Quot.start {B V : Nat} (hB : 0 < B) (l : List Int) : Quot B V l (List.replicate l.length 0) l.length := by
  refine ⟨by simp, DigB.zeros B hB _, fun t _ => ?_, by rw [valB_zeros, List.drop_length, valB_nil, Nat.zero_div, Nat.mul_zero]⟩
  unfold limbN
  rcases Nat.lt_or_ge t l.length with c | c
  · simp [c]
  · simp [Nat.not_lt.2 c]
theorem quot_step {B V d X : Nat} (hV : 0 < V) (hd : d < B) : (d + B * X) / V = B * (X / V) + (X % V * B + d) / V ∧ (d + B * X) % V = (X % V * B + d) % V ∧ (X % V * B + d) / V < B := by
  have e : d + B * X = (X % V * B + d) + V * (B * (X / V)) := by
    have h := Nat.mod_add_div X V
    have h2 : B * X = B * (X % V) + B * (V * (X / V)) := by rw [← Nat.mul_add, h]
    rw [h2, Nat.mul_left_comm B V, Nat.mul_comm B (X % V)]; omega
  refine ⟨by rw [e, Nat.add_mul_div_left _ _ hV]; omega, by rw [e, Nat.add_mul_mod_self_left], ?_⟩
  refine Nat.div_lt_of_lt_mul ?_
  have h1 : X % V + 1 ≤ V := Nat.mod_lt X hV
  have h2 := Nat.mul_le_mul_right B h1
  rw [Nat.add_mul, Nat.one_mul] at h2
  omega
theorem Quot.next {B V : Nat} {l out : List Int} {i : Nat} (h : Quot B V l out (i + 1)) (hB : 0 < B) (hV : 0 < V) (hl : DigB B l) (hi : i < l.length) {q : Int}
    (hq : q = (((valB B (l.drop (i + 1)) % V * B + limbN l i) / V : Nat) : Int)) : Quot B V l (out.set i q) i := by
  obtain ⟨h1, h2, h3⟩ := quot_step (X := valB B (l.drop (i + 1))) hV (limbN_lt hB hl i)
  have hio : i < out.length := by rw [h.len]; exact hi
  refine ⟨by rw [List.length_set]; exact h.len, fun x hx => ?_, fun t ht => ?_, ?_⟩
  · rcases List.mem_or_eq_of_mem_set hx with hx | hx
    · exact h.dig x hx
    · rw [hx, hq]; exact ⟨Int.natCast_nonneg _, Int.ofNat_lt.2 h3⟩
  · have := h.low t (by omega)
    unfold limbN at this ⊢
    simpa [show i ≠ t by omega] using this
  · have hs := valB_set (B := B) out i hio q
    have h0 := h.low i (by omega)
    unfold limbN at h0
    rw [h0, Nat.mul_zero, Nat.add_zero, h.val, hq, Int.toNat_natCast] at hs
    rw [hq, hs, valB_drop hi, h1, Nat.pow_succ, Nat.mul_add, Nat.mul_assoc]
theorem Quot.done {V : Nat} {l out : List Int} (h : Quot 10000 V l out 0) : valB 10000 out = valB 10000 l / V := by
  have := h.val
  rwa [Nat.pow_zero, Nat.one_mul, List.drop_zero] at this
theorem Quot.rest {B V : Nat} {l : List Int} {i : Nat} (hB : 0 < B) (hV : 0 < V) (hl : DigB B l) (hi : i < l.length) : valB B (l.drop i) % V = (valB B (l.drop (i + 1)) % V * B + limbN l i) % V := by
  rw [valB_drop hi]; exact (quot_step hV (limbN_lt hB hl i)).2.1
def nb (x : Nat) : Nat := if x = 0 then 0 else x.log2 + 1
def bA (l : List UInt8) : ByteArray := ⟨l.toArray⟩
theorem piece (d : Nat) (h : d < 10) : (⟨#[48, 49, 50, 51, 52, 53, 54, 55, 56, 57]⟩ : ByteArray).extract d (d + 1) = bA [UInt8.ofNat (48 + d)] := by
  rcases (by omega : d = 0 ∨ d = 1 ∨ d = 2 ∨ d = 3 ∨ d = 4 ∨ d = 5 ∨ d = 6 ∨ d = 7 ∨ d = 8 ∨ d = 9) with rfl | rfl | rfl | rfl | rfl | rfl | rfl | rfl | rfl | rfl <;> rfl
theorem bt_lst (s : ByteArray) (i : Nat) (h : i < s.data.toList.length) : bt s (i : Int) = ((s.data.toList[i].toNat : Nat) : Int) := by
  rw [← bt_at s i (by simpa using h)]; rfl
theorem bt_bA (L : List UInt8) (i : Nat) (h : i < L.length) : bt (bA L) (i : Int) = ((L[i].toNat : Nat) : Int) := by
  have := bt_lst (bA L) i (by simpa [bA] using h)
  simpa [bA] using this
theorem bA_size (l : List UInt8) : (bA l).size = l.length := rfl
theorem bA_append (a b : List UInt8) : bA a ++ bA b = bA (a ++ b) := by
  refine Go.WideShapes.bytes_inj ?_
  rw [ByteArray.data_append, Array.toList_append]; simp [bA]
def refNat (l : List UInt8) : List Int × Int := if natB l = true then (if 400 < l.length then ([], 14) else if numD l < 4294967296 ^ 32 then (digB 10000 (numD l), 0) else ([], 14)) else ([], 19)
end Go.Proofs.YtibaoacjjcgjlaaGreatDoor.Ref

namespace Go.Proofs.YtibaoacjjcgjlaaGreatDoor.Ref
open Go.RowKit Go.Proofs.YtibaoacjjcgjlaaGreatDoorW.PrintWords Go.Proofs.YtibaoacjjcgjlaaGreatDoorW.PrintLast Go.Proofs.YtibaoacjjcgjlaaGreatDoor.Print Go.Proofs.YtibaoacjjcgjlaaGreatDoor.Base
set_option linter.unusedVariables false
set_option linter.unusedSimpArgs false
theorem nat_f {l : List Int} (h : okN l = true) : digits_Nat.f l = some (decB (valB 4294967296 l)) := by unfold digits_Nat.f; rw [if_pos h]
theorem cmp_f {a b : List Int} (h : okN a = true) (k : okN b = true) : nat_Cmp.f a b = some (cmpN (valB 4294967296 a) (valB 4294967296 b)) := by unfold nat_Cmp.f; rw [if_pos ⟨h, k⟩]
theorem le_pow10 {k a b : Nat} (h : a * b ≤ k) : (10 ^ a) ^ b ≤ 10 ^ k := by
  rw [← Nat.pow_mul]; exact Nat.pow_le_pow_right (by decide) h
def progNat (l : List UInt8) : List Int × Int := if natB l = true then (if 309 < l.length then ([], 14) else if numD l < 4294967296 ^ 32 then (digB 4294967296 (numD l), 0) else ([], 14)) else ([], 19)
theorem num_big {l : List UInt8} (h : NatL l) (hl : 309 < l.length) : 4294967296 ^ 32 ≤ numD l := by
  obtain ⟨h1, h2, h3⟩ := h
  cases l with
  | nil => simp at hl
  | cons c r =>
    have hc : c ≠ 48 := fun e => by
      have := h3 (by rw [e]; rfl)
      omega
    have hd := h2 c (List.mem_cons_self ..)
    have hne : c.toNat ≠ 48 := fun e => hc (UInt8.toNat_inj.1 (by have h48 : (48 : UInt8).toNat = 48 := rfl; omega))
    have e1 : numD (c :: r) = numF (10 * 0 + (c.toNat - 48)) r := rfl
    rw [e1, numF_eq]
    have hr : 309 ≤ r.length := by simp at hl; omega
    have a1 : 4294967296 ^ 32 ≤ (10 ^ 103) ^ 3 := Nat.le_of_ble_eq_true rfl
    have a2 : (10 ^ 103) ^ 3 ≤ 10 ^ r.length := le_pow10 hr
    have a3 : 1 * 10 ^ r.length ≤ (10 * 0 + (c.toNat - 48)) * 10 ^ r.length := Nat.mul_le_mul_right _ (by omega)
    exact Nat.le_trans a1 (Nat.le_trans a2 (Nat.le_trans (by rw [Nat.one_mul] at a3; exact a3) (Nat.le_add_right _ _)))
theorem read_same (l : List UInt8) : (progNat l = ([], 19) ∧ refNat l = ([], 19)) ∨ (progNat l = ([], 14) ∧ refNat l = ([], 14)) ∨ (natB l = true ∧ l.length ≤ 309 ∧ numD l < 4294967296 ^ 32 ∧ progNat l = (digB 4294967296 (numD l), 0) ∧ refNat l = (digB 10000 (numD l), 0)) := by
  unfold progNat refNat
  by_cases h : natB l = true
  · rw [if_pos h, if_pos h]
    by_cases h4 : 400 < l.length
    · rw [if_pos h4, if_pos (by omega)]; exact Or.inr (Or.inl ⟨rfl, rfl⟩)
    · rw [if_neg h4]
      by_cases h3 : 309 < l.length
      · have := num_big (natB_iff.1 h) h3
        rw [if_pos h3, if_neg (Nat.not_lt.2 this)]; exact Or.inr (Or.inl ⟨rfl, rfl⟩)
      · rw [if_neg h3]
        by_cases h2 : numD l < 4294967296 ^ 32
        · rw [if_pos h2, if_pos h2]; exact Or.inr (Or.inr ⟨h, by omega, h2, rfl, rfl⟩)
        · rw [if_neg h2, if_neg h2]; exact Or.inr (Or.inl ⟨rfl, rfl⟩)
  · rw [if_neg h, if_neg h]; exact Or.inl ⟨rfl, rfl⟩
theorem bA_self (s : ByteArray) : bA s.data.toList = s := by cases s; simp [bA]
theorem bA_list (l : List UInt8) : (bA l).data.toList = l := by simp [bA]
theorem bA_toList (l : List UInt8) : (bA l).toList = l := by rw [ByteArray.toList_eq]; exact bA_list l
theorem bA_dec (v : Nat) : decB v = bA (Lib.decDigits v) := rfl
theorem dec_len {x n : Nat} (h : x < 4294967296 ^ n) : (Lib.decDigits x).length ≤ 10 * n + 1 := by
  refine (padD_dec (10 * n) x (Nat.lt_of_lt_of_le h ?_)).1
  rw [Nat.pow_succ, Nat.pow_mul]
  exact Nat.le_trans (Nat.pow_le_pow_left (by decide) n) (Nat.le_mul_of_pos_right _ (by decide))
theorem okD {v m : Nat} (h : v < 4294967296 ^ m) (hm : m ≤ 1000000) : okN (digB 4294967296 v) = true := okN_digB h (by omega)
theorem valD (v : Nat) : valB 4294967296 (digB 4294967296 v) = v := digB_val _ (by decide) v
end Go.Proofs.YtibaoacjjcgjlaaGreatDoor.Ref

namespace Go.Proofs.YtibaoacjjcgjlaaGreatDoor.Ref
open Go.RowKit Go.Proofs.YtibaoacjjcgjlaaGreatDoorW.PrintWords Go.Proofs.YtibaoacjjcgjlaaGreatDoorW.PrintLast Go.Proofs.YtibaoacjjcgjlaaGreatDoor.Print Go.Proofs.YtibaoacjjcgjlaaGreatDoor.Base
set_option linter.unusedVariables false
set_option linter.unusedSimpArgs false
theorem natW_bA (l : List UInt8) : natW (bA l) = natB l := by
  have hall : (∀ j, j < (bA l).size → digAt (bA l) j = true) ↔ l.all isDig = true := by
    rw [List.all_eq_true]
    constructor
    · intro h c hc
      obtain ⟨j, hj, rfl⟩ := List.getElem_of_mem hc
      have := h j hj
      unfold digAt at this
      rw [bt_bA l j hj, inB_iff] at this
      unfold isDig
      rw [decide_eq_true (show 48 ≤ l[j].toNat by omega), decide_eq_true (show l[j].toNat ≤ 57 by omega)]; rfl
    · intro h j hj
      have hj2 : j < l.length := hj
      have := h l[j] (List.getElem_mem hj2)
      unfold isDig at this
      rw [Bool.and_eq_true, decide_eq_true_iff, decide_eq_true_iff] at this
      unfold digAt
      rw [bt_bA l j hj2, inB_iff]
      omega
  unfold natW natB
  by_cases h : l.all isDig = true
  · rw [if_pos (hall.2 h), h, Bool.and_true, bA_toList]
    cases l with
    | nil => rfl
    | cons c r =>
      have hb : bt (bA (c :: r)) 0 = ((c.toNat : Nat) : Int) := bt_bA (c :: r) 0 (by simp)
      have h48 : (48 : UInt8).toNat = 48 := rfl
      rw [hb]
      by_cases c48 : c = 48
      · subst c48
        cases r with
        | nil => rfl
        | cons d q => simp
      · have hne : (((c.toNat : Nat) : Int) != 48) = true := by
          rw [bne_iff_ne]; exact fun e => c48 (UInt8.toNat_inj.1 (by omega))
        have e1 : ((c :: r) == ([48] : List UInt8)) = false := by
          rw [beq_eq_false_iff_ne]; intro e
          injection e with e
          exact c48 e
        have e2 : ((c :: r).head? == some (48 : UInt8)) = false := by
          rw [beq_eq_false_iff_ne]; intro e
          exact c48 (Option.some.inj e)
        rw [hne, e1, e2, Bool.and_false]; rfl
  · rw [if_neg (fun x => h (hall.1 x)), show l.all isDig = false by simpa using h, Bool.and_false]
theorem numF_ge : ∀ (l : List UInt8) (a : Nat), a ≤ numF a l
  | [], a => Nat.le_refl _
  | c :: r, a => by
    have := numF_ge r (10 * a + (c.toNat - 48))
    have e : numF a (c :: r) = numF (10 * a + (c.toNat - 48)) r := rfl
    rw [e]; omega
theorem parse64 : ∀ (l : List UInt8) (a : Nat), DigL l → a ≤ 18446744073709551615 → Lib.parseUintM 18446744073709551615 a l = if numF a l ≤ 18446744073709551615 then .ok (numF a l) else .range
  | [], a, _, ha => by
    simp only [Lib.parseUintM]
    rw [if_pos (show numF a [] ≤ 18446744073709551615 from ha)]; rfl
  | c :: r, a, h, ha => by
    have hc := h c (List.mem_cons_self ..)
    have e : numF a (c :: r) = numF (10 * a + (c.toNat - 48)) r := rfl
    have hg := numF_ge r (10 * a + (c.toNat - 48))
    rw [e]
    simp only [Lib.parseUintM]
    rw [if_pos hc]
    by_cases h1 : 1844674407370955162 ≤ a
    · rw [if_pos h1, if_neg (by omega)]
    · rw [if_neg h1]
      by_cases h2 : 18446744073709551615 < a * 10 + (c.toNat - 48)
      · rw [if_pos h2, if_neg (by omega)]
      · rw [if_neg h2, show a * 10 + (c.toNat - 48) = 10 * a + (c.toNat - 48) by omega]
        exact parse64 r _ (fun x hx => h x (List.mem_cons_of_mem _ hx)) (by omega)
def readW (l : List UInt8) : Int × Int := if natB l = true then (if 2147483647 < numD l then (0, 14) else ((numD l : Int), 0)) else (0, 19)
theorem lexread_f (l : List UInt8) (hl : l.length ≤ 140737488351232) : lex_read.f (bA l) = some (readW l) := by
  unfold lex_read.f readW
  rw [if_pos (by rw [bA_size]; exact hl), natW_bA]
  by_cases h : natB l = true
  · rw [if_pos h, if_pos h, bA_list]
    obtain ⟨h0, hd, _⟩ := natB_iff.1 h
    have hp : Lib.parseUintB 64 l = if numD l ≤ 18446744073709551615 then .ok (numD l) else .range := by
      unfold Lib.parseUintB; rw [if_neg h0]
      exact parse64 l 0 hd (by omega)
    rw [hp]
    by_cases hn : numD l ≤ 18446744073709551615
    · rw [if_pos hn]; rfl
    · rw [if_neg hn, if_pos (by omega)]
  · rw [if_neg h, if_neg h]
def headC (c : UInt8) (l : List UInt8) : Bool := l.head? == some c
def tailC (c : UInt8) (l : List UInt8) : List UInt8 := if headC c l = true then l.drop 1 else l
theorem prefixC (c : UInt8) (l : List UInt8) : strings_CutPrefix.f (bA l) ⟨#[c]⟩ = some (bA (tailC c l), headC c l) := by
  unfold strings_CutPrefix.f Lib.trimPrefix tailC headC
  rw [bA_list, show (⟨#[c]⟩ : ByteArray).data.toList = [c] from rfl]
  cases l with
  | nil => rfl
  | cons d r =>
    by_cases h : d = c
    · subst h
      have e1 : Lib.hasPrefix (d :: r) [d] = true := by unfold Lib.hasPrefix; simp [List.isPrefixOf]
      have e2 : ((d :: r).head? == some d) = true := by simp
      rw [e1, e2]; rfl
    · have e1 : Lib.hasPrefix (d :: r) [c] = false := by unfold Lib.hasPrefix; simp [List.isPrefixOf, Ne.symm h]
      have e2 : ((d :: r).head? == some c) = false := by simp [h]
      rw [e1, e2]; rfl
theorem tailC_len (c : UInt8) (l : List UInt8) : (tailC c l).length ≤ l.length := by
  unfold tailC; split
  · simp
  · exact Nat.le_refl _
def intW (l : List UInt8) : Int × Int := if headC 45 l = true then (if tailC 45 l = [48] then (0, 19) else (-(readW (tailC 45 l)).1, (readW (tailC 45 l)).2)) else readW l
def refW (l : List UInt8) : Int × Int := if headC 37 l = true then readW (tailC 37 l) else (0, 19)
theorem readW_range (l : List UInt8) : 0 ≤ (readW l).1 ∧ (readW l).1 ≤ 2147483647 := by
  unfold readW
  split
  · split
    · exact ⟨by decide, by decide⟩
    · constructor <;> simp only [] <;> omega
  · exact ⟨by decide, by decide⟩
theorem lexint_ev (l : List UInt8) (hl : l.length ≤ 140737488351232) : Ev (fun k => lex_Int.f k (bA l)) (intW l) := by
  have ht := tailC_len 45 l
  have hr := readW_range (tailC 45 l)
  have j : ∀ (b x : Bool), (b = false → x = false) → Ev (fun k => lex_Int.j0 k (bA (tailC 45 l)) b x) (if x = true then (0, 19) else if b = true then (-(readW (tailC 45 l)).1, (readW (tailC 45 l)).2) else readW (tailC 45 l)) := by
    intro b x hx
    refine Ev.step (f := fun _ => some (if x = true then (0, 19) else if b = true then (-(readW (tailC 45 l)).1, (readW (tailC 45 l)).2) else readW (tailC 45 l))) (fun k => ?_) (Ev.now _)
    simp only [lex_Int.j0]
    rw [lexread_f _ (by omega)]
    cases x with
    | true => rfl
    | false =>
      cases b with
      | true =>
        show some (wrap64 (-(readW (tailC 45 l)).1), (readW (tailC 45 l)).2) = some (-(readW (tailC 45 l)).1, (readW (tailC 45 l)).2)
        rw [w64 (by omega) (by omega)]
      | false => rfl
  unfold intW
  by_cases h : headC 45 l = true
  · refine Ev.congr (fun k => ?_) (by
      have := j (headC 45 l) ((bA (tailC 45 l)).toList == ([48] : List UInt8)) (fun e => by rw [h] at e; cases e)
      rw [bA_toList, h, if_pos rfl] at this
      rw [if_pos h]
      by_cases c : tailC 45 l = [48]
      · rw [if_pos c]; rw [if_pos (by simpa using c)] at this; exact this
      · rw [if_neg c]; rw [if_neg (by simpa using c)] at this; exact this)
    unfold lex_Int.f
    rw [prefixC, Option.bind_some]
    simp only [h, if_true, bA_toList]
  · have h2 : headC 45 l = false := by simpa using h
    have e : tailC 45 l = l := by unfold tailC; rw [if_neg h]
    refine Ev.congr (fun k => ?_) (by
      have := j (headC 45 l) false (fun _ => rfl)
      rw [h2, e] at this
      rw [if_neg h]
      exact this)
    unfold lex_Int.f
    rw [prefixC, Option.bind_some]
    simp only [h2, e]; rfl
theorem lexref_f (l : List UInt8) (hl : l.length ≤ 140737488351232) : lex_Ref.f (bA l) = some (refW l) := by
  have ht := tailC_len 37 l
  unfold lex_Ref.f refW
  rw [prefixC, Option.bind_some]
  by_cases h : headC 37 l = true
  · simp only [h, if_true]
    rw [lexread_f _ (by omega)]; rfl
  · have h2 : headC 37 l = false := by simpa using h
    simp only [h2]; rfl
theorem nat_zero {l : List UInt8} (h : natB l = true) : numD l = 0 ↔ l = [48] := by
  constructor
  · intro e
    rw [← dec_numL (natB_iff.1 h), e, dec_small (by decide)]; rfl
  · intro e; rw [e]; rfl
end Go.Proofs.YtibaoacjjcgjlaaGreatDoor.Ref

namespace Go.Proofs.YtibaoacjjcgjlaaGreatDoor.Print
open Go.RowKit Go.Proofs.YtibaoacjjcgjlaaGreatDoorW.PrintWords Go.Proofs.YtibaoacjjcgjlaaGreatDoorW.PrintLast Go.Proofs.YtibaoacjjcgjlaaGreatDoorW.PrintMore
attribute [local go_sem] max2_int min2_int max_two min_two max_three min_three max_four min_four   -- for this text's walks alone
set_option linter.unusedVariables false
set_option linter.unusedSimpArgs false
def r2t.l0 : Nat → List Int → Int → Option (List Int)
 | 0, _, _ => none
 | k + 1, x0, x3 => if x3 > 0 then (if 0 ≤ (wrap64 (x3 - 1)) then (if (wrap64 (x3 - 1)) < (x0.length : Int) then (if (rd x0 (wrap64 (x3 - 1))) = 0 then (r2t.l0 k x0 (wrap64 (x3 - 1))) else (if 0 ≤ x3 then (if x3 ≤ (x0.length : Int) then (some (x0.take (x3 : Int).toNat)) else (none)) else (none))) else (none)) else (none)) else (if 0 ≤ x3 then (if x3 ≤ (x0.length : Int) then (some (x0.take (x3 : Int).toNat)) else (none)) else (none))
def r2t.f (k : Nat) (l0 : List Int) : Option (List Int) := r2t.l0 k l0 (l0.length : Int)
def r2d.l0 : Nat → List Int → List Int → Int → Int → Option (Int)
 | 0, _, _, _, _ => none
 | k + 1, x0, x1, x5, x6 => if (wrap64 (x6 - x5)) > 1 then ((r1Times.f k x1 (wrap64 (Int.tdiv (wrap64 (x5 + x6)) 2))).bind fun t170 => ((r1Cmp.f k t170 x0).bind fun t173 => (if t173 ≤ 0 then (r2d.l0 k x0 x1 (wrap64 (Int.tdiv (wrap64 (x5 + x6)) 2)) x6) else (r2d.l0 k x0 x1 x5 (wrap64 (Int.tdiv (wrap64 (x5 + x6)) 2)))))) else (some x5)
def r2d.f (k : Nat) (l0 : List Int) (l1 : List Int) : Option (Int) := r2d.l0 k l0 l1 0 10000
def r1Sub.l0 : Nat → List Int → List Int → List Int → Int → Int → Option (List Int × Bool)
 | 0, _, _, _, _, _ => none
 | k + 1, x0, x1, x6, x7, x8 => if x8 < (x0.length : Int) then (if 0 ≤ x8 then ((r1d.f x1 x8).bind fun t176 => (if (wrap64 ((wrap64 ((rd x0 x8) - t176)) - x7)) < 0 then (if x6.length < 17592186044416 then (r1Sub.l0 k x0 x1 (x6 ++ [wrap64 ((wrap64 ((wrap64 ((rd x0 x8) - t176)) - x7)) + 10000)]) 1 (wrap64 (x8 + 1))) else (none)) else (if x6.length < 17592186044416 then (r1Sub.l0 k x0 x1 (x6 ++ [wrap64 ((wrap64 ((rd x0 x8) - t176)) - x7)]) 0 (wrap64 (x8 + 1))) else (none)))) else (none)) else ((r1t.f k x6).bind fun t183 => (some (t183, true)))
def r1Sub.f (k : Nat) (l0 : List Int) (l1 : List Int) : Option (List Int × Bool) := (r1Cmp.f k l0 l1).bind fun t174 => (if t174 < 0 then (some (([] : List Int), false)) else (r1Sub.l0 k l0 l1 ([] : List Int) 0 0))
end Go.Proofs.YtibaoacjjcgjlaaGreatDoor.Print

namespace Go.Proofs.YtibaoacjjcgjlaaGreatDoor.Print
open Go.RowKit Go.Proofs.YtibaoacjjcgjlaaGreatDoorW.PrintWords Go.Proofs.YtibaoacjjcgjlaaGreatDoorW.PrintLast Go.Proofs.YtibaoacjjcgjlaaGreatDoorW.PrintMore
attribute [local go_sem] max2_int min2_int max_two min_two max_three min_three max_four min_four   -- for this text's walks alone
set_option linter.unusedVariables false
set_option linter.unusedSimpArgs false
def r2DM.l0 : Nat → List Int → List Int → List Int → List Int → Int → Option (List Int × List Int)
 | 0, _, _, _, _, _ => none
 | k + 1, x0, x1, x6, x7, x8 => if x8 ≥ 0 then (if 0 ≤ x8 then (if x8 < (x0.length : Int) then ((some (([rd x0 x8] : List Int) : List Int)).bind fun y193 => (if y193.length + x7.length < 17592186044416 then ((r2t.f k (y193 ++ x7)).bind fun t199 => ((r2d.f k t199 x1).bind fun t202 => (if x8 < (x6.length : Int) then ((r1Times.f k x1 t202).bind fun t204 => ((r1Sub.f k t199 t204).bind fun bt207 => (r2DM.l0 k x0 x1 (x6.set (x8 : Int).toNat t202) bt207.1 (wrap64 (x8 - 1))))) else (none)))) else (none))) else (none)) else (none)) else ((r2t.f k x6).bind fun t189 => (some (t189, x7)))
def r2DM.f (k : Nat) (l0 : List Int) (l1 : List Int) : Option (List Int × List Int) := if 0 ≤ (l0.length : Int) then (if ((l0.length : Int) : Int).toNat ≤ 35184372088832 then (r2DM.l0 k l0 l1 (List.replicate ((l0.length : Int) : Int).toNat 0) ([] : List Int) (wrap64 ((l0.length : Int) - 1))) else (none)) else (none)
def fluxionref02_Gcd.l0 : Nat → List Int → List Int → Option (List Int)
 | 0, _, _ => none
 | k + 1, x0, x1 => if (x1.length : Int) > 0 then ((r2DM.f k x0 x1).bind fun bt211 => (fluxionref02_Gcd.l0 k x1 bt211.2)) else (some x0)
def fluxionref02_Gcd.f (k : Nat) (l0 : List Int) (l1 : List Int) : Option (List Int) := fluxionref02_Gcd.l0 k l0 l1
def r3M.j0 : Nat → Bool → List Int → List Int → Bool → Option (Bool × List Int × List Int)
 | 0, _, _, _, _ => none
 | k + 1, x0, x1, x2, x19 => if x19 = true then (some (false, ([] : List Int), (([1] : List Int)))) else ((fluxionref02_Gcd.f k x1 x2).bind fun t221 => ((r2DM.f k x1 t221).bind fun bt224 => ((r2DM.f k x2 t221).bind fun bt230 => (some (x0, bt224.1, bt230.1)))))
def r3M.f (k : Nat) (a0 : Bool) (l1 : List Int) (l2 : List Int) : Option (Bool × List Int × List Int) := if (l1.length : Int) = 0 then (r3M.j0 k a0 l1 l2 true) else (r3M.j0 k a0 l1 l2 ((l2.length : Int) == 0))
end Go.Proofs.YtibaoacjjcgjlaaGreatDoor.Print

namespace Go.Proofs.YtibaoacjjcgjlaaGreatDoor.Ref
open Go.RowKit Go.Proofs.YtibaoacjjcgjlaaGreatDoorW.PrintWords Go.Proofs.YtibaoacjjcgjlaaGreatDoorW.PrintLast Go.Proofs.YtibaoacjjcgjlaaGreatDoor.Print Go.Proofs.YtibaoacjjcgjlaaGreatDoor.Base
set_option linter.unusedVariables false
set_option linter.unusedSimpArgs false
def ratN (n : Bool) (x y : Nat) : Bool × Nat × Nat := if x = 0 ∨ y = 0 then (false, 0, 1) else (n, x / Nat.gcd x y, y / Nat.gcd x y)
def ratL (B : Nat) (r : Bool × Nat × Nat) : Bool × List Int × List Int := (r.1, digB B r.2.1, digB B r.2.2)
end Go.Proofs.YtibaoacjjcgjlaaGreatDoor.Ref

namespace Go.Proofs.YtibaoacjjcgjlaaGreatDoor.Print
open Go.RowKit Go.Proofs.YtibaoacjjcgjlaaGreatDoorW.PrintWords Go.Proofs.YtibaoacjjcgjlaaGreatDoorW.PrintLast Go.Proofs.YtibaoacjjcgjlaaGreatDoorW.PrintMore
attribute [local go_sem] max2_int min2_int max_two min_two max_three min_three max_four min_four   -- for this text's walks alone
set_option linter.unusedVariables false
set_option linter.unusedSimpArgs false
def fluxionref04_cut.l0 : Nat → ByteArray → Int → Option (ByteArray × ByteArray × Bool)
 | 0, _, _ => none
 | k + 1, x0, x5 => if x5 < (x0.size : Int) then (if 0 ≤ x5 then (if (bt x0 x5) = 47 then (if x5 ≤ (x0.size : Int) then (if 0 ≤ (wrap64 (x5 + 1)) then (if (wrap64 (x5 + 1)) ≤ (x0.size : Int) then (some (x0.extract 0 (x5 : Int).toNat, x0.extract ((wrap64 (x5 + 1)) : Int).toNat x0.size, true)) else (none)) else (none)) else (none)) else (fluxionref04_cut.l0 k x0 (wrap64 (x5 + 1)))) else (none)) else (some (x0, (⟨#[]⟩ : ByteArray), false))
def fluxionref04_cut.f (k : Nat) (a0 : ByteArray) : Option (ByteArray × ByteArray × Bool) := fluxionref04_cut.l0 k a0 0
end Go.Proofs.YtibaoacjjcgjlaaGreatDoor.Print

namespace Go.Proofs.YtibaoacjjcgjlaaGreatDoor.Print
open Go.RowKit Go.Proofs.YtibaoacjjcgjlaaGreatDoorW.PrintWords Go.Proofs.YtibaoacjjcgjlaaGreatDoorW.PrintLast Go.Proofs.YtibaoacjjcgjlaaGreatDoorW.PrintMore
attribute [local go_sem] max2_int min2_int max_two min_two max_three min_three max_four min_four   -- for this text's walks alone
set_option linter.unusedVariables false
set_option linter.unusedSimpArgs false
mutual
def r4PR.j0 : Nat → ByteArray → Bool → Option (Bool × List Int × List Int × Int)
 | 0, _, _ => none
 | k + 1, x0, x4 => if x4 = true then (if 1 ≤ (x0.size : Int) then (r4PR.j1 k x0 x4 (x0.extract 1 x0.size)) else (none)) else (r4PR.j1 k x0 x4 x0)
def r4PR.j1 : Nat → ByteArray → Bool → ByteArray → Option (Bool × List Int × List Int × Int)
 | 0, _, _, _ => none
 | k + 1, x0, x4, x5 => (fluxionref04_cut.f k x5).bind fun bt260 => (if bt260.2.2 = true then (r4PR.j2 k x0 x4 bt260.1 bt260.2.1) else (r4PR.j2 k x0 x4 bt260.1 (⟨#[49]⟩ : ByteArray)))
def r4PR.j2 : Nat → ByteArray → Bool → ByteArray → ByteArray → Option (Bool × List Int × List Int × Int)
 | 0, _, _, _, _ => none
 | k + 1, x0, x4, x6, x7 => (r4nat.f k x6).bind fun t263 => (if t263 = true then ((r4nat.f k x7).bind fun t264 => (r4PR.j3 k x0 x4 x6 x7 (!t264))) else (r4PR.j3 k x0 x4 x6 x7 true))
def r4PR.j3 : Nat → ByteArray → Bool → ByteArray → ByteArray → Bool → Option (Bool × List Int × List Int × Int)
 | 0, _, _, _, _, _ => none
 | k + 1, x0, x4, x6, x7, x41 => if x41 = true then (some (false, ([] : List Int), ([] : List Int), 19)) else ((r4PN.f k x6).bind fun bt265 => ((r4PN.f k x7).bind fun bt269 => (if bt265.2 = 0 then (r4PR.j4 k x0 x4 bt265.1 bt269.1 (bt269.2 != 0)) else (r4PR.j4 k x0 x4 bt265.1 bt269.1 true))))
def r4PR.j4 : Nat → ByteArray → Bool → List Int → List Int → Bool → Option (Bool × List Int × List Int × Int)
 | 0, _, _, _, _, _ => none
 | k + 1, x0, x4, x9, x11, x58 => if x58 = true then (some (false, ([] : List Int), ([] : List Int), 14)) else ((r3M.f k x4 x9 x11).bind fun bt273 => ((r4R.f k bt273.1 bt273.2.1 bt273.2.2).bind fun t281 => (if t281.toList = x0.toList then (some (bt273.1, bt273.2.1, bt273.2.2, 0)) else (some (false, ([] : List Int), ([] : List Int), 6)))))
end
end Go.Proofs.YtibaoacjjcgjlaaGreatDoor.Print

namespace Go.Proofs.YtibaoacjjcgjlaaGreatDoor.Ref
open Go.RowKit Go.Proofs.YtibaoacjjcgjlaaGreatDoorW.PrintWords Go.Proofs.YtibaoacjjcgjlaaGreatDoorW.PrintLast Go.Proofs.YtibaoacjjcgjlaaGreatDoor.Print Go.Proofs.YtibaoacjjcgjlaaGreatDoor.Base
set_option linter.unusedVariables false
set_option linter.unusedSimpArgs false
def sgn (n : Bool) : List UInt8 := if n = true then [45] else []
def tailR (q : Nat) : List UInt8 := if q = 1 then [] else 47 :: Lib.decDigits q
def txt (r : Bool × Nat × Nat) : List UInt8 := sgn r.1 ++ (Lib.decDigits r.2.1 ++ tailR r.2.2)
theorem dec_one (q : Nat) : Lib.decDigits q = [49] ↔ q = 1 :=
  ⟨fun h => dec_inj (h.trans (show [49] = Lib.decDigits 1 by rw [dec_small (by decide)]; rfl)), fun h => by rw [h, dec_small (by decide)]; rfl⟩
theorem ratN_lt {n : Bool} {x y m : Nat} (hx : x < 4294967296 ^ m) (hy : y < 4294967296 ^ m) (hm : 1 ≤ m) : (ratN n x y).2.1 < 4294967296 ^ m ∧ (ratN n x y).2.2 < 4294967296 ^ m := by
  have h1 : (1 : Nat) < 4294967296 ^ m := Nat.lt_of_lt_of_le (show 1 < 4294967296 ^ 1 by decide) (Nat.pow_le_pow_right (by decide) hm)
  unfold ratN
  split
  · exact ⟨Nat.lt_trans Nat.zero_lt_one h1, h1⟩
  · exact ⟨Nat.lt_of_le_of_lt (Nat.div_le_self _ _) hx, Nat.lt_of_le_of_lt (Nat.div_le_self _ _) hy⟩
theorem ratN_idem (n : Bool) (x y : Nat) : ratN (ratN n x y).1 (ratN n x y).2.1 (ratN n x y).2.2 = ratN n x y := by
  unfold ratN
  by_cases h : x = 0 ∨ y = 0
  · rw [if_pos h]; rfl
  · rw [if_neg h]
    have hg : 0 < Nat.gcd x y := Nat.gcd_pos_of_pos_left _ (by omega)
    have h1 : 0 < x / Nat.gcd x y := Nat.div_pos (Nat.gcd_le_left _ (by omega)) hg
    have h2 : 0 < y / Nat.gcd x y := Nat.div_pos (Nat.gcd_le_right _ (by omega)) hg
    have h3 : Nat.gcd (x / Nat.gcd x y) (y / Nat.gcd x y) = 1 := Nat.gcd_div_gcd_div_gcd_of_pos_left (by omega)
    simp only []
    rw [if_neg (by omega), h3, Nat.div_one, Nat.div_one]
theorem of1_f : nat_Of.f 1 = some (digB 4294967296 1) := by decide +kernel
theorem norm_f {n : Bool} {a b : List Int} (ha : okN a = true) (hb : okN b = true) (la : a.length ≤ 1048000) (lb : b.length ≤ 1048000) : rat_Norm.f n a b = some (ratL 4294967296 (ratN n (valB 4294967296 a) (valB 4294967296 b))) := by
  have h1 : digB 4294967296 1 = [1] := digB_small (by decide) (by decide) (by decide)
  have h0 : digB 4294967296 0 = [] := digB_zero _ (by decide)
  unfold rat_Norm.f rat_Make.f ratN ratL
  rw [if_pos ⟨ha, hb, la, lb⟩]
  by_cases y0 : valB 4294967296 b = 0
  · rw [if_pos y0, if_pos (Or.inr y0), Option.bind_some, if_neg (by decide)]
    unfold rat_one.f
    rw [of1_f, h0, h1]; rfl
  · rw [if_neg y0]
    by_cases x0 : valB 4294967296 a = 0
    · rw [if_pos x0, if_pos (Or.inl x0), h0, h1]; rfl
    · rw [if_neg x0, if_neg (by omega)]; rfl
theorem ratP_ev {n : Bool} {a b : List Int} {m : Nat} (ha : okN a = true) (hb : okN b = true) (la : a.length ≤ m) (lb : b.length ≤ m) (hm : 1 ≤ m) (hm2 : m ≤ 1000000) : Ev (fun k => digits_Rat.f k n a b) (bA (txt (ratN n (valB 4294967296 a) (valB 4294967296 b)))) := by
  have hx := Nat.lt_of_lt_of_le (valB_lt 4294967296 a (okN_iff.1 ha).2) (Nat.pow_le_pow_right (by decide) la)
  have hy := Nat.lt_of_lt_of_le (valB_lt 4294967296 b (okN_iff.1 hb).2) (Nat.pow_le_pow_right (by decide) lb)
  obtain ⟨hp, hq⟩ := ratN_lt (n := n) hx hy hm
  have hn := norm_f (n := n) ha hb (by omega) (by omega)
  generalize ratN n (valB 4294967296 a) (valB 4294967296 b) = r at hp hq hn ⊢
  obtain ⟨s, p, q⟩ := r
  have l1 := dec_len hp
  have l2 := dec_len hq
  have fp := nat_f (okD hp (by omega))
  have fq := nat_f (okD hq (by omega))
  rw [valD] at fp fq
  have cq := cmp_f (okD hq (by omega)) (okD (v := 1) (m := 1) (by decide) (by decide))
  rw [valD, valD] at cq
  simp only [] at l1 l2 fp fq cq
  have tl : ∀ t : List UInt8, t.length ≤ 20000000 → Ev (fun k => digits_Rat.j0 k (bA t) s (digB 4294967296 p) (digB 4294967296 q)) (bA (t ++ tailR q)) := by
    intro t ht
    refine Ev.step (f := fun _ => some (bA (t ++ tailR q))) (fun k => ?_) (Ev.now _)
    simp only [digits_Rat.j0]
    rw [of1_f, Option.bind_some, cq, Option.bind_some]
    unfold cmpN tailR
    by_cases h1 : q = 1
    · subst h1
      rw [if_pos (by simp), if_pos rfl, List.append_nil]
    · rw [if_neg (by split; · omega
                     · rw [if_pos (by omega)]; omega), fq, Option.bind_some, if_neg h1, bA_dec]
      rw [show (⟨#[47]⟩ : ByteArray) = bA [47] from rfl, bA_append, bA_append, bA_size, bA_size, bA_size]
      rw [if_pos (by omega), if_pos (by simp; omega)]; rfl
  have e0 : ∀ k, digits_Rat.f k n a b = (if s = true then digits_Rat.j0 k (bA (sgn true ++ Lib.decDigits p)) s (digB 4294967296 p) (digB 4294967296 q) else digits_Rat.j0 k (bA (Lib.decDigits p)) s (digB 4294967296 p) (digB 4294967296 q)) := by
    intro k
    unfold digits_Rat.f
    rw [hn, Option.bind_some]
    show (digits_Nat.f (digB 4294967296 p)).bind _ = _
    rw [fp, Option.bind_some, bA_dec]
    show (if s = true then _ else _) = _
    by_cases hs : s = true
    · rw [if_pos hs, if_pos hs, bA_size, if_pos (by omega), show (⟨#[45]⟩ : ByteArray) = bA [45] from rfl, bA_append]; rfl
    · rw [if_neg hs, if_neg hs]; rfl
  refine Ev.congr e0 ?_
  cases s with
  | true =>
    have := tl (sgn true ++ Lib.decDigits p) (by simp [sgn]; omega)
    rw [List.append_assoc] at this
    exact this
  | false => exact tl (Lib.decDigits p) (by omega)
def splitS : List UInt8 → List UInt8 × List UInt8 × Bool
  | [] => ([], [], false)
  | c :: r => if c = 47 then ([], r, true) else (c :: (splitS r).1, (splitS r).2.1, (splitS r).2.2)
theorem splitS_join : ∀ l : List UInt8, l = (splitS l).1 ++ (if (splitS l).2.2 = true then 47 :: (splitS l).2.1 else [])
  | [] => rfl
  | c :: r => by
    have ih := splitS_join r
    unfold splitS
    by_cases h : c = 47
    · rw [if_pos h, h]; rfl
    · rw [if_neg h]
      show c :: r = c :: ((splitS r).1 ++ _)
      rw [← ih]
theorem splitS_two : ∀ (a b : List UInt8), (∀ c ∈ a, c ≠ 47) → splitS (a ++ 47 :: b) = (a, b, true)
  | [], b, _ => by unfold splitS; rw [List.nil_append]; simp
  | c :: r, b, h => by
    have ih := splitS_two r b (fun x hx => h x (List.mem_cons_of_mem _ hx))
    rw [List.cons_append]
    unfold splitS
    rw [if_neg (h c (List.mem_cons_self ..)), ih]
theorem splitS_one : ∀ (a : List UInt8), (∀ c ∈ a, c ≠ 47) → splitS a = (a, [], false)
  | [], _ => rfl
  | c :: r, h => by
    have ih := splitS_one r (fun x hx => h x (List.mem_cons_of_mem _ hx))
    unfold splitS
    rw [if_neg (h c (List.mem_cons_self ..)), ih]
def negS (l : List UInt8) : Bool := l.head? == some 45
def restS (l : List UInt8) : List UInt8 := if negS l = true then l.drop 1 else l
theorem strip_join (l : List UInt8) : l = sgn (negS l) ++ restS l := by
  unfold restS sgn
  by_cases h : negS l = true
  · rw [if_pos h, if_pos h]
    unfold negS at h
    cases l with
    | nil => simp at h
    | cons c r =>
      have : c = 45 := by simpa using h
      rw [this]; rfl
  · rw [if_neg h, if_neg h]; rfl
theorem strip_of (n : Bool) (t : List UInt8) (h : t.head? ≠ some 45) : negS (sgn n ++ t) = n ∧ restS (sgn n ++ t) = t := by
  unfold restS negS sgn
  cases n with
  | true => exact ⟨rfl, rfl⟩
  | false =>
    have e : (t.head? == some 45) = false := by rw [beq_eq_false_iff_ne]; exact h
    rw [if_neg (by decide), List.nil_append, e]
    exact ⟨rfl, rfl⟩
theorem dec_not {v : Nat} : (∀ c ∈ Lib.decDigits v, c ≠ 47) ∧ (∀ t, (Lib.decDigits v ++ t).head? ≠ some 45) := by
  have hd := dec_dig v
  have h47 : (47 : UInt8).toNat = 47 := rfl
  have h45 : (45 : UInt8).toNat = 45 := rfl
  refine ⟨fun c hc e => ?_, fun t => ?_⟩
  · have := hd c hc
    rw [e] at this; omega
  · cases hv : Lib.decDigits v with
    | nil => exact absurd hv (dec_ne v)
    | cons c r =>
      intro e
      have e2 : c = 45 := by simpa using e
      have := hd c (by rw [hv]; exact List.mem_cons_self ..)
      rw [e2] at this; omega
theorem txt_parts (n : Bool) (p q : Nat) : negS (txt (n, p, q)) = n ∧ splitS (restS (txt (n, p, q))) = (Lib.decDigits p, if q = 1 then [] else Lib.decDigits q, decide (q ≠ 1)) := by
  obtain ⟨h1, h2⟩ := strip_of n (Lib.decDigits p ++ tailR q) (dec_not.2 _)
  refine ⟨h1, ?_⟩
  show splitS (restS (sgn n ++ (Lib.decDigits p ++ tailR q))) = _
  rw [h2]
  unfold tailR
  by_cases h : q = 1
  · rw [if_pos h, if_pos h, List.append_nil, splitS_one _ dec_not.1, decide_eq_false (by simpa using h)]
  · rw [if_neg h, if_neg h, splitS_two _ _ dec_not.1, decide_eq_true h]
def resR (l : List UInt8) : Int × (Bool × Nat × Nat) :=
  let a := (splitS (restS l)).1
  let b := if (splitS (restS l)).2.2 = true then (splitS (restS l)).2.1 else [49]
  if natB a = true ∧ natB b = true then
    (if (progNat a).2 = 0 ∧ (progNat b).2 = 0 then (if txt (ratN (negS l) (numD a) (numD b)) = l then (0, ratN (negS l) (numD a) (numD b)) else (6, (false, 0, 1))) else (14, (false, 0, 1)))
  else (19, (false, 0, 1))
theorem may_txt {l a b : List UInt8} {two : Bool} (hs : splitS (restS l) = (a, b, two)) (ha : natB a = true) (hb : natB (if two = true then b else [49]) = true) :
    txt (ratN (negS l) (numD a) (numD (if two = true then b else [49]))) = l ↔ (ratN (negS l) (numD a) (numD (if two = true then b else [49])) = (negS l, numD a, numD (if two = true then b else [49])) ∧ ¬ (two = true ∧ b = [49])) := by
  have n1 : numD [49] = 1 := rfl
  constructor
  · intro h
    generalize hr : ratN (negS l) (numD a) (numD (if two = true then b else [49])) = r at h ⊢
    obtain ⟨n, p, q⟩ := r
    obtain ⟨t1, t2⟩ := txt_parts n p q
    rw [h] at t1 t2
    rw [hs] at t2
    simp only [Prod.mk.injEq] at t2
    obtain ⟨c1, c2, c3⟩ := t2
    rw [t1, c1, num_dec]
    by_cases hq : q = 1
    · rw [decide_eq_false (by simpa using hq)] at c3
      rw [c3, if_neg (by decide), n1, hq]
      exact ⟨rfl, fun e => by cases e.1⟩
    · rw [decide_eq_true hq] at c3
      rw [if_neg hq] at c2
      rw [c3, if_pos rfl, c2, num_dec]
      exact ⟨rfl, fun e => hq ((dec_one q).1 e.2)⟩
  · rintro ⟨h1, h2⟩
    rw [h1]
    have e1 := splitS_join (restS l)
    rw [hs] at e1
    have e2 := strip_join l
    conv => rhs; rw [e2, e1]
    show sgn (negS l) ++ (Lib.decDigits (numD a) ++ tailR _) = _
    rw [dec_numL (natB_iff.1 ha)]
    congr 2
    unfold tailR
    cases two with
    | true =>
      rw [if_pos rfl] at hb ⊢
      rw [if_pos rfl]
      have hne : numD b ≠ 1 := fun e => h2 ⟨rfl, by rw [← dec_numL (natB_iff.1 hb), e, dec_small (by decide)]; rfl⟩
      rw [if_neg hne, dec_numL (natB_iff.1 hb)]
    | false =>
      show (if numD [49] = 1 then [] else 47 :: Lib.decDigits (numD [49])) = []
      rw [if_pos n1]
theorem prog_ok {l : List UInt8} (h : natB l = true) : (progNat l).2 = 0 ∧ l.length ≤ 309 ∧ numD l < 4294967296 ^ 32 ∧ progNat l = (digB 4294967296 (numD l), 0) ∧ refNat l = (digB 10000 (numD l), 0) ∨ (progNat l).2 = 14 ∧ (refNat l).2 = 14 ∧ progNat l = ([], 14) := by
  rcases read_same l with ⟨e1, e2⟩ | ⟨e1, e2⟩ | ⟨hn, hl, hlt, e1, e2⟩
  · exfalso
    unfold progNat at e1
    rw [if_pos h] at e1
    split at e1
    · exact absurd (show (14 : Int) = 19 from congrArg Prod.snd e1) (by decide)
    · split at e1
      · exact absurd (show (0 : Int) = 19 from congrArg Prod.snd e1) (by decide)
      · exact absurd (show (14 : Int) = 19 from congrArg Prod.snd e1) (by decide)
  · exact Or.inr ⟨by rw [e1], by rw [e2], e1⟩
  · exact Or.inl ⟨by rw [e1], hl, hlt, e1, e2⟩
theorem prog_one : natB [49] = true ∧ progNat [49] = (digB 4294967296 1, 0) ∧ refNat [49] = (digB 10000 1, 0) := by
  have hn : natB [49] = true := rfl
  refine ⟨hn, ?_⟩
  have e : numD [49] = 1 := rfl
  unfold progNat refNat
  rw [if_pos hn, if_pos hn, e]
  have h1 : (1 : Nat) < 4294967296 ^ 32 := Nat.lt_of_lt_of_le (show 1 < 4294967296 ^ 1 by decide) (Nat.pow_le_pow_right (by decide) (by decide))
  rw [if_pos h1, if_pos h1]
  exact ⟨rfl, rfl⟩
end Go.Proofs.YtibaoacjjcgjlaaGreatDoor.Ref

namespace Go.Proofs.YtibaoacjjcgjlaaGreatDoor.Ref
open Go.RowKit Go.Proofs.YtibaoacjjcgjlaaGreatDoorW.PrintWords Go.Proofs.YtibaoacjjcgjlaaGreatDoorW.PrintLast Go.Proofs.YtibaoacjjcgjlaaGreatDoor.Print Go.Proofs.YtibaoacjjcgjlaaGreatDoor.Base
set_option linter.unusedVariables false
set_option linter.unusedSimpArgs false
def outR (B : Nat) (r : Int × Bool × Nat × Nat) : Bool × List Int × List Int × Int := if r.1 = 0 then (r.2.1, digB B r.2.2.1, digB B r.2.2.2, 0) else (false, [], [], r.1)
theorem split_index : ∀ r : List UInt8, splitS r = if 0 ≤ Lib.indexByte r 47 then (r.take (Lib.indexByte r 47).toNat, r.drop ((Lib.indexByte r 47).toNat + 1), true) else (r, [], false)
  | [] => rfl
  | c :: r => by
    have ih := split_index r
    have hge := Lib.indexByte_ge r 47
    have hi : Lib.indexByte (c :: r) 47 = if (c == 47) = true then 0 else if (Lib.indexByte r 47 == -1) = true then -1 else Lib.indexByte r 47 + 1 := rfl
    by_cases h : c = 47
    · have hv : Lib.indexByte (c :: r) 47 = 0 := by rw [hi, if_pos (by simpa using h)]
      rw [hv, if_pos (by decide)]
      unfold splitS
      rw [if_pos h]; rfl
    · have hs : splitS (c :: r) = (c :: (splitS r).1, (splitS r).2.1, (splitS r).2.2) := by
        conv => lhs; unfold splitS
        rw [if_neg h]
      by_cases h1 : Lib.indexByte r 47 = -1
      · have hv : Lib.indexByte (c :: r) 47 = -1 := by rw [hi, if_neg (by simpa using h), if_pos (by simpa using h1)]
        rw [hv, if_neg (by decide), hs, ih, if_neg (by omega)]
      · have hv : Lib.indexByte (c :: r) 47 = Lib.indexByte r 47 + 1 := by rw [hi, if_neg (by simpa using h), if_neg (by simpa using h1)]
        rw [hv, if_pos (by omega), hs, ih, if_pos (by omega)]
        obtain ⟨i, hi⟩ : ∃ i : Nat, Lib.indexByte r 47 = (i : Int) := ⟨(Lib.indexByte r 47).toNat, by omega⟩
        rw [hi, show ((i : Int) + 1).toNat = i + 1 by omega, Int.toNat_natCast]; rfl
theorem extract_bA (l : List UInt8) (i j : Nat) : (bA l).extract i j = bA ((l.drop i).take (j - i)) := by
  refine Go.WideShapes.bytes_inj ?_
  rw [extract_list, bA_list, bA_list]
theorem cutSL_bA (r : List UInt8) : cutSL (bA r) = (bA (splitS r).1, bA (splitS r).2.1, (splitS r).2.2) := by
  have hlt := indexByte_lt r 47
  have e : slAt (bA r) = Lib.indexByte r 47 := by unfold slAt; rw [bA_list]
  unfold cutSL
  rw [e, split_index r]
  by_cases h : 0 ≤ Lib.indexByte r 47
  · rw [if_pos h, if_pos h, extract_bA, extract_bA, bA_size]
    rw [List.drop_zero, Nat.sub_zero, List.take_of_length_le (l := r.drop _) (by rw [List.length_drop]; exact Nat.le_refl _)]
  · rw [if_neg h, if_neg h]; rfl
theorem prefix_bA (l : List UInt8) : strings_CutPrefix.f (bA l) ⟨#[45]⟩ = some (bA (restS l), negS l) := by
  unfold strings_CutPrefix.f Lib.trimPrefix restS negS
  rw [bA_list, show (⟨#[45]⟩ : ByteArray).data.toList = [45] from rfl]
  cases l with
  | nil => rfl
  | cons c r =>
    by_cases h : c = 45
    · subst h; rfl
    · have e1 : Lib.hasPrefix (c :: r) [45] = false := by unfold Lib.hasPrefix; simp [List.isPrefixOf, Ne.symm h]
      have e2 : ((c :: r).head? == some 45) = false := by simp [h]
      rw [e1, e2]; rfl
theorem restS_len (l : List UInt8) : (restS l).length ≤ l.length := by
  unfold restS; split
  · simp
  · exact Nat.le_refl _
theorem limbs_f {p x : Nat} (hp : p < 4294967296 ^ 32) (hx : x < 4294967296 ^ 32) : rat_limbs.f (digB 4294967296 p) (digB 4294967296 x) = some (decide (p = x)) := by
  have c := cmp_f (okD hp (by decide)) (okD hx (by decide))
  rw [valD, valD] at c
  unfold rat_limbs.f
  by_cases h : p = x
  · subst h
    rw [if_pos rfl, c, decide_eq_true rfl]; unfold cmpN; simp
  · rw [decide_eq_false h]
    split
    · rw [c, Option.bind_some]
      unfold cmpN
      by_cases h1 : p < x
      · rw [if_pos h1]; rfl
      · rw [if_neg h1, if_pos (by omega)]; rfl
    · rfl
theorem may_f {n : Bool} {x y : Nat} (hx : x < 4294967296 ^ 32) (hy : y < 4294967296 ^ 32) : rat_May.f n (digB 4294967296 x) (digB 4294967296 y) = some (if ratN n x y = (n, x, y) then 0 else 6) := by
  have ox := okD hx (by decide)
  have oy := okD hy (by decide)
  have hn := norm_f (n := n) ox oy (Nat.le_trans (digB_len (by decide) hx) (by decide)) (Nat.le_trans (digB_len (by decide) hy) (by decide))
  rw [valD, valD] at hn
  obtain ⟨hp, hq⟩ := ratN_lt (n := n) hx hy (by decide)
  generalize ratN n x y = r at hn hp hq ⊢
  obtain ⟨m, p, q⟩ := r
  have l1 := limbs_f (p := p) (x := x) hp hx
  have l2 := limbs_f (p := q) (x := y) hq hy
  unfold rat_May.f
  rw [hn, Option.bind_some]
  simp only [ratL, l1, l2, Option.bind_some, Prod.mk.injEq]
  cases m <;> cases n <;> by_cases hpx : p = x <;> by_cases hqy : q = y <;> simp [hpx, hqy]
theorem read_f {l : List UInt8} (h : natB l = true) : digits_read.f (bA l) = some (progNat l) := by
  unfold digits_read.f progNat
  rw [bA_list, bA_size, if_pos h, if_pos h]
  split
  · rfl
  · split <;> rfl
theorem natural_f (l : List UInt8) : digits_natural.f (bA l) = some (natB l) := by unfold digits_natural.f; rw [bA_list]
theorem progR_ev (l : List UInt8) (hl : l.length ≤ 140737488351232) : Ev (fun k => digits_ParseRat.f k (bA l)) (outR 4294967296 (resR l)) := by
  have hc : strings_Cut.f (bA (restS l)) ⟨#[47]⟩ = some (bA (splitS (restS l)).1, bA (splitS (restS l)).2.1, (splitS (restS l)).2.2) := by
    unfold strings_Cut.f
    rw [if_pos ⟨rfl, by rw [bA_size]; exact Nat.le_trans (restS_len l) hl⟩, cutSL_bA]
  unfold resR
  generalize hs : splitS (restS l) = t at hc ⊢
  obtain ⟨a, b, two⟩ := t
  simp only [] at hc ⊢
  have e0 : ∀ k, digits_ParseRat.f k (bA l) = if natB a = true then (if two = true then digits_ParseRat.j0 k (negS l) (bA a) (bA b) two (!natB b) else digits_ParseRat.j0 k (negS l) (bA a) (bA b) two false) else digits_ParseRat.j0 k (negS l) (bA a) (bA b) two true := by
    intro k
    unfold digits_ParseRat.f
    simp only [prefix_bA, hc, natural_f, Option.bind_some]
  have bad : Ev (fun k => digits_ParseRat.j0 k (negS l) (bA a) (bA b) two true) (outR 4294967296 (19, (false, 0, 1))) := by
    refine Ev.step (f := fun _ => some (outR 4294967296 (19, (false, 0, 1)))) (fun k => ?_) (Ev.now _)
    simp only [digits_ParseRat.j0]; rfl
  refine Ev.congr e0 ?_
  by_cases ha : natB a = true
  · have main : ∀ hb : natB (if two = true then b else [49]) = true, Ev (fun k => digits_ParseRat.j0 k (negS l) (bA a) (bA b) two false) (outR 4294967296 (if (progNat a).2 = 0 ∧ (progNat (if two = true then b else [49])).2 = 0 then (if txt (ratN (negS l) (numD a) (numD (if two = true then b else [49]))) = l then (0, ratN (negS l) (numD a) (numD (if two = true then b else [49]))) else (6, (false, 0, 1))) else (14, (false, 0, 1)))) := by
      intro hb
      have hm := may_txt hs ha hb
      refine Ev.step (f := fun _ => some (outR 4294967296 (if (progNat a).2 = 0 ∧ (progNat (if two = true then b else [49])).2 = 0 then (if txt (ratN (negS l) (numD a) (numD (if two = true then b else [49]))) = l then (0, ratN (negS l) (numD a) (numD (if two = true then b else [49]))) else (6, (false, 0, 1))) else (14, (false, 0, 1))))) (fun k => ?_) (Ev.now _)
      simp only [digits_ParseRat.j0]
      rw [if_neg (by decide), of1_f, Option.bind_some, read_f ha, Option.bind_some]
      rcases prog_ok ha with ⟨a0, a1, a2, a3, _⟩ | ⟨a0, _, a3⟩
      · rw [if_pos a0]
        cases two with
        | true =>
          rw [if_pos rfl] at hb hm ⊢
          simp only [if_true, true_and] at hm ⊢
          rw [read_f hb, Option.bind_some]
          rcases prog_ok hb with ⟨b0, b1, b2, b3, _⟩ | ⟨b0, _, b3⟩
          · rw [if_pos b0, if_pos (And.intro a0 b0), a3, b3]
            simp only []
            rw [may_f a2 b2, Option.bind_some]
            by_cases hr : ratN (negS l) (numD a) (numD b) = (negS l, numD a, numD b)
            · rw [if_pos hr, if_pos rfl, bA_toList]
              by_cases h1 : b = [49]
              · rw [if_pos h1, if_neg (fun c => (hm.1 c).2 h1)]; rfl
              · rw [if_neg h1, if_pos (hm.2 ⟨hr, h1⟩), hr]; rfl
            · rw [if_neg hr, if_neg (by decide), if_neg (fun c => hr (hm.1 c).1)]; rfl
          · rw [if_neg (by rw [b0]; decide), if_neg (by rw [b0]; exact fun c => absurd c.2 (by decide)), b0]; rfl
        | false =>
          obtain ⟨o1, o2, o3⟩ := prog_one
          simp only [Bool.false_eq_true, if_false, false_and, not_false_eq_true, and_true] at hm ⊢
          rw [if_pos (And.intro a0 (show (progNat [49]).2 = 0 by rw [o2])), a3]
          have n1 : numD [49] = 1 := rfl
          rw [n1] at hm ⊢
          have h1 : (1 : Nat) < 4294967296 ^ 32 := Nat.lt_of_lt_of_le (show 1 < 4294967296 ^ 1 by decide) (Nat.pow_le_pow_right (by decide) (by decide))
          simp only []
          rw [may_f a2 h1, Option.bind_some]
          by_cases hr : ratN (negS l) (numD a) 1 = (negS l, numD a, 1)
          · rw [if_pos hr, if_pos rfl, if_pos (hm.2 hr), hr]; rfl
          · rw [if_neg hr, if_neg (by decide), if_neg (fun c => hr (hm.1 c))]; rfl
      · rw [if_neg (by rw [a0]; decide), if_neg (by rw [a0]; exact fun c => absurd c.1 (by decide)), a0]; rfl
    cases two with
    | true =>
      simp only [if_true] at main ⊢
      by_cases hb : natB b = true
      · have := main hb
        rw [if_pos (And.intro ha hb)]
        refine Ev.congr (fun k => ?_) this
        rw [if_pos ha, hb]; rfl
      · rw [if_neg (fun c => hb c.2)]
        refine Ev.congr (fun k => ?_) bad
        rw [if_pos ha, show natB b = false by simpa using hb]; rfl
    | false =>
      simp only [Bool.false_eq_true, if_false] at main ⊢
      have := main prog_one.1
      rw [if_pos (And.intro ha prog_one.1)]
      refine Ev.congr (fun k => ?_) this
      rw [if_pos ha]
  · rw [if_neg (fun c => ha c.1)]
    refine Ev.congr (fun k => ?_) bad
    rw [if_neg ha]
end Go.Proofs.YtibaoacjjcgjlaaGreatDoor.Ref

namespace Go.Proofs.YtibaoacjjcgjlaaGreatDoor.Ref
open Go.RowKit Go.Proofs.YtibaoacjjcgjlaaGreatDoorW.PrintWords Go.Proofs.YtibaoacjjcgjlaaGreatDoorW.PrintLast Go.Proofs.YtibaoacjjcgjlaaGreatDoor.Print Go.Proofs.YtibaoacjjcgjlaaGreatDoor.Base
set_option linter.unusedVariables false
set_option linter.unusedSimpArgs false
theorem resR_ok {l : List UInt8} (h : (resR l).1 = 0) : (resR l).2.2.1 < 4294967296 ^ 32 ∧ (resR l).2.2.2 < 4294967296 ^ 32 ∧ txt (resR l).2 = l ∧ ratN (resR l).2.1 (resR l).2.2.1 (resR l).2.2.2 = (resR l).2 := by
  unfold resR at h ⊢
  generalize splitS (restS l) = t at h ⊢
  obtain ⟨a, b, two⟩ := t
  simp only [] at h ⊢
  generalize (if two = true then b else [49]) = c at h ⊢
  by_cases h1 : natB a = true ∧ natB c = true
  · rw [if_pos h1] at h ⊢
    by_cases h2 : (progNat a).2 = 0 ∧ (progNat c).2 = 0
    · rw [if_pos h2] at h ⊢
      by_cases h3 : txt (ratN (negS l) (numD a) (numD c)) = l
      · rw [if_pos h3]
        rcases prog_ok h1.1 with ⟨_, _, a2, _⟩ | ⟨a0, _⟩
        · rcases prog_ok h1.2 with ⟨_, _, b2, _⟩ | ⟨b0, _⟩
          · obtain ⟨q1, q2⟩ := ratN_lt (n := negS l) a2 b2 (by decide)
            exact ⟨q1, q2, h3, ratN_idem _ _ _⟩
          · exact absurd (h2.2.symm.trans b0) (by decide)
        · exact absurd (h2.1.symm.trans a0) (by decide)
      · rw [if_neg h3] at h; exact absurd (show (6 : Int) = 0 from h) (by decide)
    · rw [if_neg h2] at h; exact absurd (show (14 : Int) = 0 from h) (by decide)
  · rw [if_neg h1] at h; exact absurd (show (19 : Int) = 0 from h) (by decide)
theorem dec_309 {v : Nat} (h : v < 4294967296 ^ 32) : (Lib.decDigits v).length ≤ 309 := by
  obtain ⟨k, hk⟩ : ∃ k : Nat, k = 308 := ⟨_, rfl⟩
  have a1 : 4294967296 ^ 32 ≤ (10 ^ 103) ^ 3 := Nat.le_of_ble_eq_true rfl
  have a2 : (10 ^ 103) ^ 3 ≤ 10 ^ (k + 1) := le_pow10 (by omega)
  have := (padD_dec k v (Nat.lt_of_lt_of_le h (Nat.le_trans a1 a2))).1
  omega
theorem prog_dec (v : Nat) : natB (Lib.decDigits v) = true ∧ progNat (Lib.decDigits v) = if v < 4294967296 ^ 32 then (digB 4294967296 v, 0) else ([], 14) := by
  have hn : natB (Lib.decDigits v) = true := natB_iff.2 (dec_natL v)
  refine ⟨hn, ?_⟩
  unfold progNat
  rw [if_pos hn, num_dec]
  by_cases h : v < 4294967296 ^ 32
  · rw [if_neg (by have := dec_309 h; omega)]
  · rw [if_neg h]; split <;> rfl
theorem resR_gen (n : Bool) (p q : Nat) : resR (txt (n, p, q)) = if p < 4294967296 ^ 32 ∧ q < 4294967296 ^ 32 then (if txt (ratN n p q) = txt (n, p, q) then (0, ratN n p q) else (6, (false, 0, 1))) else (14, (false, 0, 1)) := by
  obtain ⟨t1, t2⟩ := txt_parts n p q
  have e : (if decide (q ≠ 1) = true then (if q = 1 then [] else Lib.decDigits q) else [49]) = Lib.decDigits q := by
    by_cases h : q = 1
    · rw [if_neg (by simpa using h), (dec_one q).2 h]
    · rw [if_pos (by simpa using h), if_neg h]
  obtain ⟨np, pp⟩ := prog_dec p
  obtain ⟨nq, pq⟩ := prog_dec q
  have c : ((progNat (Lib.decDigits p)).2 = 0 ∧ (progNat (Lib.decDigits q)).2 = 0) ↔ (p < 4294967296 ^ 32 ∧ q < 4294967296 ^ 32) := by
    rw [pp, pq]
    by_cases hp : p < 4294967296 ^ 32
    · by_cases hq : q < 4294967296 ^ 32
      · rw [if_pos hp, if_pos hq]; exact ⟨fun _ => ⟨hp, hq⟩, fun _ => ⟨rfl, rfl⟩⟩
      · rw [if_pos hp, if_neg hq]; exact ⟨fun x => absurd (show (14 : Int) = 0 from x.2) (by decide), fun x => absurd x.2 hq⟩
    · rw [if_neg hp]; exact ⟨fun x => absurd (show (14 : Int) = 0 from x.1) (by decide), fun x => absurd x.1 hp⟩
  unfold resR
  rw [t2]
  simp only []
  rw [e, if_pos (And.intro np nq), t1, num_dec, num_dec]
  by_cases h : p < 4294967296 ^ 32 ∧ q < 4294967296 ^ 32
  · rw [if_pos (c.2 h), if_pos h]
  · rw [if_neg (fun x => h (c.1 x)), if_neg h]
end Go.Proofs.YtibaoacjjcgjlaaGreatDoor.Ref

namespace Go.Proofs.YtibaoacjjcgjlaaGreatDoor.Print
open Go.RowKit Go.Proofs.YtibaoacjjcgjlaaGreatDoorW.PrintWords Go.Proofs.YtibaoacjjcgjlaaGreatDoorW.PrintLast Go.Proofs.YtibaoacjjcgjlaaGreatDoorW.PrintMore
set_option linter.unusedVariables false
set_option linter.unusedSimpArgs false
theorem same_loop (a : List ByteArray) (hs : a.length ≤ 4611686018427387904) : ∀ (m i : Nat), a.length - i = m → i ≤ a.length → Ev (fun k => fluxionref16_SameTexts.l0 k a a (i : Int)) true
  | 0, i, hm, hi => by
    refine Ev.step (f := fun _ => some true) (fun k => ?_) (Ev.now _)
    simp only [fluxionref16_SameTexts.l0]; rw [if_neg (by omega)]
  | m + 1, i, hm, hi => by
    refine Ev.step (fun k => ?_) (same_loop a hs m (i + 1) (by omega) (by omega))
    simp only [fluxionref16_SameTexts.l0]; rw [if_pos (by omega), if_pos (by omega), if_pos (by omega), wrap_id (by omega) (by omega)]; simp
theorem texts_ev (a : List ByteArray) (hs : a.length ≤ 4611686018427387904) : Ev (fun k => fluxionref16_SameTexts.f k a a) true := by
  refine Ev.congr (fun k => ?_) (same_loop a hs a.length 0 (by omega) (by omega))
  unfold fluxionref16_SameTexts.f; rw [if_pos rfl]; rfl
theorem size_len (s : ByteArray) : s.size = s.data.toList.length := by cases s; rfl
end Go.Proofs.YtibaoacjjcgjlaaGreatDoor.Print

namespace Go.Proofs.YtibaoacjjcgjlaaGreatDoor.Print
open Go.RowKit Go.Proofs.YtibaoacjjcgjlaaGreatDoorW.PrintWords Go.Proofs.YtibaoacjjcgjlaaGreatDoorW.PrintLast Go.Proofs.YtibaoacjjcgjlaaGreatDoorW.PrintMore
set_option linter.unusedVariables false
set_option linter.unusedSimpArgs false
theorem indexByte_mem (c : UInt8) : ∀ l : List UInt8, 0 ≤ Lib.indexByte l c ↔ c ∈ l
  | [] => by simp [Lib.indexByte]
  | b :: r => by
    have ih := indexByte_mem c r
    have hge := Lib.indexByte_ge r c
    unfold Lib.indexByte
    by_cases hb : b = c
    · subst hb; simp
    · have hb' : (b == c) = false := by simpa using hb
      rw [hb']
      simp only [Bool.false_eq_true, if_false, List.mem_cons]
      by_cases hq : Lib.indexByte r c = -1
      · rw [hq]
        have : c ∉ r := fun h => by have := ih.2 h; omega
        simp [this, Ne.symm hb]
      · have h1 : (Lib.indexByte r c == -1) = false := by simpa using hq
        rw [h1]
        have : c ∈ r := ih.1 (by omega)
        simp [this]; omega
def splitG : List UInt8 → List UInt8 → List ByteArray
  | [], cur => [⟨cur.toArray⟩]
  | c :: r, cur => if c = 32 then ⟨cur.toArray⟩ :: splitG r [] else splitG r (cur ++ [c])
theorem splitG_none : ∀ (l cur : List UInt8), ¬ (32 : UInt8) ∈ l → splitG l cur = [⟨(cur ++ l).toArray⟩]
  | [], cur, h => by simp [splitG]
  | c :: r, cur, h => by
    have hc : ¬ c = 32 := fun e => h (by simp [e])
    unfold splitG
    rw [if_neg hc, splitG_none r (cur ++ [c]) (fun e => h (List.mem_cons_of_mem _ e))]
    simp
theorem splitG_some : ∀ (l cur : List UInt8) (i : Nat), Lib.indexByte l 32 = (i : Int) → splitG l cur = ⟨(cur ++ l.take i).toArray⟩ :: splitG (l.drop (i + 1)) []
  | [], cur, i, h => by simp [Lib.indexByte] at h
  | c :: r, cur, i, h => by
    unfold Lib.indexByte at h
    by_cases hc : c = 32
    · subst hc
      have hi : i = 0 := by simp at h; omega
      subst hi
      show (if (32 : UInt8) = 32 then _ else _) = _
      rw [if_pos rfl]; simp
    · have hc' : (c == 32) = false := by simpa using hc
      rw [hc'] at h
      simp only [Bool.false_eq_true, if_false] at h
      have hge := Lib.indexByte_ge r 32
      split at h
      · omega
      · rename_i hq
        have hq : Lib.indexByte r 32 ≠ -1 := by simpa using hq
        have hr : Lib.indexByte r 32 + 1 = (i : Int) := h
        obtain ⟨j, rfl⟩ : ∃ j, i = j + 1 := ⟨i - 1, by omega⟩
        have := splitG_some r (cur ++ [c]) j (by omega)
        show (if c = 32 then _ else _) = _
        rw [if_neg hc, this]; simp
theorem indexB_sp (s : ByteArray) : Lib.indexB s spB = Lib.indexByte s.data.toList 32 := Lib.index_one s.data.toList 32
theorem wordsOf_eq : ∀ (n : Nat) (s : ByteArray), s.size ≤ n → wordsOf s = splitG s.data.toList []
  | n, s, hn => by
    have hsz := size_len s
    unfold wordsOf
    by_cases hi : 0 ≤ Lib.indexByte s.data.toList 32
    · obtain ⟨i, hii⟩ : ∃ i : Nat, Lib.indexByte s.data.toList 32 = (i : Int) := ⟨(Lib.indexByte s.data.toList 32).toNat, by omega⟩
      have hix : Lib.indexB s spB = (i : Int) := by rw [indexB_sp]; exact hii
      have hlt := indexByte_lt s.data.toList 32
      have hrs : (s.extract (i + spB.size) s.size).size = s.size - (i + 1) := by
        rw [show spB.size = 1 from rfl]; simp [ByteArray.size_extract]
      match n, hn with
      | 0, hn => omega
      | n + 1, hn =>
        have ih := wordsOf_eq n (s.extract (i + spB.size) s.size) (by rw [hrs]; omega)
        rw [Lib.countB_hit s spB i (by decide) hix, Nat.add_comm, Lib.splitB_hit spB 0 _ s i hix, splitG_some s.data.toList [] i hii]
        unfold wordsOf at ih
        rw [ih, Lib.extract_to_end, show spB.size = 1 from rfl]
        congr 1
        refine Go.WideShapes.bytes_inj ?_
        rw [Nat.add_zero, Lib.extract_from_zero]; simp
    · have hix : Lib.indexB s spB = -1 := by rw [indexB_sp]; have := Lib.indexByte_ge s.data.toList 32; omega
      rw [Lib.countB_miss s spB hix, Lib.splitB_zero, splitG_none s.data.toList [] (fun h => hi ((indexByte_mem 32 _).2 h))]
      rfl
def wfine (w : ByteArray) : Bool := decide (w.toList ≠ []) && !decide (0 ≤ lfAt w)
theorem rdOf_get (ws : List ByteArray) (j : Nat) (h : j < ws.length) : rdOf ByteArray.empty ws (j : Int) = ws[j] := by
  simp [rdOf, h]
theorem splits_loop (ws : List ByteArray) (hs : ws.length ≤ 4611686018427387904) : ∀ (m j : Nat), ws.length - j = m → j ≤ ws.length →
    Ev (fun k => lex_Split.l0 k ws ws (ws.length : Int) (j : Int)) (if (ws.drop j).all wfine = true then (ws, 0) else ([], 19))
  | 0, j, hm, hj => by
    rw [show j = ws.length by omega, List.drop_length]
    refine Ev.at 1 (fun k => ?_)
    simp only [lex_Split.l0]; rw [if_neg (by omega)]; rfl
  | m + 1, j, hm, hj => by
    have hlt : j < ws.length := by omega
    have ih := splits_loop ws hs m (j + 1) (by omega) (by omega)
    have hr := rdOf_get ws j hlt
    rw [List.drop_eq_getElem_cons hlt, List.all_cons]
    by_cases h1 : ws[j].toList = []
    · rw [show wfine ws[j] = false by simp [wfine, h1]]
      refine Ev.at 1 (fun k => ?_)
      simp only [lex_Split.l0]; rw [if_pos (by omega), if_pos (by omega), if_pos (by omega), hr, if_pos h1]; rfl
    · have hc : strings_Contains.f ws[j] ⟨#[10]⟩ = some (decide (0 ≤ lfAt ws[j])) := by unfold strings_Contains.f; rw [if_pos rfl]
      by_cases h2 : 0 ≤ lfAt ws[j]
      · rw [show wfine ws[j] = false by simp [wfine, h2]]
        refine Ev.at 1 (fun k => ?_)
        simp only [lex_Split.l0]; rw [if_pos (by omega), if_pos (by omega), if_pos (by omega), hr, if_neg h1, hc, Option.bind_some, decide_eq_true h2, if_pos rfl]; rfl
      · rw [show wfine ws[j] = true by simp [wfine, h1, h2], Bool.true_and]
        refine Ev.step (fun k => ?_) ih
        simp only [lex_Split.l0]; rw [if_pos (by omega), if_pos (by omega), if_pos (by omega), hr, if_neg h1, hc, Option.bind_some, decide_eq_false h2, if_neg (by decide), wrap_id (by omega) (by omega)]; rfl
end Go.Proofs.YtibaoacjjcgjlaaGreatDoor.Print

namespace Go.Proofs.YtibaoacjjcgjlaaGreatDoor.Ref
open Go.RowKit Go.Proofs.YtibaoacjjcgjlaaGreatDoorW.PrintWords Go.Proofs.YtibaoacjjcgjlaaGreatDoorW.PrintLast Go.Proofs.YtibaoacjjcgjlaaGreatDoor.Print Go.Proofs.YtibaoacjjcgjlaaGreatDoor.Base
set_option linter.unusedVariables false
set_option linter.unusedSimpArgs false
theorem headC_iff {c : UInt8} {l : List UInt8} : headC c l = true ↔ l = c :: tailC c l := by
  unfold tailC
  constructor
  · intro h
    rw [if_pos h]
    unfold headC at h
    cases l with
    | nil => simp at h
    | cons d r =>
      have : d = c := by simpa using h
      rw [this]; rfl
  · intro h
    unfold headC
    rw [h]; simp
theorem intW_ok {l : List UInt8} (h : (intW l).2 = 0) : ∃ (neg : Bool) (d : List UInt8), l = sgn neg ++ d ∧ natB d = true ∧ numD d ≤ 2147483647 ∧ ¬ (neg = true ∧ d = [48]) := by
  have rd : ∀ d : List UInt8, (readW d).2 = 0 → natB d = true ∧ numD d ≤ 2147483647 := by
    intro d hd
    unfold readW at hd
    by_cases h1 : natB d = true
    · rw [if_pos h1] at hd
      by_cases h2 : 2147483647 < numD d
      · rw [if_pos h2] at hd; exact absurd (show (14 : Int) = 0 from hd) (by decide)
      · exact ⟨h1, by omega⟩
    · rw [if_neg h1] at hd; exact absurd (show (19 : Int) = 0 from hd) (by decide)
  unfold intW at h
  by_cases h1 : headC 45 l = true
  · rw [if_pos h1] at h
    by_cases h2 : tailC 45 l = [48]
    · rw [if_pos h2] at h; exact absurd (show (19 : Int) = 0 from h) (by decide)
    · rw [if_neg h2] at h
      obtain ⟨n1, n2⟩ := rd _ h
      exact ⟨true, tailC 45 l, headC_iff.1 h1, n1, n2, fun x => h2 x.2⟩
  · rw [if_neg h1] at h
    obtain ⟨n1, n2⟩ := rd _ h
    exact ⟨false, l, rfl, n1, n2, fun x => by cases x.1⟩
theorem refW_ok {l : List UInt8} (h : (refW l).2 = 0) : ∃ d : List UInt8, l = 37 :: d ∧ natB d = true ∧ numD d ≤ 2147483647 := by
  unfold refW at h
  by_cases h1 : headC 37 l = true
  · rw [if_pos h1] at h
    refine ⟨tailC 37 l, headC_iff.1 h1, ?_⟩
    unfold readW at h
    by_cases h2 : natB (tailC 37 l) = true
    · rw [if_pos h2] at h
      refine ⟨h2, ?_⟩
      by_cases h3 : 2147483647 < numD (tailC 37 l)
      · rw [if_pos h3] at h; exact absurd (show (14 : Int) = 0 from h) (by decide)
      · omega
    · rw [if_neg h2] at h; exact absurd (show (19 : Int) = 0 from h) (by decide)
  · rw [if_neg h1] at h; exact absurd (show (19 : Int) = 0 from h) (by decide)
theorem natB_digs {d : List UInt8} (h : natB d = true) : d ≠ [] ∧ ∀ c ∈ d, 48 ≤ c.toNat ∧ c.toNat ≤ 57 := ⟨(natB_iff.1 h).1, (natB_iff.1 h).2.1⟩
theorem int_rat {neg : Bool} {d : List UInt8} (hd : natB d = true) (hn : numD d ≤ 2147483647) (h0 : ¬ (neg = true ∧ d = [48])) : (resR (sgn neg ++ d)).1 = 0 := by
  have hdec := dec_numL (natB_iff.1 hd)
  have ht : sgn neg ++ d = txt (neg, numD d, 1) := by
    unfold txt tailR
    simp only []
    rw [if_pos trivial, List.append_nil, hdec]
  have h1 : (1 : Nat) < 4294967296 ^ 32 := Nat.lt_of_lt_of_le (show 1 < 4294967296 ^ 1 by decide) (Nat.pow_le_pow_right (by decide) (by decide))
  have h2 : numD d < 4294967296 ^ 32 := Nat.lt_of_lt_of_le (show numD d < 4294967296 ^ 1 by omega) (Nat.pow_le_pow_right (by decide) (by decide))
  have hr : ratN neg (numD d) 1 = (neg, numD d, 1) := by
    unfold ratN
    by_cases hz : numD d = 0
    · have hneg : neg = false := by
        cases neg with
        | false => rfl
        | true => exact absurd ⟨rfl, (nat_zero hd).1 hz⟩ h0
      rw [if_pos (Or.inl hz), hz, hneg]
    · rw [if_neg (by omega), Nat.gcd_one_right, Nat.div_one]
  rw [ht, resR_gen, if_pos (And.intro h2 h1), hr, if_pos rfl]
theorem rat_head {l : List UInt8} (h : (resR l).1 = 0) : ∃ c r, l = c :: r ∧ (c.toNat = 45 ∨ 48 ≤ c.toNat ∧ c.toNat ≤ 57) := by
  obtain ⟨_, _, h3, _⟩ := resR_ok h
  generalize (resR l).2 = s at h3
  obtain ⟨n, p, q⟩ := s
  cases n with
  | true => exact ⟨45, _, by rw [← h3]; rfl, Or.inl rfl⟩
  | false =>
    cases hd : Lib.decDigits p with
    | nil => exact absurd hd (dec_ne p)
    | cons c r =>
      refine ⟨c, r ++ tailR q, ?_, Or.inr (dec_dig p c (by rw [hd]; exact List.mem_cons_self ..))⟩
      rw [← h3]; unfold txt sgn; simp only []; rw [hd]; rfl
theorem int_head {l : List UInt8} (h : (intW l).2 = 0) : ∃ c r, l = c :: r ∧ (c.toNat = 45 ∨ 48 ≤ c.toNat ∧ c.toNat ≤ 57) := by
  obtain ⟨neg, d, rfl, hd, _, _⟩ := intW_ok h
  obtain ⟨h0, h1⟩ := natB_digs hd
  cases neg with
  | true => exact ⟨45, d, rfl, Or.inl rfl⟩
  | false =>
    cases d with
    | nil => exact absurd rfl h0
    | cons c r => exact ⟨c, r, rfl, Or.inr (h1 c (List.mem_cons_self ..))⟩
theorem hid_word {l : List UInt8} (hl : l.length ≤ 140737488351232) (h : hidB (bA l) = true) : ∃ d, l = 126 :: d ∧ natB d = true ∧ l.length ≤ 32 := by
  unfold hidB at h
  by_cases h1 : Lib.hasPrefix (bA l).data.toList [126] = true
  · rw [if_pos h1, Bool.and_eq_true] at h
    have h2 := h.1
    have h3 : l.length ≤ 32 := by have := of_decide_eq_true h.2; rwa [bA_size] at this
    rw [bA_list] at h1
    cases l with
    | nil => unfold Lib.hasPrefix at h1; simp [List.isPrefixOf] at h1
    | cons c r =>
      have hc : (126 : UInt8) = c := by unfold Lib.hasPrefix at h1; simpa [List.isPrefixOf] using h1
      refine ⟨r, by rw [hc], ?_, h3⟩
      have e : (bA (c :: r)).extract 1 (bA (c :: r)).size = bA r := by
        rw [extract_bA, bA_size]
        simp
      rw [e, natW_bA] at h2
      exact h2
  · rw [if_neg h1] at h; cases h
theorem plain_word {l : List UInt8} (h : plainB (bA l) = true) : l ≠ [] ∧ (∀ c ∈ l, (97 ≤ c.toNat ∧ c.toNat ≤ 122) ∨ (48 ≤ c.toNat ∧ c.toNat ≤ 57) ∨ c.toNat = 95) ∧ (∀ c r, l = c :: r → 97 ≤ c.toNat ∧ c.toNat ≤ 122) ∧ l.length ≤ 32 := by
  unfold plainB at h
  by_cases h1 : ∀ j, j < (bA l).size → mayK (bA l) j 3 = true
  · rw [if_pos h1, Bool.and_eq_true] at h
    have h2 := h.1
    rw [bA_toList] at h2
    have hb : ∀ (j : Nat) (hj : j < l.length), bt (bA l) (j : Int) = ((l[j].toNat : Nat) : Int) := fun j hj => bt_bA l j hj
    have h3 : l.length ≤ 32 := by have := of_decide_eq_true h.2; rwa [bA_size] at this
    refine ⟨by simpa using h2, fun c hc => ?_, fun c r e => ?_, h3⟩
    · obtain ⟨j, hj, rfl⟩ := List.getElem_of_mem hc
      have := h1 j hj
      rcases Nat.eq_zero_or_pos j with j0 | j0
      · subst j0
        rw [mayK_0] at this
        have hb0 : bt (bA l) 0 = ((l[0].toNat : Nat) : Int) := hb 0 hj
        rw [hb0, inB_iff] at this
        omega
      · rw [mayK_pos _ _ j0, hb j hj, Bool.or_eq_true, Bool.or_eq_true, inB_iff, inB_iff, inB_iff] at this
        omega
    · subst e
      have := h1 0 (by rw [bA_size]; simp)
      rw [mayK_0] at this
      have hb0 : bt (bA (c :: r)) 0 = ((c.toNat : Nat) : Int) := hb 0 (by simp)
      rw [hb0, inB_iff] at this
      omega
  · rw [if_neg h1] at h; cases h
theorem word_fine {l : List UInt8} (hl : l.length ≤ 140737488351232) (h : (plainB (bA l) = true ∨ hidB (bA l) = true) ∨ (intW l).2 = 0 ∨ (refW l).2 = 0) : l ≠ [] ∧ (32 : UInt8) ∉ l ∧ (10 : UInt8) ∉ l ∧ l.length ≤ 100 := by
  have short : ∀ d : List UInt8, natB d = true → numD d ≤ 2147483647 → d.length ≤ 10 := fun d hd hn => by
    have := (padD_dec 9 (numD d) (by omega)).1
    rw [dec_numL (natB_iff.1 hd)] at this
    exact this
  have key : l ≠ [] ∧ (∀ c ∈ l, c.toNat ≠ 32 ∧ c.toNat ≠ 10) ∧ l.length ≤ 100 := by
    rcases h with (h | h) | h | h
    · obtain ⟨h0, h1, _, h3⟩ := plain_word h
      exact ⟨h0, fun c hc => by have := h1 c hc; omega, by omega⟩
    · obtain ⟨d, rfl, hd, h3⟩ := hid_word hl h
      refine ⟨by simp, fun c hc => ?_, by omega⟩
      rcases List.mem_cons.1 hc with rfl | hc
      · decide
      · have := (natB_digs hd).2 c hc; omega
    · obtain ⟨neg, d, rfl, hd, hn, _⟩ := intW_ok h
      obtain ⟨h0, h1⟩ := natB_digs hd
      have h3 := short d hd hn
      refine ⟨by cases neg <;> simp [sgn, h0], fun c hc => ?_, by cases neg <;> simp [sgn] <;> omega⟩
      rcases List.mem_append.1 hc with hc | hc
      · unfold sgn at hc
        cases neg with
        | true => rw [if_pos rfl] at hc; rw [List.mem_singleton.1 hc]; decide
        | false => rw [if_neg (by decide)] at hc; cases hc
      · have := h1 c hc; omega
    · obtain ⟨d, rfl, hd, hn⟩ := refW_ok h
      have h3 := short d hd hn
      refine ⟨by simp, fun c hc => ?_, by simp; omega⟩
      rcases List.mem_cons.1 hc with rfl | hc
      · decide
      · have := (natB_digs hd).2 c hc; omega
  exact ⟨key.1, fun h => (key.2.1 _ h).1 rfl, fun h => (key.2.1 _ h).2 rfl, key.2.2⟩
theorem name_head {l : List UInt8} (hl : l.length ≤ 140737488351232) (h : plainB (bA l) = true ∨ hidB (bA l) = true) : ∃ c r, l = c :: r ∧ (97 ≤ c.toNat ∧ c.toNat ≤ 122 ∨ c.toNat = 126) := by
  rcases h with h | h
  · obtain ⟨h0, _, h2, _⟩ := plain_word h
    cases l with
    | nil => exact absurd rfl h0
    | cons c r => exact ⟨c, r, rfl, Or.inl (h2 c r rfl)⟩
  · obtain ⟨d, rfl, _, _⟩ := hid_word hl h
    exact ⟨126, d, rfl, Or.inr rfl⟩
theorem ref_head {l : List UInt8} (h : (refW l).2 = 0) : ∃ c r, l = c :: r ∧ c.toNat = 37 := by
  obtain ⟨d, rfl, _, _⟩ := refW_ok h
  exact ⟨37, d, rfl, rfl⟩
theorem heads {l : List UInt8} {P Q : Nat → Prop} (h : ∃ c r, l = c :: r ∧ P c.toNat) (k : ∃ c r, l = c :: r ∧ Q c.toNat) : ∃ n, P n ∧ Q n := by
  obtain ⟨c, r, e, hp⟩ := h
  obtain ⟨d, s, e2, hq⟩ := k
  rw [e] at e2
  obtain ⟨rfl, _⟩ := List.cons.inj e2
  exact ⟨_, hp, hq⟩
end Go.Proofs.YtibaoacjjcgjlaaGreatDoor.Ref

namespace Go.Proofs.YtibaoacjjcgjlaaGreatDoor.Pure
open Go.RowKit Go.Proofs.YtibaoacjjcgjlaaGreatDoorW.PrintWords Go.Proofs.YtibaoacjjcgjlaaGreatDoorW.PrintLast Go.Proofs.YtibaoacjjcgjlaaGreatDoor.Print Go.Proofs.YtibaoacjjcgjlaaGreatDoor.Base Go.Proofs.YtibaoacjjcgjlaaGreatDoor.Ref
set_option linter.unusedVariables false
set_option linter.unusedSimpArgs false
theorem hk : Ev (fun k => (fluxionlaw16_known.f k).bind fun t => some t) true := Ev.bind known16_ev (Ev.now _)
def nameB (l : List UInt8) : Bool := plainB (bA l) || hidB (bA l)
theorem nameB_iff {l : List UInt8} : nameB l = true ↔ (plainB (bA l) = true ∨ hidB (bA l) = true) := by unfold nameB; rw [Bool.or_eq_true]
theorem name_f (l : List UInt8) (hl : l.length ≤ 140737488351232) : lex_Name.f (bA l) = some (if nameB l = true then 0 else 15) := by
  rw [name_eq _ (by rw [bA_size]; exact hl)]
  unfold nameB
  cases plainB (bA l) <;> cases hidB (bA l) <;> rfl
theorem split_ev {l : List UInt8} (hl : l.length ≤ 100) (h0 : l ≠ []) (h32 : (32 : UInt8) ∉ l) (h10 : (10 : UInt8) ∉ l) : Ev (fun k => lex_Split.f k (bA l)) ([bA l], 0) := by
  have hw : wordsOf (bA l) = [bA l] := by
    rw [wordsOf_eq (bA l).size (bA l) (Nat.le_refl _), bA_list, splitG_none _ _ h32]; rfl
  have hfine : wfine (bA l) = true := by
    unfold wfine lfAt
    rw [bA_toList, bA_list, decide_eq_true h0, decide_eq_false (fun c => h10 ((indexByte_mem 10 l).1 c))]; rfl
  have hs : strings_Split.f (bA l) ⟨#[32]⟩ = some [bA l] := by
    unfold strings_Split.f
    rw [if_pos (And.intro (show (⟨#[32]⟩ : ByteArray) = spB from rfl) (show (bA l).size < 4294967281 by rw [bA_size]; omega)), hw]
  have h := splits_loop [bA l] (by simp) 1 0 (by simp) (by simp)
  rw [List.drop_zero, if_pos (by simp [hfine])] at h
  refine Ev.congr (fun k => ?_) h
  unfold lex_Split.f
  rw [bA_toList, if_neg h0, hs, Option.bind_some]; rfl
section
variable (l : List UInt8) (hl : l.length ≤ 140737488351232)
include hl
theorem j4_ev (b : Bool) (hb : hidB (bA l) = true → b = true) : Ev (fun k => fluxionlaw16_LexApart.j4 k (bA l) b false) true := by
  refine Ev.step (fun k => ?_) hk
  simp only [fluxionlaw16_LexApart.j4]
  rw [if_neg (by decide), hidden_eq _ (by rw [bA_size]; exact hl), Option.bind_some]
  by_cases h : hidB (bA l) = true
  · rw [if_pos h, if_pos (hb h)]
  · rw [if_neg h]
theorem j3_ev (b x : Bool) (hb : hidB (bA l) = true → b = true) (hx : x = true → l ≠ [] ∧ (32 : UInt8) ∉ l ∧ (10 : UInt8) ∉ l ∧ l.length ≤ 100) : Ev (fun k => fluxionlaw16_LexApart.j3 k (bA l) b x) true := by
  cases x with
  | true =>
    obtain ⟨h0, h32, h10, h100⟩ := hx rfl
    refine Ev.step (f := fun k => (lex_Split.f k (bA l)).bind fun bt116 => (if bt116.2 = 0 then ((fluxionref16_SameTexts.f k bt116.1 (([bA l] : List ByteArray))).bind fun t123 => (fluxionlaw16_LexApart.j4 k (bA l) b (!t123))) else (fluxionlaw16_LexApart.j4 k (bA l) b true))) (fun k => ?_) (Ev.bind (split_ev h100 h0 h32 h10) ?_)
    · simp only [fluxionlaw16_LexApart.j3]; rw [if_pos trivial]
    · exact Ev.congr (fun k => by rw [if_pos rfl]) (Ev.bind (texts_ev [bA l] (by simp)) (j4_ev l hl b hb))
  | false =>
    refine Ev.step (fun k => ?_) hk
    simp only [fluxionlaw16_LexApart.j3]
    rw [if_neg (by decide), hidden_eq _ (by rw [bA_size]; exact hl), Option.bind_some]
    by_cases h : hidB (bA l) = true
    · rw [if_pos h, if_pos (hb h)]
    · rw [if_neg h]
theorem j2_ev : Ev (fun k => fluxionlaw16_LexApart.j2 k (bA l) (intW l).2 (refW l).2 (nameB l)) true := by
  have hb : hidB (bA l) = true → nameB l = true := fun h => nameB_iff.2 (Or.inr h)
  have fine := fun h => word_fine (l := l) hl h
  by_cases h1 : nameB l = true
  · refine Ev.step (fun k => ?_) (j3_ev l hl (nameB l) true hb (fun _ => fine (Or.inl (nameB_iff.1 h1))))
    simp only [fluxionlaw16_LexApart.j2]; rw [if_pos h1]
  · by_cases h2 : (intW l).2 = 0
    · refine Ev.step (fun k => ?_) (j3_ev l hl (nameB l) true hb (fun _ => fine (Or.inr (Or.inl h2))))
      simp only [fluxionlaw16_LexApart.j2]; rw [if_neg h1, if_pos h2]
    · refine Ev.step (fun k => ?_) (j3_ev l hl (nameB l) ((refW l).2 == 0) hb (fun h => fine (Or.inr (Or.inr (by simpa using h)))))
      simp only [fluxionlaw16_LexApart.j2]; rw [if_neg h1, if_neg h2]
theorem j1_ev (x9 : Int) (h9 : (intW l).2 = 0 → x9 = 0) : Ev (fun k => fluxionlaw16_LexApart.j1 k (bA l) (intW l).2 (refW l).2 (nameB l) x9 false) true := by
  refine Ev.step (fun k => ?_) (j2_ev l hl)
  simp only [fluxionlaw16_LexApart.j1]
  rw [if_neg (by decide)]
  by_cases h : (intW l).2 = 0
  · rw [if_pos h, if_pos (h9 h)]
  · rw [if_neg h]
theorem int_is_rat (h : (intW l).2 = 0) : (resR l).1 = 0 := by
  obtain ⟨neg, d, rfl, hd, hn, h0⟩ := intW_ok h
  exact int_rat hd hn h0
theorem j0_ev : Ev (fun k => fluxionlaw16_LexApart.j0 k (bA l) (intW l).2 (refW l).2 (nameB l) false) true := by
  by_cases hs : ((bA l).size : Int) ≤ 120
  · have hp := Ev.bind (progR_ev l hl) (f := fun (_ : Nat) (bt126 : Bool × List Int × List Int × Int) => some (bt126.1, bt126.2.1, bt126.2.2.1, bt126.2.2.2)) (Ev.now _)
    refine Ev.step (f := fun k => (lex_Rat.f k (bA l)).bind fun bt106 => (if bt106.2.2.2 = 0 then (if nameB l = true then (fluxionlaw16_LexApart.j1 k (bA l) (intW l).2 (refW l).2 (nameB l) bt106.2.2.2 true) else (if (refW l).2 = 0 then (fluxionlaw16_LexApart.j1 k (bA l) (intW l).2 (refW l).2 (nameB l) bt106.2.2.2 true) else ((digits_Rat.f k bt106.1 bt106.2.1 bt106.2.2.1).bind fun t115 => (fluxionlaw16_LexApart.j1 k (bA l) (intW l).2 (refW l).2 (nameB l) bt106.2.2.2 (t115.toList != (bA l).toList))))) else (fluxionlaw16_LexApart.j1 k (bA l) (intW l).2 (refW l).2 (nameB l) bt106.2.2.2 false))) (fun k => ?_) (Ev.bind (show Ev (fun k => lex_Rat.f k (bA l)) (outR 4294967296 (resR l)) from hp) ?_)
    · simp only [fluxionlaw16_LexApart.j0]; rw [if_neg (by decide), if_pos hs]
    · by_cases e : (resR l).1 = 0
      · obtain ⟨q1, q2, q3, q4⟩ := resR_ok e
        have hn : ¬ nameB l = true := fun h => by
          obtain ⟨n, h1, h2⟩ := heads (P := fun n => 97 ≤ n ∧ n ≤ 122 ∨ n = 126) (Q := fun n => n = 45 ∨ 48 ≤ n ∧ n ≤ 57) (name_head hl (nameB_iff.1 h)) (rat_head e)
          omega
        have hr : ¬ (refW l).2 = 0 := fun h => by
          obtain ⟨n, h1, h2⟩ := heads (P := fun n => n = 37) (Q := fun n => n = 45 ∨ 48 ≤ n ∧ n ≤ 57) (ref_head h) (rat_head e)
          omega
        have ht := ratP_ev (n := (resR l).2.1) (okD q1 (by decide)) (okD q2 (by decide)) (digB_len (by decide) q1) (digB_len (by decide) q2) (by decide) (by decide)
        rw [valD, valD, q4, q3] at ht
        unfold outR
        rw [if_pos e]
        refine Ev.congr (fun k => by rw [if_pos rfl, if_neg hn, if_neg hr]) (Ev.bind ht ?_)
        refine Ev.congr (fun k => ?_) (j1_ev l hl 0 (fun _ => rfl))
        congr 1
        simp
      · unfold outR
        rw [if_neg e]
        refine Ev.congr (fun k => ?_) (j1_ev l hl (resR l).1 (fun h => int_is_rat l hl h))
        rw [if_neg e]
  · refine Ev.step (fun k => ?_) (j2_ev l hl)
    simp only [fluxionlaw16_LexApart.j0]; rw [if_neg (by decide), if_neg hs]
end
theorem LexApart : fluxionlaw16_LexApart.Pure := by
  intro a0 hs
  refine Ev.rounds (r := true) ?_
  rw [← bA_self a0] at hs ⊢
  generalize a0.data.toList = l at hs ⊢
  rw [bA_size] at hs
  have h1 := lexint_ev l hs
  have h3 := lexref_f l hs
  have hn := name_f l hs
  have j0 := j0_ev l hs
  have ni : nameB l = true → ¬ (intW l).2 = 0 := fun h e => by
    obtain ⟨n, x, y⟩ := heads (P := fun n => 97 ≤ n ∧ n ≤ 122 ∨ n = 126) (Q := fun n => n = 45 ∨ 48 ≤ n ∧ n ≤ 57) (name_head hs (nameB_iff.1 h)) (int_head e)
    omega
  have nr : nameB l = true → ¬ (refW l).2 = 0 := fun h e => by
    obtain ⟨n, x, y⟩ := heads (P := fun n => 97 ≤ n ∧ n ≤ 122 ∨ n = 126) (Q := fun n => n = 37) (name_head hs (nameB_iff.1 h)) (ref_head e)
    omega
  have ir : (intW l).2 = 0 → ¬ (refW l).2 = 0 := fun h e => by
    obtain ⟨n, x, y⟩ := heads (P := fun n => n = 45 ∨ 48 ≤ n ∧ n ≤ 57) (Q := fun n => n = 37) (int_head h) (ref_head e)
    omega
  have ex : ((if nameB l = true then (0 : Int) else 15) == 0) = nameB l := by cases nameB l <;> rfl
  refine Ev.congr (fun k => ?_) (Ev.bind h1 (f := fun (k : Nat) (bt101 : Int × Int) => (if nameB l = true then (if bt101.2 = 0 then (fluxionlaw16_LexApart.j0 k (bA l) bt101.2 (refW l).2 (nameB l) true) else (if (refW l).2 = 0 then (fluxionlaw16_LexApart.j0 k (bA l) bt101.2 (refW l).2 (nameB l) true) else (fluxionlaw16_LexApart.j0 k (bA l) bt101.2 (refW l).2 (nameB l) false))) else (if bt101.2 = 0 then (fluxionlaw16_LexApart.j0 k (bA l) bt101.2 (refW l).2 (nameB l) ((refW l).2 == 0)) else (fluxionlaw16_LexApart.j0 k (bA l) bt101.2 (refW l).2 (nameB l) false)))) ?_)
  · unfold fluxionlaw16_LexApart.f
    simp only [h3, hn, Option.bind_some, ex]
  · refine Ev.congr (fun k => ?_) j0
    by_cases h : nameB l = true
    · rw [if_pos h, if_neg (ni h), if_neg (nr h)]
    · rw [if_neg h]
      by_cases hi : (intW l).2 = 0
      · rw [if_pos hi, show ((refW l).2 == 0) = false by rw [beq_eq_false_iff_ne]; exact ir hi]
      · rw [if_neg hi]
end Go.Proofs.YtibaoacjjcgjlaaGreatDoor.Pure

namespace Go.Proofs.YtibaoacjjcgjlaaGreatDoor.lexApart
open Go.ChangeShapes Go.WideShapes Go.ChangeAt Go.RowKit
open Go.ChangeMaps (open_string shut_string)
set_option linter.unusedVariables false
theorem own : ownKnob Tryz.prog.godebug = none := by kernel_rfl
theorem rowErr (u : TypeId) (h : Tryz.prog.typeName? 3 u = some "*errors.errorString") : u = 178 :=
  typeName_ptr_named (nm := "errors.errorString") (by rw [show "*" ++ "errors.errorString" = "*errors.errorString" by decide]; kernel_rfl) (by kernel_rfl) (by decide) u (by rw [show "*" ++ "errors.errorString" = "*errors.errorString" by decide]; exact h)
noncomputable abbrev W0 (os : Os) : World := World.laidAll Tryz.prog os Rows.lexApartRow.laid
theorem laid_met (os : Os) (args : Array Value) : laidMet Tryz.prog Rows.lexApartRow.laid ((W0 os).forCall (fun _ _ => 0) ⟨#[], args, []⟩).memory :=
  laidMet_laidAll args (by kernel_rfl) (by kernel_rfl)
theorem witness_row (os : Os) {H : Type} (enc : TypeId × Value → H) :
    (OpenSpec.ofChange Rows.lexApartSpec).preRow enc Tryz.prog Tryz.f4 Rows.lexApartRow.domain false Rows.lexApartRow.laid ((W0 os).forCall (fun _ _ => 0) ⟨#[], #[.string ⟨#[]⟩], []⟩).memory #[.string ⟨#[]⟩] := by
  have hw : (DataW.whole enc Tryz.prog ((W0 os).forCall (fun _ _ => 0) ⟨#[], #[.string ⟨#[]⟩], []⟩).memory Tryz.f4.params.toList (OpenSpec.ofChange Rows.lexApartSpec).vars false #[.string ⟨#[]⟩].toList 8).map (fun x => (x.1, x.2.1)) =
      some ([.lit (.string [])], []) := by kernel_rfl
  obtain ⟨⟨x1, x2, x3⟩, hx, hx1⟩ := Option.map_eq_some_iff.1 hw
  simp only [Prod.mk.injEq] at hx1
  obtain ⟨rfl, rfl⟩ := hx1
  exact OpenSpec.preRow_of_cond 8 hx (by kernel_rfl) (fun k hk => by cases hk) (by kernel_rfl) (laid_met os _)
open Print Go.Proofs.YtibaoacjjcgjlaaGreatDoorW.PrintWords Go.Proofs.YtibaoacjjcgjlaaGreatDoorW.PrintLast in
theorem lawcall (w : World) (a0 : ByteArray) (w0 : a0.size ≤ 140737488351232) (ht : PowTab w) (hv : RangeVar w) :
    Calls Tryz.prog 4 #[.string a0] w fun e w' => e = .returned (.bool true) ∧ Below w.heap.size w w' := by
  obtain ⟨k, h⟩ := Pure.LexApart a0 w0
  refine (fluxionlaw16_LexApart.calls k a0 true w ht hv h).mono ?_
  rintro e w' ⟨rfl, hd⟩
  exact ⟨rfl, hd⟩
set_option maxRecDepth 100000 in
theorem lifted (os : Os) (started : os.Started) (H : Type) (enc : TypeId × Value → H) (G : Stop.Interp) :
    ReturnsInHanded {} Tryz.checked os 4 .any ((OpenSpec.ofChange Rows.lexApartSpec).preRow enc Tryz.prog Tryz.f4 Rows.lexApartRow.domain false Rows.lexApartRow.laid) (((OpenSpec.ofChange Rows.lexApartSpec).at G).post enc Tryz.prog Tryz.f4 false true false false) := by
  refine returnsInHanded_of_row (C := Tryz.checked) (s := OpenSpec.ofChange Rows.lexApartSpec) own started (by kernel_rfl) Tryz.func4
    (witness_row_atRef (enc := enc) (C := Tryz.checked) false (W0 os) #[.string ⟨#[]⟩] (World.laidAll_os _ _ _) (by kernel_rfl) (by kernel_rfl) (by kernel_rfl) (witness_row os enc)) ?_
  intro W base args ds gs before hval0 hW hcnd _ hsz0 hL _ _
  have hsz : (DataW.weightsEach Tryz.prog (Tryz.f4.params.toList ++ (OpenSpec.ofChange Rows.lexApartSpec).bare.plain.varTypes Tryz.prog) (ds ++ gs)).all (· ≤ reachBytes) = true := hsz0
  have hval : ∀ (j : Nat) t v, Tryz.f4.params[j]? = some t → args[j]? = some v → Value.okWide Tryz.prog W .any base t v := hval0
  have hW' := hW
  obtain ⟨p, q, hA0, hV, rfl, hfz, hnd⟩ := hW
  have hA : DataW.TrodAll enc Tryz.prog W 0 (fun _ => true) true Tryz.f4.params.toList args.toList ds p := hA0
  rw [Tryz.params4] at hA hval hsz
  obtain ⟨v0, vs0, d0, ds0, p0, q0, hargs, rfl, rfl, h0, r0⟩ := trodAll_cons hA
  obtain ⟨rfl, rfl, rfl⟩ := trodAll_nil r0
  obtain rfl : args = #[v0] := by cases args; simp_all
  obtain ⟨rfl, rfl⟩ := trodVars_none hV
  obtain ⟨a0, rfl, rfl, rfl, y0⟩ := open_string Tryz.underlying9 (hval 0 9 v0 rfl rfl) h0
  have w0 : a0.size ≤ 140737488351232 := by
    have z := sized_string hsz (j := 0) (t := 9) rfl rfl
    rw [Array.length_toList] at z
    exact z
  have hL' : laidMet Tryz.prog Rows.lexApartRow.laid W := hL
  have hT : Print.PowTab W := Lib.tabIs_of_head (g := 3) (t := 173) (e := 62) (n := 20) (by kernel_rfl) (by kernel_rfl) Tryz.underlying173 Tryz.underlying62 (by kernel_rfl) (by kernel_rfl) hL'.tail.tail
  have hR : Print.RangeVar W := by
    obtain ⟨a, s, h, _⟩ := laid_sentinel (g := 2) (ti := 66) (tp := 178) (te := 180) (ts := 9) hL'.tail.tail.tail.tail (by kernel_rfl) (by kernel_rfl) Tryz.underlying66 (rowErr) Tryz.underlying178 Tryz.underlying180 rfl rfl Tryz.underlying9 (by kernel_rfl) (by kernel_rfl)
    exact ⟨_, _, h⟩
  clear hA0 hval0 hsz0 hsz
  refine (lawcall W a0 w0 hT hR).mono fun e W' ⟨he, bel⟩ => ?_
  subst he
  exact ⟨_, rfl, _, _, _, [], _, [], hW', trodAll_mk1 (shut_bool Tryz.underlying4 _), (trodAll_cons_mk (shut_string Tryz.underlying9 y0) trodAll_mk0), rfl, bel.frame _, fun h => by cases h⟩
theorem said : Rows.LexApartSaid :=
  OpenClaim.holds_of_cond 4 Tryz.f4 rfl rfl rfl rfl rfl rfl rfl ⟨rfl, rfl, rfl, rfl, rfl⟩ rfl rfl rfl rfl rfl (by kernel_rfl) Tryz.func4 (by kernel_rfl)
    (of_decide_eq_true (by kernel_rfl)) (by unfold Func.isWrapper; first | (rw [if_pos (by decide +kernel)]; kernel_rfl) | (rw [if_neg (by decide +kernel)]; exact ⟨rfl, rfl⟩))
    (fun os started H enc _ F => by rw [OpenClaim.pre_eq_preRow]; exact lifted os started H enc F)
theorem plain (f : FuncId) (fn : Func) (hf : Tryz.pinned.checked.prog.funcNamed "fluxion/fluxionlaw16.LexApart" = some f) (hfn : Tryz.pinned.checked.prog.funcs[f]? = some fn) :
    true = Tryz.pinned.checked.prog.looks [] ∧ ∀ (j : Nat) t, fn.params[j]? = some t → Tryz.pinned.checked.prog.wantsStandIn t = false := by
  obtain rfl : f = 4 := Option.some.inj ((show Tryz.prog.funcNamed "fluxion/fluxionlaw16.LexApart" = some 4 by kernel_rfl).symm.trans hf) |>.symm
  obtain rfl : fn = Tryz.f4 := (Option.some.inj (Tryz.func4.symm.trans hfn)).symm
  refine ⟨by kernel_rfl, fun j t ht => ?_⟩
  rw [Tryz.params4] at ht
  have hall : ∀ t ∈ Tryz.f4.params, Tryz.prog.wantsStandIn t = false := of_decide_eq_true (by kernel_rfl)
  exact hall t (by rw [Tryz.params4]; exact Array.mem_of_getElem? ht)
theorem card : Rows.LexApartCardSaid :=
  Claim7.holds_tied_plain_at .later [] _ _ _ _ said (fun _ h => by cases h) (by kernel_rfl) (fun _ h => by cases h) lexApart_row_tie rfl ⟨rfl, rfl⟩ (by kernel_rfl) rfl plain (by kernel_rfl)
#print axioms card
end Go.Proofs.YtibaoacjjcgjlaaGreatDoor.lexApart
namespace Go.Proofs.YtibaoacjjcgjlaaGreatDoor
theorem lexApart_holds : Rows.LexApartCardSaid := lexApart.card
end Go.Proofs.YtibaoacjjcgjlaaGreatDoor
