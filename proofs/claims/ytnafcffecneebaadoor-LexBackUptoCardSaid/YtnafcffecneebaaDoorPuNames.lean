/- Plain laws on words: lex.plain, natural, Hidden and Name answer as the document's; known. No condition beyond those written. -/
import Derived.Test.YtnafcffecneebaaDoorHPlain
import Derived.Test.YtnafcffecneebaaDoorB3
import Derived.Test.YtnafcffecneebaaDoorB3
import Derived.Test.YtnafcffecneebaaDoorB5
import Derived.Test.YtnafcffecneebaaDoorA6
import Derived.Test.YtnafcffecneebaaDoorA5
import Derived.Test.YtnafcffecneebaaDoorA5
import Derived.Test.YtnafcffecneebaaDoorA4
import Derived.Test.YtnafcffecneebaaDoorA7
namespace Go.Proofs.YtnafcffecneebaaDoor.Print
open Go.RowKit Go.Proofs.YtnafcffecneebaaDoorW.PrintWords Go.Proofs.YtnafcffecneebaaDoorW.PrintLast Go.Proofs.YtnafcffecneebaaDoorW.PrintMore
set_option linter.unusedVariables false
set_option linter.unusedSimpArgs false

theorem known_ev : Ev (fun k => fluxionlaw16_known.f k) true := Ev.of (fun k => fluxionlaw16_known.mono k) (k := 40) (by decide +kernel)
theorem wrap_id {x : Int} (h0 : -9223372036854775808 ≤ x) (h1 : x ≤ 9223372036854775807) : wrap64 x = x := by
  unfold wrap64; omega
theorem Ev.at {α : Type} {g : Nat → Option α} {r : α} (n : Nat) (h : ∀ k, g (k + n) = some r) : Ev g r :=
  ⟨n, fun k hk => by rw [show k = (k - n) + n by omega]; exact h _⟩
theorem toList_len (s : ByteArray) : s.toList.length = s.size := by rw [Go.ByteArray.toList_eq]; cases s; rfl
theorem inB_iff (a b c : Int) : inB a b c = true ↔ a ≤ c ∧ c ≤ b := by simp [inB]

/-! The document's digits -/
def endS (r : ByteArray) : Bool := if r.size = 1 then true else if r.size > 1 then (bt r 0 != 48) else false
theorem digits_loop (r : ByteArray) (hs : r.size ≤ 140737488351232) : ∀ (m i : Nat), r.size - i = m → i ≤ r.size →
    Ev (fun k => fluxionref16_digits.l0 k r (i : Int)) (if ∀ j, j < r.size → i ≤ j → digAt r j = true then endS r else false)
  | 0, i, hm, hi => by
    rw [if_pos (fun j hj hij => by omega)]
    refine Ev.at 1 (fun k => ?_)
    simp only [fluxionref16_digits.l0]
    rw [if_neg (by omega)]
    unfold endS
    by_cases h1 : r.size = 1
    · rw [if_pos h1, if_pos (by omega)]
    · rw [if_neg h1, if_neg (by omega)]
      by_cases h2 : r.size > 1
      · rw [if_pos h2, if_pos (by omega), if_pos (by omega)]
      · rw [if_neg h2, if_neg (by omega)]
  | m + 1, i, hm, hi => by
    have hlt : i < r.size := by omega
    have ih := digits_loop r hs m (i + 1) (by omega) (by omega)
    by_cases c : digAt r i = true
    · have c' := (inB_iff _ _ _).1 c
      have e : (∀ j, j < r.size → i ≤ j → digAt r j = true) ↔ (∀ j, j < r.size → i + 1 ≤ j → digAt r j = true) :=
        ⟨fun h j hj hij => h j hj (by omega), fun h j hj hij => by
          by_cases e : j = i
          · rw [e]; exact c
          · exact h j hj (by omega)⟩
      simp only [e]
      refine Ev.step (fun k => ?_) ih
      simp only [fluxionref16_digits.l0]
      rw [if_pos (by omega), if_pos (by omega), if_neg (by omega), if_neg (by omega), wrap_id (by omega) (by omega)]; rfl
    · rw [if_neg (fun h => c (h i hlt (Nat.le_refl _)))]
      refine Ev.at 1 (fun k => ?_)
      simp only [fluxionref16_digits.l0]
      rw [if_pos (by omega), if_pos (by omega)]
      by_cases c1 : bt r (i : Int) < 48
      · rw [if_pos c1]
      · rw [if_neg c1, if_pos (by
          have : ¬ (48 ≤ bt r (i : Int) ∧ bt r (i : Int) ≤ 57) := fun h => c ((inB_iff _ _ _).2 h)
          omega)]
theorem natB_end (r : ByteArray) : natB r = if ∀ j, j < r.size → 0 ≤ j → digAt r j = true then endS r else false := by
  have hl := toList_len r
  unfold natB endS
  by_cases h : ∀ j, j < r.size → digAt r j = true
  · rw [if_pos h, if_pos (fun j hj _ => h j hj)]
    by_cases h0 : r.size = 0
    · have e : r.toList = [] := List.eq_nil_of_length_eq_zero (by omega)
      rw [e, if_neg (by omega), if_neg (by omega)]; rfl
    · have hne : (r.toList != ([] : List UInt8)) = true := by
        have : r.toList ≠ [] := fun e => by rw [e] at hl; simp at hl; omega
        simpa using this
      rw [hne]
      by_cases h1 : r.size = 1
      · rw [if_pos h1]
        cases hb : (bt r 0 != 48) with
        | true => simp
        | false =>
          have hb : bt r 0 = 48 := by simpa using hb
          have hpos : 0 < r.size := by omega
          have hx : ((r[0]'hpos).toNat : Int) = 48 := (bt_at r 0 hpos).trans hb
          have e : r.toList = [48] := by
            rw [Go.ByteArray.toList_eq]
            have hll : r.data.toList.length = 1 := by rw [← Go.ByteArray.toList_eq]; omega
            obtain ⟨x, hx2⟩ := List.length_eq_one_iff.1 hll
            rw [hx2]
            have : (r[0]'hpos) = x := by
              have e2 : r.data.toList[0]'(by omega) = x := by simp [hx2]
              rw [← e2]; rfl
            rw [this] at hx
            have : x.toNat = 48 := by omega
            have : x = 48 := UInt8.toNat_inj.1 (by rw [this]; rfl)
            rw [this]
          rw [e]; rfl
      · rw [if_neg h1, if_pos (by omega)]
        have e : (r.toList == ([48] : List UInt8)) = false := by
          have : r.toList ≠ [48] := fun e => by rw [e] at hl; simp at hl; omega
          simpa using this
        rw [e]; simp
  · rw [if_neg h, if_neg (fun c => h (fun j hj => c j hj (Nat.zero_le _)))]
theorem digits_ev (r : ByteArray) (hs : r.size ≤ 140737488351232) : Ev (fun k => fluxionref16_digits.f k r) (natB r) := by
  rw [natB_end]
  exact digits_loop r hs r.size 0 (by omega) (by omega)
/-! Hidden names -/
def hidB (s : ByteArray) : Bool := if Lib.hasPrefix s.data.toList [126] = true then (natB (s.extract 1 s.size) && decide (s.size ≤ 32)) else false
theorem rest_eq (s : ByteArray) (h : Lib.hasPrefix s.data.toList [126] = true) : (⟨(Lib.trimPrefix s.data.toList [126]).toArray⟩ : ByteArray) = s.extract 1 s.size := by
  refine Go.WideShapes.bytes_inj ?_
  rw [Lib.extract_to_end]
  unfold Lib.trimPrefix
  rw [if_pos h]; rfl
theorem prefix_iff (s : ByteArray) : Lib.hasPrefix s.data.toList [126] = true ↔ 0 < s.size ∧ bt s 0 = 126 := by
  have hsz : s.size = s.data.toList.length := by cases s; rfl
  unfold Lib.hasPrefix
  cases hl : s.data.toList with
  | nil => simp [hsz, hl]
  | cons x r =>
    have hpos : 0 < s.size := by rw [hsz, hl]; simp
    have hx := bt_at s 0 hpos
    have e2 : (s[0]'hpos) = x := by
      have e3 : s.data.toList[0]'(by rw [hl]; simp) = x := by simp [hl]
      rw [← e3]; rfl
    have hx2 : (x.toNat : Int) = bt s 0 := by rw [← e2]; exact hx
    constructor
    · intro h
      have : (126 : UInt8) = x := by simpa [List.isPrefixOf] using h
      subst this
      exact ⟨hpos, by rw [← hx2]; rfl⟩
    · rintro ⟨_, h⟩
      rw [← hx2] at h
      have : x = 126 := UInt8.toNat_inj.1 (by rw [show (126 : UInt8).toNat = 126 from rfl]; omega)
      simp [List.isPrefixOf, this]
theorem rest_size (s : ByteArray) : (s.extract 1 s.size).size = s.size - 1 := by simp [ByteArray.size_extract]
theorem hidden_eq (s : ByteArray) (hs : s.size ≤ 140737488351232) : lex_Hidden.f s = some (hidB s) := by
  unfold lex_Hidden.f strings_CutPrefix.f hidB
  simp only [Option.bind_some]
  by_cases h : Lib.hasPrefix s.data.toList [126] = true
  · rw [if_pos h, if_pos h, rest_eq s h]
    unfold lex_natural.f
    rw [if_pos (by rw [rest_size]; omega)]
    simp only [Option.bind_some]
    cases natB (s.extract 1 s.size) with
    | true => rw [if_pos rfl]; simp; omega
    | false => rw [if_neg (by decide)]; rfl
  · rw [if_neg h, if_neg h]
theorem natB_empty (r : ByteArray) (h : r.size = 0) : natB r = false := by
  rw [natB_end, if_pos (fun j hj _ => by omega)]
  unfold endS; rw [if_neg (by omega), if_neg (by omega)]
theorem refhidden_ev (s : ByteArray) (hs : s.size ≤ 140737488351232) : Ev (fun k => fluxionref16_Hidden.f k s) (hidB s) := by
  have hd := digits_ev (s.extract 1 s.size) (by rw [rest_size]; omega)
  unfold hidB
  by_cases h32 : s.size ≤ 32
  · by_cases h1 : s.size > 1
    · by_cases hp : bt s 0 = 126
      · rw [if_pos ((prefix_iff s).2 ⟨by omega, hp⟩), decide_eq_true h32, Bool.and_true]
        refine Ev.congr (f := fun k => (fluxionref16_digits.f k (s.extract 1 s.size)).bind fun t => some t) (fun k => ?_) (Ev.bind hd (Ev.now _))
        unfold fluxionref16_Hidden.f
        rw [if_pos (by omega), if_pos (by omega), if_pos (by omega), if_pos hp, if_pos (by omega)]
      · rw [if_neg (fun c => hp ((prefix_iff s).1 c).2)]
        refine Ev.congr (f := fun _ => some false) (fun k => ?_) (Ev.now _)
        unfold fluxionref16_Hidden.f
        rw [if_pos (by omega), if_pos (by omega), if_pos (by omega), if_neg hp]
    · have e : (if Lib.hasPrefix s.data.toList [126] = true then natB (s.extract 1 s.size) && decide (s.size ≤ 32) else false) = false := by
        rw [natB_empty _ (by rw [rest_size]; omega)]; simp
      rw [e]
      refine Ev.congr (f := fun _ => some false) (fun k => ?_) (Ev.now _)
      unfold fluxionref16_Hidden.f
      rw [if_pos (by omega), if_neg (by omega)]
  · have e : (if Lib.hasPrefix s.data.toList [126] = true then natB (s.extract 1 s.size) && decide (s.size ≤ 32) else false) = false := by
      rw [decide_eq_false h32, Bool.and_false]; simp
    rw [e]
    refine Ev.congr (f := fun _ => some false) (fun k => ?_) (Ev.now _)
    unfold fluxionref16_Hidden.f
    rw [if_neg (by omega)]
/-! Plain names -/
theorem mayK_0 (s : ByteArray) : mayK s 0 3 = inB 97 122 (bt s 0) := by
  show (inB 97 122 (bt s ((0 : Nat) : Int)) || _ && decide (0 < 0) || _ && decide (0 < 0)) = _
  simp
theorem mayK_pos (s : ByteArray) (i : Nat) (h : 0 < i) : mayK s i 3 = (inB 97 122 (bt s (i : Int)) || inB 48 57 (bt s (i : Int)) || inB 95 95 (bt s (i : Int))) := by
  show (inB 97 122 (bt s (i : Int)) || _ && decide (0 < i) || _ && decide (0 < i)) = _
  simp [h]
theorem letter_eq (a : Int) : fluxionref16_letter.f a = some (inB 97 122 a) := by
  unfold fluxionref16_letter.f inB
  by_cases h : a ≥ 97
  · rw [if_pos h]; simp [show (97 : Int) ≤ a from h]
  · rw [if_neg h]; simp [show ¬ (97 : Int) ≤ a from h]
theorem plain_loop (s : ByteArray) (hs : s.size ≤ 140737488351232) : ∀ (m i : Nat), s.size - i = m → i ≤ s.size → 0 < i →
    Ev (fun k => fluxionref16_Plain.l0 k s (i : Int)) (decide (∀ j, j < s.size → i ≤ j → mayK s j 3 = true))
  | 0, i, hm, hi, h0 => by
    rw [decide_eq_true (fun j hj hij => by omega)]
    refine Ev.at 1 (fun k => ?_)
    simp only [fluxionref16_Plain.l0]
    rw [if_neg (by omega)]
  | m + 1, i, hm, hi, h0 => by
    have hlt : i < s.size := by omega
    have ih := plain_loop s hs m (i + 1) (by omega) (by omega) (by omega)
    have hmk := mayK_pos s i h0
    have hgo : ∀ k, fluxionref16_Plain.l0 (k + 1) s (i : Int) = if mayK s i 3 = true then fluxionref16_Plain.l0 k s ((i + 1 : Nat) : Int) else some false := fun k => by
      simp only [fluxionref16_Plain.l0]
      rw [if_pos (by omega), if_pos (by omega), letter_eq, Option.bind_some, hmk, wrap_id (by omega) (by omega)]
      cases hl : inB 97 122 (bt s (i : Int)) with
      | true => rw [if_pos rfl]; simp
      | false =>
        rw [if_neg (by decide), Bool.false_or]
        by_cases h95 : bt s (i : Int) = 95
        · rw [if_pos h95, h95]; simp [inB]
        · rw [if_neg h95]
          have e95 : inB 95 95 (bt s (i : Int)) = false := by
            cases hb : inB 95 95 (bt s (i : Int)) with
            | false => rfl
            | true => have := (inB_iff _ _ _).1 hb; omega
          rw [e95, Bool.or_false]
          by_cases c1 : bt s (i : Int) < 48
          · rw [if_pos c1, if_neg (fun h => by have := (inB_iff _ _ _).1 h; omega)]
          · rw [if_neg c1]
            by_cases c2 : bt s (i : Int) > 57
            · rw [if_pos c2, if_neg (fun h => by have := (inB_iff _ _ _).1 h; omega)]
            · rw [if_neg c2, if_pos ((inB_iff _ _ _).2 (by omega))]; rfl
    by_cases c : mayK s i 3 = true
    · have e : (∀ j, j < s.size → i ≤ j → mayK s j 3 = true) ↔ (∀ j, j < s.size → i + 1 ≤ j → mayK s j 3 = true) :=
        ⟨fun h j hj hij => h j hj (by omega), fun h j hj hij => by
          by_cases e : j = i
          · rw [e]; exact c
          · exact h j hj (by omega)⟩
      rw [decide_eq_decide.2 e]
      exact Ev.step (fun k => by rw [hgo k, if_pos c]) ih
    · rw [decide_eq_false (fun h => c (h i hlt (Nat.le_refl _)))]
      exact Ev.at 1 (fun k => by rw [hgo k, if_neg c])
theorem refplain_ev (s : ByteArray) (hs : s.size ≤ 140737488351232) : Ev (fun k => fluxionref16_Plain.f k s) (plainB s) := by
  have hl := toList_len s
  unfold plainB
  by_cases h0 : s.size = 0
  · have e : s.toList = [] := List.eq_nil_of_length_eq_zero (by omega)
    rw [if_pos (fun j hj => by omega), e]
    refine Ev.at 1 (fun k => ?_)
    unfold fluxionref16_Plain.f; rw [if_pos (by omega)]; simp only [fluxionref16_Plain.j0, if_true]; rfl
  · have hne : (s.toList != ([] : List UInt8)) = true := by
      have : s.toList ≠ [] := fun e => by rw [e] at hl; simp at hl; omega
      simpa using this
    rw [hne, Bool.true_and]
    by_cases h32 : s.size ≤ 32
    · rw [decide_eq_true h32]
      have hj : ∀ b, Ev (fun k => fluxionref16_Plain.j0 k s (!(inB 97 122 (bt s 0)))) b → Ev (fun k => fluxionref16_Plain.f k s) b := fun b h => by
        refine Ev.congr (fun k => ?_) h
        unfold fluxionref16_Plain.f; rw [if_neg (by omega), if_neg (by omega), if_pos (by omega), letter_eq]; rfl
      refine hj _ ?_
      cases hb : inB 97 122 (bt s 0) with
      | true =>
        have hp := plain_loop s hs (s.size - 1) 1 rfl (by omega) (by omega)
        refine Ev.step (fun k => by simp only [fluxionref16_Plain.j0, Bool.not_true, Bool.false_eq_true, if_false]; rfl) ?_
        have e : (if ∀ j, j < s.size → mayK s j 3 = true then true else false) = decide (∀ j, j < s.size → 1 ≤ j → mayK s j 3 = true) := by
          by_cases h : ∀ j, j < s.size → mayK s j 3 = true
          · rw [if_pos h, decide_eq_true (fun j hj _ => h j hj)]
          · rw [if_neg h, decide_eq_false (fun c => h (fun j hj => by
              by_cases ej : j = 0
              · rw [ej, mayK_0]; exact hb
              · exact c j hj (by omega)))]
        rw [e]; exact hp
      | false =>
        rw [if_neg (fun c => by have := c 0 (by omega); rw [mayK_0, hb] at this; cases this)]
        exact Ev.at 1 (fun k => by simp only [fluxionref16_Plain.j0, Bool.not_false, if_true])
    · have e : (if ∀ j, j < s.size → mayK s j 3 = true then decide (s.size ≤ 32) else false) = false := by
        rw [decide_eq_false h32]; simp
      rw [e]
      refine Ev.at 1 (fun k => ?_)
      unfold fluxionref16_Plain.f; rw [if_neg (by omega), if_pos (by omega)]; simp only [fluxionref16_Plain.j0, if_true]
theorem name_eq (s : ByteArray) (hs : s.size ≤ 140737488351232) : lex_Name.f s = some (if plainB s = true then 0 else if hidB s = true then 0 else 15) := by
  unfold lex_Name.f lex_plain.f
  rw [if_pos hs, Option.bind_some, hidden_eq s hs]
  by_cases h : plainB s = true
  · rw [if_pos h, if_pos h]
  · rw [if_neg h, if_neg h, Option.bind_some]
    by_cases h2 : hidB s = true
    · rw [if_pos h2, if_pos h2]
    · rw [if_neg h2, if_neg h2]
theorem refname_ev (s : ByteArray) (hs : s.size ≤ 140737488351232) : Ev (fun k => fluxionref16_Name.f k s) (if plainB s = true then 0 else if hidB s = true then 0 else 15) := by
  refine Ev.bind (refplain_ev s hs) ?_
  by_cases h : plainB s = true
  · simp only [if_pos h]; exact Ev.now _
  · simp only [if_neg h]
    refine Ev.bind (refhidden_ev s hs) ?_
    by_cases h2 : hidB s = true
    · simp only [if_pos h2]; exact Ev.now _
    · simp only [if_neg h2]; exact Ev.now _
end Go.Proofs.YtnafcffecneebaaDoor.Print
