/- Plain laws on lines: lex.Lines answers as the document's Lines, for texts of at most 1048576 bytes. -/
import Derived.Test.YtnafcffecneebaaDoorPuNames
import Derived.Test.YtnafcffecneebaaDoorB1
import Derived.Test.YtnafcffecneebaaDoorA1
import Derived.Test.YtnafcffecneebaaDoorA9
namespace Go.Proofs.YtnafcffecneebaaDoor.Print
open Go.RowKit Go.Proofs.YtnafcffecneebaaDoorW.PrintWords Go.Proofs.YtnafcffecneebaaDoorW.PrintLast Go.Proofs.YtnafcffecneebaaDoorW.PrintMore
set_option linter.unusedVariables false
set_option linter.unusedSimpArgs false

theorem same_loop (a : List ByteArray) (hs : a.length ≤ 4611686018427387904) : ∀ (m i : Nat), a.length - i = m → i ≤ a.length → Ev (fun k => fluxionref16_SameTexts.l0 k a a (i : Int)) true
  | 0, i, hm, hi => by
    refine Ev.step (f := fun _ => some true) (fun k => ?_) (Ev.now _)
    simp only [fluxionref16_SameTexts.l0]; rw [if_neg (by omega)]
  | m + 1, i, hm, hi => by
    refine Ev.step (fun k => ?_) (same_loop a hs m (i + 1) (by omega) (by omega))
    simp only [fluxionref16_SameTexts.l0]; rw [if_pos (by omega), if_pos (by omega), if_pos (by omega), wrap_id (by omega) (by omega)]; simp
theorem same_ev (a : List ByteArray) (hs : a.length ≤ 4611686018427387904) : Ev (fun k => fluxionref16_SameTexts.f k a a) true := by
  refine Ev.congr (fun k => ?_) (same_loop a hs a.length 0 (by omega) (by omega))
  unfold fluxionref16_SameTexts.f; rw [if_pos rfl]; rfl
theorem size_len (s : ByteArray) : s.size = s.data.toList.length := by cases s; rfl
/-- The lines of bytes: the line under way, and the lines so far. -/
def linesG : List UInt8 → List UInt8 → List ByteArray → List ByteArray × Int
  | [], cur, out => if cur = [] then (out, 0) else ([], 19)
  | c :: r, cur, out => if c = 10 then linesG r [] (out ++ [⟨cur.toArray⟩]) else linesG r (cur ++ [c]) out
theorem linesG_length : ∀ (l cur : List UInt8) (out : List ByteArray), (linesG l cur out).1.length ≤ out.length + l.length
  | [], cur, out => by unfold linesG; split <;> simp
  | c :: r, cur, out => by
    unfold linesG
    split
    · have := linesG_length r [] (out ++ [⟨cur.toArray⟩]); simp at this ⊢; omega
    · have := linesG_length r (cur ++ [c]) out; simp at this ⊢; omega
theorem linesG_none : ∀ (l cur : List UInt8) (out : List ByteArray), ¬ 0 ≤ Lib.indexByte l 10 → linesG l cur out = if cur ++ l = [] then (out, 0) else ([], 19)
  | [], cur, out, h => by simp [linesG]
  | c :: r, cur, out, h => by
    unfold Lib.indexByte at h
    by_cases hc : c = 10
    · subst hc; simp at h
    · have hc' : (c == 10) = false := by simpa using hc
      rw [hc'] at h
      simp only [Bool.false_eq_true, if_false] at h
      have h2 : ¬ 0 ≤ Lib.indexByte r 10 := by
        split at h
        · rename_i he; have : Lib.indexByte r 10 = -1 := by simpa using he
          omega
        · intro h3; exact h (by omega)
      unfold linesG
      rw [if_neg hc, linesG_none r (cur ++ [c]) out h2]
      simp
theorem linesG_some : ∀ (l cur : List UInt8) (out : List ByteArray) (i : Nat), Lib.indexByte l 10 = (i : Int) → linesG l cur out = linesG (l.drop (i + 1)) [] (out ++ [⟨(cur ++ l.take i).toArray⟩])
  | [], cur, out, i, h => by simp [Lib.indexByte] at h
  | c :: r, cur, out, i, h => by
    unfold Lib.indexByte at h
    by_cases hc : c = 10
    · subst hc
      have hi : i = 0 := by simp at h; omega
      subst hi
      show (if (10 : UInt8) = 10 then _ else _) = _
      rw [if_pos rfl]; simp
    · have hc' : (c == 10) = false := by simpa using hc
      rw [hc'] at h
      simp only [Bool.false_eq_true, if_false] at h
      have hge := Lib.indexByte_ge r 10
      split at h
      · omega
      · rename_i hq
        have hq : Lib.indexByte r 10 ≠ -1 := by simpa using hq
        have hr : Lib.indexByte r 10 + 1 = (i : Int) := h
        obtain ⟨j, rfl⟩ : ∃ j, i = j + 1 := ⟨i - 1, by omega⟩
        have := linesG_some r (cur ++ [c]) out j (by omega)
        show (if c = 10 then _ else _) = _
        rw [if_neg hc, this]; simp
theorem lines_ev : ∀ (n : Nat) (s : ByteArray) (out : List ByteArray), s.size ≤ n → n ≤ 1048576 → out.length + s.size ≤ 1048576 → Ev (fun k => lex_Lines.l0 k s out) (linesG s.data.toList [] out)
  | n, s, out, hn, hb, hl => by
    have hsz := size_len s
    by_cases he : s.toList = []
    · have e : s.data.toList = [] := by rw [← Go.ByteArray.toList_eq]; exact he
      rw [e]
      exact Ev.at 1 (fun k => by simp only [lex_Lines.l0]; rw [if_pos he]; rfl)
    · have hne : s.data.toList ≠ [] := by rw [← Go.ByteArray.toList_eq]; exact he
      have hpos : 0 < s.size := by
        rw [hsz]; exact List.length_pos_iff.2 hne
      have hcut : strings_Cut.f s ⟨#[10]⟩ = some (cutLF s) := by unfold strings_Cut.f; rw [if_pos ⟨rfl, by omega⟩]
      by_cases hi : 0 ≤ lfAt s
      · obtain ⟨i, hii⟩ : ∃ i : Nat, lfAt s = (i : Int) := ⟨(lfAt s).toNat, by omega⟩
        have hlt := lfAt_lt s
        have hc : cutLF s = (s.extract 0 i, s.extract (i + 1) s.size, true) := by unfold cutLF; rw [if_pos hi, hii]; rfl
        have hrs : (s.extract (i + 1) s.size).size = s.size - (i + 1) := by simp [ByteArray.size_extract]
        match n, hn with
        | 0, hn => omega
        | n + 1, hn =>
          have ih := lines_ev n (s.extract (i + 1) s.size) (out ++ [s.extract 0 i]) (by rw [hrs]; omega) (by omega) (by rw [hrs]; simp; omega)
          rw [linesG_some s.data.toList [] out i hii, List.nil_append]
          rw [Lib.extract_to_end] at ih
          have e0 : (⟨(s.data.toList.take i).toArray⟩ : ByteArray) = s.extract 0 i := by
            refine Go.WideShapes.bytes_inj ?_
            rw [Lib.extract_data]; simp
          rw [e0]
          refine Ev.step (fun k => ?_) ih
          simp only [lex_Lines.l0]; rw [if_neg he, hcut, hc, Option.bind_some, if_pos rfl, if_pos (by omega)]
      · rw [linesG_none s.data.toList [] out hi, List.nil_append, if_neg hne]
        refine Ev.at 1 (fun k => ?_)
        have hc : cutLF s = (s, ⟨#[]⟩, false) := by unfold cutLF; rw [if_neg hi]
        simp only [lex_Lines.l0]; rw [if_neg he, hcut, hc, Option.bind_some, if_neg (by intro h; cases h)]
theorem bt_list (s : ByteArray) (i : Nat) (h : i < s.data.toList.length) : bt s (i : Int) = ((s.data.toList[i]).toNat : Int) := by
  have h' : i < s.size := by rw [size_len]; exact h
  rw [← bt_at s (i : Int) h']; rfl
theorem reflines_loop (s : ByteArray) (hs : s.size ≤ 1048576) : ∀ (m i fr : Nat) (out : List ByteArray), s.size - i = m → i ≤ s.size → fr ≤ i → out.length ≤ i →
    Ev (fun k => fluxionref16_Lines.l0 k s out (fr : Int) (i : Int)) (linesG (s.data.toList.drop i) ((s.data.toList.take i).drop fr) out)
  | 0, i, fr, out, hm, hi, hf, ho => by
    have hsz := size_len s
    have e : i = s.size := by omega
    subst e
    rw [hsz, List.drop_length, List.take_length]
    refine Ev.at 1 (fun k => ?_)
    simp only [fluxionref16_Lines.l0]
    rw [if_neg (by omega)]
    unfold linesG
    by_cases h : fr < s.size
    · rw [if_pos (by omega), if_neg (fun c => by have := congrArg List.length c; simp at this; omega)]
    · rw [if_neg (by omega), if_pos (List.drop_eq_nil_of_le (by omega))]
  | m + 1, i, fr, out, hm, hi, hf, ho => by
    have hsz := size_len s
    have hlt : i < s.size := by omega
    have hlt' : i < s.data.toList.length := by omega
    have hb := bt_list s i hlt'
    have ed : s.data.toList.drop i = s.data.toList[i] :: s.data.toList.drop (i + 1) := List.drop_eq_getElem_cons hlt'
    rw [ed]
    by_cases hc : s.data.toList[i] = 10
    · have hbt : bt s (i : Int) = 10 := by rw [hb, hc]; rfl
      have ih := reflines_loop s hs m (i + 1) (i + 1) (out ++ [s.extract fr i]) (by omega) (by omega) (Nat.le_refl _) (by simp; omega)
      have e1 : (s.data.toList.take (i + 1)).drop (i + 1) = [] := List.drop_eq_nil_of_le (by simp; omega)
      rw [e1] at ih
      have e0 : (⟨((s.data.toList.take i).drop fr).toArray⟩ : ByteArray) = s.extract fr i := by
        refine Go.WideShapes.bytes_inj ?_
        rw [Lib.extract_data, ← List.drop_take]
      show Ev _ (if s.data.toList[i] = 10 then linesG (s.data.toList.drop (i + 1)) [] (out ++ [⟨((s.data.toList.take i).drop fr).toArray⟩]) else _)
      rw [if_pos hc, e0]
      refine Ev.step (fun k => ?_) ih
      simp only [fluxionref16_Lines.l0]
      rw [if_pos (by omega), if_pos (by omega), if_pos hbt, if_pos (by omega), if_pos (by omega), if_pos (by omega), if_pos (by omega), wrap_id (by omega) (by omega)]; rfl
    · have hbt : ¬ bt s (i : Int) = 10 := fun h => hc (UInt8.toNat_inj.1 (by rw [hb] at h; rw [show (10 : UInt8).toNat = 10 from rfl]; omega))
      have ih := reflines_loop s hs m (i + 1) fr out (by omega) (by omega) (by omega) (by omega)
      have e1 : (s.data.toList.take (i + 1)).drop fr = (s.data.toList.take i).drop fr ++ [s.data.toList[i]] := by
        rw [List.take_succ_eq_append_getElem hlt', List.drop_append_of_le_length (by simp; omega)]
      rw [e1] at ih
      show Ev _ (if s.data.toList[i] = 10 then _ else linesG (s.data.toList.drop (i + 1)) ((s.data.toList.take i).drop fr ++ [s.data.toList[i]]) out)
      rw [if_neg hc]
      refine Ev.step (fun k => ?_) ih
      simp only [fluxionref16_Lines.l0]
      rw [if_pos (by omega), if_pos (by omega), if_neg hbt, wrap_id (by omega) (by omega)]; rfl
end Go.Proofs.YtnafcffecneebaaDoor.Print
