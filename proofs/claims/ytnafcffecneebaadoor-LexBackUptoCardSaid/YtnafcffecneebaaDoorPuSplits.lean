/- Plain laws on words of a line: lex.Split answers as the document's Split, for lines of at most 1048576 bytes. -/
import Derived.Test.YtnafcffecneebaaDoorPuLines
import Derived.Test.YtnafcffecneebaaDoorHSplit
import Derived.Test.YtnafcffecneebaaDoorB2
import Derived.Test.YtnafcffecneebaaDoorA3
import Derived.Test.YtnafcffecneebaaDoorA2
namespace Go.Proofs.YtnafcffecneebaaDoor.Print
open Go.RowKit Go.Proofs.YtnafcffecneebaaDoorW.PrintWords Go.Proofs.YtnafcffecneebaaDoorW.PrintLast Go.Proofs.YtnafcffecneebaaDoorW.PrintMore
set_option linter.unusedVariables false
set_option linter.unusedSimpArgs false

theorem indexByte_mem (c : UInt8) : ∀ l : List UInt8, 0 ≤ Lib.indexByte l c ↔ c ∈ l
  | [] => by simp [Lib.indexByte]
  | b :: r => by
    have ih := indexByte_mem c r
    have hge := Lib.indexByte_ge r c
    unfold Lib.indexByte
    by_cases hb : b = c
    · subst hb; simp
    · have hb' : (b == c) = false := by simpa using hb
      rw [hb']
      simp only [Bool.false_eq_true, if_false, List.mem_cons]
      by_cases hq : Lib.indexByte r c = -1
      · rw [hq]
        have : c ∉ r := fun h => by have := ih.2 h; omega
        simp [this, Ne.symm hb]
      · have h1 : (Lib.indexByte r c == -1) = false := by simpa using hq
        rw [h1]
        have : c ∈ r := ih.1 (by omega)
        simp [this]; omega
/-- The pieces between spaces: the piece under way first. -/
def splitG : List UInt8 → List UInt8 → List ByteArray
  | [], cur => [⟨cur.toArray⟩]
  | c :: r, cur => if c = 32 then ⟨cur.toArray⟩ :: splitG r [] else splitG r (cur ++ [c])
theorem splitG_nil (cur : List UInt8) : splitG [] cur = [⟨cur.toArray⟩] := by simp [splitG]
theorem splitG_cons (c : UInt8) (r cur : List UInt8) : splitG (c :: r) cur = if c = 32 then ⟨cur.toArray⟩ :: splitG r [] else splitG r (cur ++ [c]) := by rw [splitG]
theorem splitG_length : ∀ (l cur : List UInt8), (splitG l cur).length ≤ l.length + 1
  | [], cur => by simp [splitG]
  | c :: r, cur => by
    unfold splitG
    split
    · have := splitG_length r []; simp; omega
    · have := splitG_length r (cur ++ [c]); simp; omega
theorem splitG_none : ∀ (l cur : List UInt8), ¬ (32 : UInt8) ∈ l → splitG l cur = [⟨(cur ++ l).toArray⟩]
  | [], cur, h => by simp [splitG]
  | c :: r, cur, h => by
    have hc : ¬ c = 32 := fun e => h (by simp [e])
    unfold splitG
    rw [if_neg hc, splitG_none r (cur ++ [c]) (fun e => h (List.mem_cons_of_mem _ e))]
    simp
theorem splitG_some : ∀ (l cur : List UInt8) (i : Nat), Lib.indexByte l 32 = (i : Int) → splitG l cur = ⟨(cur ++ l.take i).toArray⟩ :: splitG (l.drop (i + 1)) []
  | [], cur, i, h => by simp [Lib.indexByte] at h
  | c :: r, cur, i, h => by
    unfold Lib.indexByte at h
    by_cases hc : c = 32
    · subst hc
      have hi : i = 0 := by simp at h; omega
      subst hi
      show (if (32 : UInt8) = 32 then _ else _) = _
      rw [if_pos rfl]; simp
    · have hc' : (c == 32) = false := by simpa using hc
      rw [hc'] at h
      simp only [Bool.false_eq_true, if_false] at h
      have hge := Lib.indexByte_ge r 32
      split at h
      · omega
      · rename_i hq
        have hq : Lib.indexByte r 32 ≠ -1 := by simpa using hq
        have hr : Lib.indexByte r 32 + 1 = (i : Int) := h
        obtain ⟨j, rfl⟩ : ∃ j, i = j + 1 := ⟨i - 1, by omega⟩
        have := splitG_some r (cur ++ [c]) j (by omega)
        show (if c = 32 then _ else _) = _
        rw [if_neg hc, this]; simp
theorem indexB_sp (s : ByteArray) : Lib.indexB s spB = Lib.indexByte s.data.toList 32 := Lib.index_one s.data.toList 32
theorem wordsOf_eq : ∀ (n : Nat) (s : ByteArray), s.size ≤ n → wordsOf s = splitG s.data.toList []
  | n, s, hn => by
    have hsz := size_len s
    unfold wordsOf
    by_cases hi : 0 ≤ Lib.indexByte s.data.toList 32
    · obtain ⟨i, hii⟩ : ∃ i : Nat, Lib.indexByte s.data.toList 32 = (i : Int) := ⟨(Lib.indexByte s.data.toList 32).toNat, by omega⟩
      have hix : Lib.indexB s spB = (i : Int) := by rw [indexB_sp]; exact hii
      have hlt := indexByte_lt s.data.toList 32
      have hrs : (s.extract (i + spB.size) s.size).size = s.size - (i + 1) := by
        rw [show spB.size = 1 from rfl]; simp [ByteArray.size_extract]
      match n, hn with
      | 0, hn => omega
      | n + 1, hn =>
        have ih := wordsOf_eq n (s.extract (i + spB.size) s.size) (by rw [hrs]; omega)
        rw [Lib.countB_hit s spB i (by decide) hix, Nat.add_comm, Lib.splitB_hit spB 0 _ s i hix, splitG_some s.data.toList [] i hii]
        unfold wordsOf at ih
        rw [ih, Lib.extract_to_end, show spB.size = 1 from rfl]
        congr 1
        refine Go.WideShapes.bytes_inj ?_
        rw [Nat.add_zero, Lib.extract_from_zero]; simp
    · have hix : Lib.indexB s spB = -1 := by rw [indexB_sp]; have := Lib.indexByte_ge s.data.toList 32; omega
      rw [Lib.countB_miss s spB hix, Lib.splitB_zero, splitG_none s.data.toList [] (fun h => hi ((indexByte_mem 32 _).2 h))]
      rfl
def wfine (w : ByteArray) : Bool := decide (w.toList ≠ []) && !decide (0 ≤ lfAt w)
theorem rdOf_get (ws : List ByteArray) (j : Nat) (h : j < ws.length) : rdOf ByteArray.empty ws (j : Int) = ws[j] := by
  simp [rdOf, h]
theorem splits_loop (ws : List ByteArray) (hs : ws.length ≤ 4611686018427387904) : ∀ (m j : Nat), ws.length - j = m → j ≤ ws.length →
    Ev (fun k => lex_Split.l0 k ws ws (ws.length : Int) (j : Int)) (if (ws.drop j).all wfine = true then (ws, 0) else ([], 19))
  | 0, j, hm, hj => by
    rw [show j = ws.length by omega, List.drop_length]
    refine Ev.at 1 (fun k => ?_)
    simp only [lex_Split.l0]; rw [if_neg (by omega)]; rfl
  | m + 1, j, hm, hj => by
    have hlt : j < ws.length := by omega
    have ih := splits_loop ws hs m (j + 1) (by omega) (by omega)
    have hr := rdOf_get ws j hlt
    rw [List.drop_eq_getElem_cons hlt, List.all_cons]
    by_cases h1 : ws[j].toList = []
    · rw [show wfine ws[j] = false by simp [wfine, h1]]
      refine Ev.at 1 (fun k => ?_)
      simp only [lex_Split.l0]; rw [if_pos (by omega), if_pos (by omega), if_pos (by omega), hr, if_pos h1]; rfl
    · have hc : strings_Contains.f ws[j] ⟨#[10]⟩ = some (decide (0 ≤ lfAt ws[j])) := by unfold strings_Contains.f; rw [if_pos rfl]
      by_cases h2 : 0 ≤ lfAt ws[j]
      · rw [show wfine ws[j] = false by simp [wfine, h2]]
        refine Ev.at 1 (fun k => ?_)
        simp only [lex_Split.l0]; rw [if_pos (by omega), if_pos (by omega), if_pos (by omega), hr, if_neg h1, hc, Option.bind_some, decide_eq_true h2, if_pos rfl]; rfl
      · rw [show wfine ws[j] = true by simp [wfine, h1, h2], Bool.true_and]
        refine Ev.step (fun k => ?_) ih
        simp only [lex_Split.l0]; rw [if_pos (by omega), if_pos (by omega), if_pos (by omega), hr, if_neg h1, hc, Option.bind_some, decide_eq_false h2, if_neg (by decide), wrap_id (by omega) (by omega)]; rfl
theorem word_loop (w : ByteArray) (hs : w.size ≤ 1048576) : ∀ (m i : Nat), w.size - i = m → i ≤ w.size →
    Ev (fun k => fluxionref16_Word.l0 k w (i : Int)) (if (w.data.toList.drop i).any (fun b => b == 32 || b == 10) = true then false else decide (0 < w.size))
  | 0, i, hm, hi => by
    have hsz := size_len w
    rw [List.drop_eq_nil_of_le (by omega)]
    refine Ev.at 1 (fun k => ?_)
    simp only [fluxionref16_Word.l0]; rw [if_neg (by omega)]; simp
  | m + 1, i, hm, hi => by
    have hsz := size_len w
    have hlt' : i < w.data.toList.length := by omega
    have ih := word_loop w hs m (i + 1) (by omega) (by omega)
    have hb := bt_list w i hlt'
    rw [List.drop_eq_getElem_cons hlt', List.any_cons]
    by_cases h1 : w.data.toList[i] = 32
    · rw [show (w.data.toList[i] == 32 || w.data.toList[i] == 10) = true by simp [h1]]
      refine Ev.at 1 (fun k => ?_)
      simp only [fluxionref16_Word.l0]; rw [if_pos (by omega), if_pos (by omega), if_pos (by rw [hb, h1]; rfl)]; simp
    · have n1 : ¬ bt w (i : Int) = 32 := fun h => h1 (UInt8.toNat_inj.1 (by rw [hb] at h; rw [show (32 : UInt8).toNat = 32 from rfl]; omega))
      by_cases h2 : w.data.toList[i] = 10
      · rw [show (w.data.toList[i] == 32 || w.data.toList[i] == 10) = true by simp [h2]]
        refine Ev.at 1 (fun k => ?_)
        simp only [fluxionref16_Word.l0]; rw [if_pos (by omega), if_pos (by omega), if_neg n1, if_pos (by rw [hb, h2]; rfl)]; simp
      · have n2 : ¬ bt w (i : Int) = 10 := fun h => h2 (UInt8.toNat_inj.1 (by rw [hb] at h; rw [show (10 : UInt8).toNat = 10 from rfl]; omega))
        rw [show (w.data.toList[i] == 32 || w.data.toList[i] == 10) = false by rw [beq_eq_false_iff_ne.2 h1, beq_eq_false_iff_ne.2 h2]; rfl, Bool.false_or]
        refine Ev.step (fun k => ?_) ih
        simp only [fluxionref16_Word.l0]; rw [if_pos (by omega), if_pos (by omega), if_neg n1, if_neg n2, wrap_id (by omega) (by omega)]; rfl
theorem word_ev (w : ByteArray) (hs : w.size ≤ 1048576) (h32 : ¬ (32 : UInt8) ∈ w.data.toList) : Ev (fun k => fluxionref16_Word.f k w) (wfine w) := by
  have hsz := size_len w
  have h := word_loop w hs w.size 0 (by omega) (by omega)
  rw [List.drop_zero] at h
  have e : (if w.data.toList.any (fun b => b == 32 || b == 10) = true then false else decide (0 < w.size)) = wfine w := by
    have e1 : w.toList = w.data.toList := Go.ByteArray.toList_eq w
    have e2 : (0 ≤ lfAt w) ↔ (10 : UInt8) ∈ w.data.toList := indexByte_mem 10 _
    unfold wfine
    rw [e1]
    by_cases h10 : (10 : UInt8) ∈ w.data.toList
    · rw [decide_eq_true (e2.2 h10), if_pos (List.any_eq_true.2 ⟨10, h10, by decide⟩)]; simp
    · rw [decide_eq_false (fun c => h10 (e2.1 c)), if_neg (fun c => by
        obtain ⟨b, hb, hb2⟩ := List.any_eq_true.1 c
        rcases Bool.or_eq_true_iff.1 hb2 with x | x
        · exact h32 (by rw [← (beq_iff_eq.1 x)]; exact hb)
        · exact h10 (by rw [← (beq_iff_eq.1 x)]; exact hb))]
      simp only [Bool.not_false, Bool.and_true]
      refine decide_eq_decide.2 ?_
      rw [hsz]
      exact ⟨fun h c => by rw [c] at h; simp at h, fun h => List.length_pos_iff.2 h⟩
  rw [e] at h
  exact h
theorem refsplit_loop (s : ByteArray) (hs : s.size ≤ 1048576) : ∀ (m i fr : Nat) (out : List ByteArray), s.size - i = m → i ≤ s.size → fr ≤ i → out.length ≤ i → (¬ (32 : UInt8) ∈ (s.data.toList.take i).drop fr) →
    Ev (fun k => fluxionref16_Split.l0 k s out (fr : Int) (i : Int)) (if (splitG (s.data.toList.drop i) ((s.data.toList.take i).drop fr)).all wfine = true then (out ++ splitG (s.data.toList.drop i) ((s.data.toList.take i).drop fr), 0) else ([], 19))
  | m, i, fr, out, hm, hi, hf, ho, h32 => by
    have hsz := size_len s
    have e0 : (⟨((s.data.toList.take i).drop fr).toArray⟩ : ByteArray) = s.extract fr i := by
      refine Go.WideShapes.bytes_inj ?_
      rw [Lib.extract_data, ← List.drop_take]
    have hxs : (s.extract fr i).size ≤ 1048576 := by simp [ByteArray.size_extract]; omega
    have hw := word_ev (s.extract fr i) hxs (by rw [← e0]; simpa using h32)
    -- a boundary: the piece under way is a word, or not
    have cut : ∀ (rest : List ByteArray) (R : Ev (fun k => fluxionref16_Split.l0 k s (out ++ [s.extract fr i]) ((i + 1 : Nat) : Int) ((i + 1 : Nat) : Int)) (if rest.all wfine = true then ((out ++ [s.extract fr i]) ++ rest, 0) else ([], 19))),
        Ev (fun k => fluxionref16_Split.j1 k s out (fr : Int) (i : Int) true) (if (s.extract fr i :: rest).all wfine = true then (out ++ s.extract fr i :: rest, 0) else ([], 19)) := fun rest R => by
      refine Ev.step (f := fun k => (fluxionref16_Word.f k (s.extract fr i)).bind fun t => if t = true then fluxionref16_Split.l0 k s (out ++ [s.extract fr i]) ((i + 1 : Nat) : Int) ((i + 1 : Nat) : Int) else some ([], 19)) (fun k => ?_) (Ev.bind hw ?_)
      · simp only [fluxionref16_Split.j1, if_true]
        rw [if_pos (by omega), if_pos (by omega), if_pos (by omega), wrap_id (by omega) (by omega)]
        have hl : out.length < 8796093022208 := by omega
        simp only [if_pos hl]; rfl
      · rw [List.all_cons]
        cases wfine (s.extract fr i) with
        | true => simp only [if_true, Bool.true_and]; simpa using R
        | false => simp only [Bool.false_eq_true, if_false, Bool.false_and]; exact Ev.now _
    by_cases hend : i = s.size
    · have e1 : s.data.toList.drop i = [] := List.drop_eq_nil_of_le (by omega)
      rw [e1, splitG_nil, e0]
      refine Ev.step (fun k => ?_) (cut [] ?_)
      · simp only [fluxionref16_Split.l0]; rw [if_pos (by omega), if_pos (by omega)]
      · refine Ev.at 1 (fun k => ?_)
        simp only [fluxionref16_Split.l0]; rw [if_neg (by omega)]; simp
    · have hlt : i < s.size := by omega
      have hlt' : i < s.data.toList.length := by omega
      have hb := bt_list s i hlt'
      match m, hm with
      | 0, hm => omega
      | m + 1, hm =>
        rw [List.drop_eq_getElem_cons hlt']
        by_cases hc : s.data.toList[i] = 32
        · have hbt : bt s (i : Int) = 32 := by rw [hb, hc]; rfl
          have e1 : (s.data.toList.take (i + 1)).drop (i + 1) = [] := List.drop_eq_nil_of_le (by simp; omega)
          have ih := refsplit_loop s hs m (i + 1) (i + 1) (out ++ [s.extract fr i]) (by omega) (by omega) (Nat.le_refl _) (by simp; omega) (by rw [e1]; simp)
          rw [e1] at ih
          have eg : splitG (s.data.toList[i] :: s.data.toList.drop (i + 1)) ((s.data.toList.take i).drop fr) = s.extract fr i :: splitG (s.data.toList.drop (i + 1)) [] := by
            rw [splitG_cons, if_pos hc, e0]
          rw [eg]
          refine Ev.step (fun k => ?_) (cut _ ih)
          simp only [fluxionref16_Split.l0]; rw [if_pos (by omega), if_neg (by omega), if_pos (by omega), if_pos (by omega), show (bt s (i : Int) == 32) = true by simpa using hbt]
        · have hbt : ¬ bt s (i : Int) = 32 := fun h => hc (UInt8.toNat_inj.1 (by rw [hb] at h; rw [show (32 : UInt8).toNat = 32 from rfl]; omega))
          have e1 : (s.data.toList.take (i + 1)).drop fr = (s.data.toList.take i).drop fr ++ [s.data.toList[i]] := by
            rw [List.take_succ_eq_append_getElem hlt', List.drop_append_of_le_length (by simp; omega)]
          have ih := refsplit_loop s hs m (i + 1) fr out (by omega) (by omega) (by omega) (by omega) (by
            rw [e1]; intro h
            rcases List.mem_append.1 h with x | x
            · exact h32 x
            · exact hc (List.mem_singleton.1 x).symm)
          rw [e1] at ih
          have eg : splitG (s.data.toList[i] :: s.data.toList.drop (i + 1)) ((s.data.toList.take i).drop fr) = splitG (s.data.toList.drop (i + 1)) ((s.data.toList.take i).drop fr ++ [s.data.toList[i]]) := by
            rw [splitG_cons, if_neg hc]
          rw [eg]
          refine Ev.step (fun k => ?_) (Ev.step (f := fun k => fluxionref16_Split.l0 k s out (fr : Int) ((i + 1 : Nat) : Int)) (g := fun k => fluxionref16_Split.j1 k s out (fr : Int) (i : Int) false) (fun k => ?_) ih)
          · simp only [fluxionref16_Split.l0]; rw [if_pos (by omega), if_neg (by omega), if_pos (by omega), if_pos (by omega), show (bt s (i : Int) == 32) = false by simpa using hbt]
          · simp only [fluxionref16_Split.j1, Bool.false_eq_true, if_false]; rw [wrap_id (by omega) (by omega)]; rfl
end Go.Proofs.YtnafcffecneebaaDoor.Print
