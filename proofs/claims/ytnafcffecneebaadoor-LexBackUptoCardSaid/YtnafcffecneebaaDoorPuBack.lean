/- Plain laws: words joined are split again into these, texts of lines are cut into these; and back; for inputs of at most 1048576 values and letters. -/
import Derived.Test.YtnafcffecneebaaDoorPuJoins
namespace Go.Proofs.YtnafcffecneebaaDoor.Print
open Go.RowKit Go.Proofs.YtnafcffecneebaaDoorW.PrintWords Go.Proofs.YtnafcffecneebaaDoorW.PrintLast Go.Proofs.YtnafcffecneebaaDoorW.PrintMore
set_option linter.unusedVariables false
set_option linter.unusedSimpArgs false

def wordB (w : ByteArray) : Bool := if w.data.toList.any (fun b => b == 32 || b == 10) = true then false else decide (0 < w.size)
theorem wordB_ev (w : ByteArray) (hs : w.size ≤ 1048576) : Ev (fun k => fluxionref16_Word.f k w) (wordB w) := by
  have h := word_loop w hs w.size 0 (by omega) (by omega)
  rw [List.drop_zero] at h
  exact h
theorem wordB_parts (w : ByteArray) (h : wordB w = true) : ¬ (32 : UInt8) ∈ w.data.toList ∧ ¬ (10 : UInt8) ∈ w.data.toList ∧ 0 < w.size := by
  unfold wordB at h
  split at h
  · cases h
  · rename_i hn
    refine ⟨fun c => hn (List.any_eq_true.2 ⟨32, c, by decide⟩), fun c => hn (List.any_eq_true.2 ⟨10, c, by decide⟩), of_decide_eq_true h⟩
theorem wordB_fine (w : ByteArray) (h : wordB w = true) : wfine w = true := by
  obtain ⟨h1, h2, h3⟩ := wordB_parts w h
  have hsz := size_len w
  have e1 : w.toList = w.data.toList := Go.ByteArray.toList_eq w
  have e2 : (0 ≤ lfAt w) ↔ (10 : UInt8) ∈ w.data.toList := indexByte_mem 10 _
  have hne : w.toList ≠ [] := fun c => by
    rw [e1] at c
    have h0 : w.size = 0 := by rw [hsz, c]; rfl
    omega
  have hlf : ¬ 0 ≤ lfAt w := fun c => h2 (e2.1 c)
  simp [wfine, hne, hlf]
/-- What lex.Split answers. -/
def splitR (s : ByteArray) : List ByteArray × Int := if s.data.toList = [] then ([], 0) else if (splitG s.data.toList []).all wfine = true then (splitG s.data.toList [], 0) else ([], 19)
theorem split_ev (s : ByteArray) (hs : s.size ≤ 1048576) : Ev (fun k => lex_Split.f k s) (splitR s) := by
  have hsz := size_len s
  have e1 : s.toList = s.data.toList := Go.ByteArray.toList_eq s
  unfold splitR
  by_cases he : s.data.toList = []
  · rw [if_pos he]
    refine Ev.at 0 (fun k => ?_)
    unfold lex_Split.f; rw [if_pos (by rw [e1]; exact he)]
  · rw [if_neg he]
    have hw := wordsOf_eq s.size s (Nat.le_refl _)
    have hl := splitG_length s.data.toList []
    have h1 := splits_loop (wordsOf s) (by rw [hw]; omega) (wordsOf s).length 0 (by omega) (by omega)
    simp only [List.drop_zero] at h1
    rw [hw] at h1
    refine Ev.congr (fun k => ?_) h1
    unfold lex_Split.f
    have hS : strings_Split.f s ⟨#[32]⟩ = some (wordsOf s) := by unfold strings_Split.f; rw [if_pos ⟨rfl, by omega⟩]
    rw [if_neg (by rw [e1]; exact he), hS, Option.bind_some, hw]; rfl
theorem splitG_app : ∀ (x t cur : List UInt8), ¬ (32 : UInt8) ∈ x → splitG (x ++ 32 :: t) cur = ⟨(cur ++ x).toArray⟩ :: splitG t []
  | [], t, cur, h => by rw [List.nil_append, splitG_cons, if_pos rfl, List.append_nil]
  | c :: r, t, cur, h => by
    have hc : ¬ c = 32 := fun e => h (by simp [e])
    rw [List.cons_append, splitG_cons, if_neg hc, splitG_app r t (cur ++ [c]) (fun e => h (List.mem_cons_of_mem _ e))]
    simp
theorem splitG_join : ∀ (r : List ByteArray) (x : ByteArray), (∀ w ∈ x :: r, ¬ (32 : UInt8) ∈ w.data.toList) → splitG (joinL (x :: r)) [] = x :: r
  | [], x, h => by
    rw [joinL_cons, show tailL [] = [] from rfl, List.append_nil, splitG_none _ _ (h x (by simp)), List.nil_append, mk_data]
  | y :: r, x, h => by
    have ih := splitG_join r y (fun w hw => h w (List.mem_cons_of_mem _ hw))
    rw [joinL_cons, tailL_join (y :: r) (by simp), splitG_app _ _ _ (h x (by simp)), ih, List.nil_append, mk_data]
theorem split_join (ls : List ByteArray) (h : ls.all wordB = true) : splitR ⟨(joinL ls).toArray⟩ = (ls, 0) := by
  have hp : ∀ w ∈ ls, wordB w = true := List.all_eq_true.1 h
  unfold splitR
  rw [mk_list]
  cases ls with
  | nil => rw [if_pos (show joinL [] = [] from rfl)]
  | cons x r =>
    have hx := wordB_parts x (hp x (by simp))
    have hsx := size_len x
    rw [if_neg (fun c => by have := congrArg List.length c; rw [joinL_cons, List.length_append, List.length_nil] at this; omega)]
    rw [splitG_join r x (fun w hw => (wordB_parts w (hp w hw)).1), if_pos (List.all_eq_true.2 (fun w hw => wordB_fine w (hp w hw)))]
theorem splitG_ne (l cur : List UInt8) : splitG l cur ≠ [] := by
  induction l generalizing cur with
  | nil => rw [splitG_nil]; simp
  | cons c r ih => rw [splitG_cons]; split; simp; exact ih _
theorem join_split : ∀ (l cur : List UInt8), joinL (splitG l cur) = cur ++ l
  | [], cur => by rw [splitG_nil, joinL_cons, show tailL [] = [] from rfl]
  | c :: r, cur => by
    rw [splitG_cons]
    split
    · rename_i hc
      rw [joinL_cons, tailL_join _ (splitG_ne r []), join_split r [], hc, mk_list, List.nil_append]
    · rw [join_split r (cur ++ [c])]; simp
theorem split_back (s : ByteArray) (h : (splitR s).2 = 0) : joinL (splitR s).1 = s.data.toList := by
  unfold splitR at h ⊢
  split
  · rename_i he; rw [he]; rfl
  · split
    · rw [join_split]; rfl
    · rename_i h1 h2
      rw [if_neg h1, if_neg h2] at h; cases h
/-- What lex.Lines answers. -/
def linesR (s : ByteArray) : List ByteArray × Int := linesG s.data.toList [] []
theorem linesR_ev (s : ByteArray) (hs : s.size ≤ 1048576) : Ev (fun k => lex_Lines.f k s) (linesR s) :=
  lines_ev s.size s [] (Nat.le_refl _) hs (by simpa using hs)
theorem linesG_app : ∀ (x t cur : List UInt8) (out : List ByteArray), ¬ (10 : UInt8) ∈ x → linesG (x ++ 10 :: t) cur out = linesG t [] (out ++ [⟨(cur ++ x).toArray⟩])
  | [], t, cur, out, h => by
    show (if (10 : UInt8) = 10 then _ else _) = _
    rw [if_pos rfl, List.append_nil]
  | c :: r, t, cur, out, h => by
    have hc : ¬ c = 10 := fun e => h (by simp [e])
    have ih := linesG_app r t (cur ++ [c]) out (fun e => h (List.mem_cons_of_mem _ e))
    show (if c = 10 then _ else linesG (r ++ 10 :: t) (cur ++ [c]) out) = _
    rw [if_neg hc, ih]; simp
theorem linesG_text : ∀ (ls out : List ByteArray), (∀ w ∈ ls, ¬ (10 : UInt8) ∈ w.data.toList) → linesG (textL ls) [] out = (out ++ ls, 0)
  | [], out, h => by
    show (if ([] : List UInt8) = [] then _ else _) = _
    rw [if_pos rfl, List.append_nil]
  | x :: r, out, h => by
    rw [textL_cons, linesG_app _ _ _ _ (h x (by simp)), linesG_text r _ (fun w hw => h w (List.mem_cons_of_mem _ hw)), List.nil_append, mk_data]; simp
theorem textL_append (a b : List ByteArray) : textL (a ++ b) = textL a ++ textL b := by simp [textL]
theorem linesG_back : ∀ (l cur : List UInt8) (out : List ByteArray), (linesG l cur out).2 = 0 → textL (linesG l cur out).1 = textL out ++ cur ++ l
  | [], cur, out, h => by
    unfold linesG at h ⊢
    split
    · rename_i hc; rw [hc]; simp
    · rename_i hc; rw [if_neg hc] at h; cases h
  | c :: r, cur, out, h => by
    unfold linesG at h ⊢
    split
    · rename_i hc
      rw [if_pos hc] at h
      rw [linesG_back r [] _ h, textL_append, textL_cons, hc, mk_list]; simp [textL]
    · rename_i hc
      rw [if_neg hc] at h
      rw [linesG_back r _ _ h]; simp
theorem lines_back (s : ByteArray) (h : (linesR s).2 = 0) : textL (linesR s).1 = s.data.toList := by
  have := linesG_back s.data.toList [] [] h
  unfold linesR
  rw [this]; simp [textL]
end Go.Proofs.YtnafcffecneebaaDoor.Print
