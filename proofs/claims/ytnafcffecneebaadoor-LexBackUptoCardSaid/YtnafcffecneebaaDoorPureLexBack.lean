/- LexBack: words joined are split again into these, lines as a text are its lines, and back; for inputs of at most 1048576 values and letters. -/
import Derived.Test.YtnafcffecneebaaDoorF2
import Derived.Test.YtnafcffecneebaaDoorPuBack
namespace Go.Proofs.YtnafcffecneebaaDoor.Pure
open Go.RowKit Go.Proofs.YtnafcffecneebaaDoor.Print Go.Proofs.YtnafcffecneebaaDoorW.PrintWords Go.Proofs.YtnafcffecneebaaDoorW.PrintLast
set_option linter.unusedVariables false
def no10 (l : List UInt8) : Bool := l.all (fun b => b != 10)
theorem bulk_splitR (s : ByteArray) (h : (splitR s).2 = 0) : (splitR s).1.length ≤ s.size + 1 := by
  have hl := splitG_length s.data.toList []
  have hsz := size_len s
  unfold splitR
  split
  · simp
  · split
    · simp only; omega
    · simp
theorem bulk_linesR (s : ByteArray) : (linesR s).1.length ≤ s.size := by
  have hl := linesG_length s.data.toList [] []
  have hsz := size_len s
  unfold linesR; simp at hl; omega
theorem j6_ev (s : ByteArray) (hs : s.size ≤ 1048576) : Ev (fun k => fluxionlaw16_LexBack.j6 k s false) true := by
  refine Ev.step (fun k => by simp only [fluxionlaw16_LexBack.j6]; rw [if_neg (by decide)]) ?_
  refine Ev.bind (linesR_ev s hs) ?_
  have hn := bulk_linesR s
  by_cases h : (linesR s).2 = 0
  · simp only [if_pos h]
    have hb := lines_back s h
    have hsz := size_len s
    have ht : lex_Text.f (linesR s).1 = some s := by
      unfold lex_Text.f
      rw [hb, mk_data, if_pos ⟨by omega, by omega⟩]
    rw [ht]
    simp only [Option.bind_some, if_true]
    exact Ev.bind known_ev (Ev.now _)
  · simp only [if_neg h]
    exact Ev.bind known_ev (Ev.now _)
theorem j5_ev (s : ByteArray) (hs : s.size ≤ 1048576) : Ev (fun k => fluxionlaw16_LexBack.j5 k s) true := by
  refine Ev.step (f := fun k => (lex_Split.f k s).bind fun bt124 => (if bt124.2 = 0 then ((lex_Join.f bt124.1).bind fun t128 => (fluxionlaw16_LexBack.j6 k s (t128.toList != s.toList))) else (fluxionlaw16_LexBack.j6 k s false))) (fun k => by simp only [fluxionlaw16_LexBack.j5]) ?_
  refine Ev.bind (split_ev s hs) ?_
  by_cases h : (splitR s).2 = 0
  · simp only [if_pos h]
    have hb := split_back s h
    have hsz := size_len s
    have hn := bulk_splitR s h
    have ht : lex_Join.f (splitR s).1 = some s := by
      unfold lex_Join.f
      rw [hb, mk_data, if_pos ⟨by omega, by omega⟩]
    rw [ht]
    simp only [Option.bind_some, bne_self_eq_false]
    exact j6_ev s hs
  · simp only [if_neg h]
    exact j6_ev s hs
theorem j4_ev (ls : List ByteArray) (s : ByteArray) (hb : bulkL ls ≤ 1048576) (hs : s.size ≤ 1048576) (whole : Bool) (hw : whole = true → ∀ w ∈ ls, ¬ (10 : UInt8) ∈ w.data.toList) : Ev (fun k => fluxionlaw16_LexBack.j4 k ls s whole) true := by
  cases whole with
  | false => exact Ev.step (fun k => by simp only [fluxionlaw16_LexBack.j4]; rw [if_neg (by decide)]) (j5_ev s hs)
  | true =>
    refine Ev.step (fun k => by simp only [fluxionlaw16_LexBack.j4]; rw [if_pos trivial, text_some ls hb, Option.bind_some]) ?_
    have hl := linesR_ev ⟨(textL ls).toArray⟩ (by rw [mk_size, textL_length]; exact hb)
    rw [show linesR ⟨(textL ls).toArray⟩ = (ls, 0) from by unfold linesR; rw [mk_list, linesG_text ls [] (hw rfl), List.nil_append]] at hl
    refine Ev.bind hl ?_
    simp only [if_true]
    have := length_le_bulk ls
    refine Ev.bind (same_ev ls (by omega)) ?_
    simp only [if_true]
    exact j5_ev s hs
theorem l1_end (ws ls : List ByteArray) (s : ByteArray) (hbw : bulkL ws ≤ 1048576) (hb : bulkL ls ≤ 1048576) (hs : s.size ≤ 1048576) (fine whole : Bool) (hf : fine = true → ws.all wordB = true) (hw : whole = true → ∀ w ∈ ls, ¬ (10 : UInt8) ∈ w.data.toList) :
    Ev (fun k => fluxionlaw16_LexBack.l1 k ws ls s fine whole (ls.length : Int)) true := by
  cases fine with
  | false => exact Ev.step (fun k => by simp only [fluxionlaw16_LexBack.l1]; rw [if_neg (by omega), if_neg (by decide)]) (j4_ev ls s hb hs whole hw)
  | true =>
    refine Ev.step (fun k => by simp only [fluxionlaw16_LexBack.l1]; rw [if_neg (by omega), if_pos trivial, join_some ws hbw, Option.bind_some]) ?_
    have hj := joinL_length ws
    have hl := split_ev ⟨(joinL ws).toArray⟩ (by rw [mk_size]; omega)
    rw [split_join ws (hf rfl)] at hl
    refine Ev.bind hl ?_
    simp only [if_true]
    have := length_le_bulk ws
    refine Ev.bind (same_ev ws (by omega)) ?_
    simp only [if_true]
    exact j4_ev ls s hb hs whole hw
theorem l2_ev (ws ls : List ByteArray) (s : ByteArray) (fine : Bool) (i : Nat) (hi : i < ls.length) (hz : ls[i].size ≤ 1048576) (r : Bool) :
    ∀ (m j : Nat) (whole : Bool), ls[i].size - j = m → j ≤ ls[i].size → Ev (fun k => fluxionlaw16_LexBack.l1 k ws ls s fine (whole && no10 (ls[i].data.toList.drop j)) (wrap64 ((i : Int) + 1))) r →
    Ev (fun k => fluxionlaw16_LexBack.l2 k ws ls s fine whole (i : Int) (j : Int)) r
  | 0, j, whole, hm, hj, h => by
    have hr := rdOf_get ls i hi
    have hsz := size_len ls[i]
    rw [List.drop_eq_nil_of_le (by omega), show no10 [] = true from rfl, Bool.and_true] at h
    refine Ev.step (fun k => ?_) h
    simp only [fluxionlaw16_LexBack.l2]; rw [if_pos (by omega), if_pos (by omega), hr, if_neg (by omega)]
  | m + 1, j, whole, hm, hj, h => by
    have hr := rdOf_get ls i hi
    have hsz := size_len ls[i]
    have hlt : j < ls[i].data.toList.length := by omega
    have hb := bt_list ls[i] j hlt
    rw [List.drop_eq_getElem_cons hlt] at h
    cases whole with
    | false =>
      have ih := l2_ev ws ls s fine i hi hz r m (j + 1) false (by omega) (by omega) (by simpa using h)
      refine Ev.step (fun k => ?_) ih
      simp only [fluxionlaw16_LexBack.l2]; rw [if_pos (by omega), if_pos (by omega), hr, if_pos (by omega), if_neg (by decide), wrap_id (by omega) (by omega)]; rfl
    | true =>
      have e : (bt ls[i] (j : Int) != 10) = (ls[i].data.toList[j] != 10) := by
        rw [hb]
        by_cases hc : ls[i].data.toList[j] = 10
        · rw [hc]; rfl
        · have h1 : ¬ ((ls[i].data.toList[j].toNat : Int) = 10) := fun c => hc (UInt8.toNat_inj.1 (by rw [show (10 : UInt8).toNat = 10 from rfl]; omega))
          rw [bne_iff_ne.2 h1, bne_iff_ne.2 hc]
      have ih := l2_ev ws ls s fine i hi hz r m (j + 1) (ls[i].data.toList[j] != 10) (by omega) (by omega) (by simpa [no10] using h)
      refine Ev.step (fun k => ?_) ih
      simp only [fluxionlaw16_LexBack.l2]; rw [if_pos (by omega), if_pos (by omega), hr, if_pos (by omega), if_pos trivial, if_pos (by omega), e, wrap_id (by omega) (by omega)]; rfl
theorem l1_ev (ws ls : List ByteArray) (s : ByteArray) (hbw : bulkL ws ≤ 1048576) (hb : bulkL ls ≤ 1048576) (hs : s.size ≤ 1048576) (fine : Bool) (hf : fine = true → ws.all wordB = true) :
    ∀ (m i : Nat) (whole : Bool), ls.length - i = m → i ≤ ls.length → (whole = true → ∀ w ∈ ls.take i, ¬ (10 : UInt8) ∈ w.data.toList) →
    Ev (fun k => fluxionlaw16_LexBack.l1 k ws ls s fine whole (i : Int)) true
  | 0, i, whole, hm, hi, hw => by
    have e : i = ls.length := by omega
    subst e
    rw [List.take_length] at hw
    exact l1_end ws ls s hbw hb hs fine whole hf hw
  | m + 1, i, whole, hm, hi, hw => by
    have hlt : i < ls.length := by omega
    have hlb := length_le_bulk ls
    have hz := bulk_mem ls ls[i] (List.getElem_mem hlt)
    have ih := l1_ev ws ls s hbw hb hs fine hf m (i + 1) (whole && no10 (ls[i].data.toList.drop 0)) (by omega) (by omega) (fun h w hmem => by
      obtain ⟨h1, h2⟩ := Bool.and_eq_true_iff.1 h
      rw [List.take_succ_eq_append_getElem hlt] at hmem
      rcases List.mem_append.1 hmem with x | x
      · exact hw h1 w x
      · rw [List.mem_singleton.1 x]
        intro c
        have := List.all_eq_true.1 h2 10 (by simpa using c)
        exact absurd this (by decide))
    refine Ev.step (fun k => ?_) (l2_ev ws ls s fine i hlt (by omega) true ls[i].size 0 whole (by omega) (by omega) (by rw [wrap_id (by omega) (by omega)]; exact ih))
    simp only [fluxionlaw16_LexBack.l1]; rw [if_pos (by omega)]; rfl
theorem l0_ev (ws ls : List ByteArray) (s : ByteArray) (hbw : bulkL ws ≤ 1048576) (hb : bulkL ls ≤ 1048576) (hs : s.size ≤ 1048576) :
    ∀ (m i : Nat) (fine : Bool), ws.length - i = m → i ≤ ws.length → (fine = true → (ws.take i).all wordB = true) →
    Ev (fun k => fluxionlaw16_LexBack.l0 k ws ls s fine true (i : Int)) true
  | 0, i, fine, hm, hi, hf => by
    have e : i = ws.length := by omega
    subst e
    rw [List.take_length] at hf
    refine Ev.step (fun k => ?_) (l1_ev ws ls s hbw hb hs fine hf ls.length 0 true (by omega) (by omega) (fun _ w hw => by simp at hw))
    simp only [fluxionlaw16_LexBack.l0]; rw [if_neg (by omega)]; rfl
  | m + 1, i, fine, hm, hi, hf => by
    have hlt : i < ws.length := by omega
    have hlb := length_le_bulk ws
    have hz := bulk_mem ws ws[i] (List.getElem_mem hlt)
    have hr := rdOf_get ws i hlt
    cases fine with
    | false =>
      have ih := l0_ev ws ls s hbw hb hs m (i + 1) false (by omega) (by omega) (fun h => by cases h)
      refine Ev.step (fun k => ?_) ih
      simp only [fluxionlaw16_LexBack.l0]; rw [if_pos (by omega), if_neg (by decide), wrap_id (by omega) (by omega)]; rfl
    | true =>
      have ih := l0_ev ws ls s hbw hb hs m (i + 1) (wordB ws[i]) (by omega) (by omega) (fun h => by
        rw [List.take_succ_eq_append_getElem hlt, List.all_append, hf rfl]; simp [h])
      refine Ev.step (f := fun k => (fluxionref16_Word.f k ws[i]).bind fun t => fluxionlaw16_LexBack.l0 k ws ls s t true ((i + 1 : Nat) : Int)) (fun k => ?_) (Ev.bind (wordB_ev ws[i] (by omega)) ih)
      simp only [fluxionlaw16_LexBack.l0]; rw [if_pos (by omega), if_pos trivial, if_pos (by omega), hr, wrap_id (by omega) (by omega)]; rfl
theorem LexBack (ws ls : List ByteArray) (s : ByteArray) (hbw : bulkL ws ≤ 1048576) (hb : bulkL ls ≤ 1048576) (hs : s.size ≤ 1048576) : ∃ k, fluxionlaw16_LexBack.f k ws ls s = some true := by
  refine Ev.rounds (g := fun k => fluxionlaw16_LexBack.f k ws ls s) ?_
  have hk : Ev (fun k => fluxionlaw16_LexBack.j0 k ws ls s true) true :=
    Ev.step (fun k => by simp only [fluxionlaw16_LexBack.j0]; rw [if_pos trivial]) (Ev.bind known_ev (Ev.now _))
  unfold fluxionlaw16_LexBack.f
  by_cases h : (ws.length : Int) > 100
  · simp only [if_pos h]; exact hk
  · simp only [if_neg h]
    by_cases h2 : (ls.length : Int) > 100
    · rw [decide_eq_true h2]; exact hk
    · rw [decide_eq_false h2]
      exact Ev.step (fun k => by simp only [fluxionlaw16_LexBack.j0]; rw [if_neg (by decide)]; rfl) (l0_ev ws ls s hbw hb hs ws.length 0 true (by omega) (by omega) (fun _ => rfl))
end Go.Proofs.YtnafcffecneebaaDoor.Pure
