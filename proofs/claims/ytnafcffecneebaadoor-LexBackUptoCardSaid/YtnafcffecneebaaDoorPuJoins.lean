/- Plain laws on joined words and texts of lines: lex.Join and lex.Text answer as the document's, and lead back; for inputs of at most 1048576 values and letters. -/
import Derived.Test.YtnafcffecneebaaDoorPuSplits
import Derived.Test.YtnafcffecneebaaDoorHJoin
import Derived.Test.YtnafcffecneebaaDoorA10
import Derived.Test.YtnafcffecneebaaDoorA11
namespace Go.Proofs.YtnafcffecneebaaDoor.Print
open Go.RowKit Go.Proofs.YtnafcffecneebaaDoorW.PrintWords Go.Proofs.YtnafcffecneebaaDoorW.PrintLast Go.Proofs.YtnafcffecneebaaDoorW.PrintMore
set_option linter.unusedVariables false
set_option linter.unusedSimpArgs false

def bulkL : List ByteArray → Nat
  | [] => 0
  | x :: r => x.size + 1 + bulkL r
theorem bulk_cons (x : ByteArray) (r : List ByteArray) : bulkL (x :: r) = x.size + 1 + bulkL r := rfl
theorem textL_cons (x : ByteArray) (r : List ByteArray) : textL (x :: r) = x.data.toList ++ 10 :: textL r := by simp [textL]
theorem textL_length : ∀ ls : List ByteArray, (textL ls).length = bulkL ls
  | [] => rfl
  | x :: r => by
    have := textL_length r
    have hx := size_len x
    rw [textL_cons, bulk_cons]; simp; omega
theorem length_le_bulk : ∀ ls : List ByteArray, ls.length ≤ bulkL ls
  | [] => Nat.le_refl _
  | x :: r => by have := length_le_bulk r; rw [bulk_cons]; simp; omega
theorem bulk_drop (ls : List ByteArray) (i : Nat) (h : i < ls.length) : bulkL (ls.drop i) = ls[i].size + 1 + bulkL (ls.drop (i + 1)) := by
  rw [List.drop_eq_getElem_cons h, bulk_cons]
theorem bulk_mem : ∀ (ls : List ByteArray) (x : ByteArray), x ∈ ls → x.size ≤ bulkL ls
  | [], x, h => by cases h
  | y :: r, x, h => by
    rw [bulk_cons]
    rcases List.mem_cons.1 h with rfl | h
    · omega
    · have := bulk_mem r x h; omega
theorem mk_data (s : ByteArray) : (⟨s.data.toList.toArray⟩ : ByteArray) = s := by cases s; rfl
theorem mk_list (l : List UInt8) : (⟨l.toArray⟩ : ByteArray).data.toList = l := rfl
theorem mk_size (l : List UInt8) : (⟨l.toArray⟩ : ByteArray).size = l.length := rfl

theorem reftext_loop (ls : List ByteArray) (hs : ls.length ≤ 1048576) : ∀ (m i : Nat) (acc : ByteArray), ls.length - i = m → i ≤ ls.length → acc.size + bulkL (ls.drop i) ≤ 1048576 →
    Ev (fun k => fluxionref16_Text.l0 k ls acc (i : Int)) ⟨(acc.data.toList ++ textL (ls.drop i)).toArray⟩
  | 0, i, acc, hm, hi, hb => by
    rw [List.drop_eq_nil_of_le (by omega)]
    refine Ev.at 1 (fun k => ?_)
    simp only [fluxionref16_Text.l0]; rw [if_neg (by omega), show textL [] = [] from rfl, List.append_nil, mk_data]
  | m + 1, i, acc, hm, hi, hb => by
    have hlt : i < ls.length := by omega
    have hr := rdOf_get ls i hlt
    have hbd := bulk_drop ls i hlt
    have hsz : ((acc ++ ls[i]) ++ (⟨#[10]⟩ : ByteArray)).size = acc.size + ls[i].size + 1 := by rw [ByteArray.size_append, ByteArray.size_append]; rfl
    have hsz2 : (acc ++ ls[i]).size = acc.size + ls[i].size := by rw [ByteArray.size_append]
    have ih := reftext_loop ls hs m (i + 1) ((acc ++ ls[i]) ++ (⟨#[10]⟩ : ByteArray)) (by omega) (by omega) (by omega)
    have e : ((acc ++ ls[i]) ++ (⟨#[10]⟩ : ByteArray)).data.toList ++ textL (ls.drop (i + 1)) = acc.data.toList ++ textL (ls.drop i) := by
      rw [List.drop_eq_getElem_cons hlt, textL_cons]; simp [ByteArray.data_append]
    rw [e] at ih
    refine Ev.step (fun k => ?_) ih
    simp only [fluxionref16_Text.l0]; rw [if_pos (by omega), if_pos (by omega), hr, if_pos (by omega), if_pos (by omega), wrap_id (by omega) (by omega)]; rfl
theorem reftext_ev (ls : List ByteArray) (hb : bulkL ls ≤ 1048576) : Ev (fun k => fluxionref16_Text.f k ls) ⟨(textL ls).toArray⟩ := by
  have := length_le_bulk ls
  exact reftext_loop ls (by omega) ls.length 0 ⟨#[]⟩ (by omega) (by omega) (by show 0 + _ ≤ _; simpa using hb)
def tailL (ls : List ByteArray) : List UInt8 := Lib.joinTail [32] (ls.map (·.data.toList))
theorem tailL_cons (x : ByteArray) (r : List ByteArray) : tailL (x :: r) = 32 :: (x.data.toList ++ tailL r) := by simp [tailL, Lib.joinTail]
theorem joinL_cons (x : ByteArray) (r : List ByteArray) : joinL (x :: r) = x.data.toList ++ tailL r := Lib.join_cons _ _ _
theorem tailL_join : ∀ (ls : List ByteArray), ls ≠ [] → tailL ls = 32 :: joinL ls
  | [], h => absurd rfl h
  | x :: r, _ => by rw [tailL_cons, joinL_cons]
theorem tailL_length : ∀ ls : List ByteArray, (tailL ls).length = bulkL ls
  | [] => rfl
  | x :: r => by
    have := tailL_length r
    have hx := size_len x
    rw [tailL_cons, bulk_cons]; simp; omega
theorem joinL_length (ls : List ByteArray) : (joinL ls).length ≤ bulkL ls := by
  cases ls with
  | nil => exact Nat.le_refl _
  | cons x r =>
    have := tailL_length r
    have hx := size_len x
    rw [joinL_cons, bulk_cons]; simp; omega
theorem refjoin_loop (ls : List ByteArray) (hs : ls.length ≤ 1048576) : ∀ (m i : Nat) (acc : ByteArray), ls.length - i = m → 0 < i → i ≤ ls.length → acc.size + bulkL (ls.drop i) ≤ 1048576 →
    Ev (fun k => fluxionref16_Join.l0 k ls acc (i : Int)) ⟨(acc.data.toList ++ tailL (ls.drop i)).toArray⟩
  | 0, i, acc, hm, h0, hi, hb => by
    rw [List.drop_eq_nil_of_le (by omega)]
    refine Ev.at 1 (fun k => ?_)
    simp only [fluxionref16_Join.l0]; rw [if_neg (by omega), show tailL [] = [] from rfl, List.append_nil, mk_data]
  | m + 1, i, acc, hm, h0, hi, hb => by
    have hlt : i < ls.length := by omega
    have hr := rdOf_get ls i hlt
    have hbd := bulk_drop ls i hlt
    have hsz : ((acc ++ (⟨#[32]⟩ : ByteArray)) ++ ls[i]).size = acc.size + 1 + ls[i].size := by rw [ByteArray.size_append, ByteArray.size_append]; rfl
    have hsz2 : (acc ++ (⟨#[32]⟩ : ByteArray)).size = acc.size + 1 := by rw [ByteArray.size_append]; rfl
    have ih := refjoin_loop ls hs m (i + 1) ((acc ++ (⟨#[32]⟩ : ByteArray)) ++ ls[i]) (by omega) (by omega) (by omega) (by omega)
    have e : ((acc ++ (⟨#[32]⟩ : ByteArray)) ++ ls[i]).data.toList ++ tailL (ls.drop (i + 1)) = acc.data.toList ++ tailL (ls.drop i) := by
      rw [List.drop_eq_getElem_cons hlt, tailL_cons]; simp [ByteArray.data_append]
    rw [e] at ih
    refine Ev.step (fun k => ?_) ih
    simp only [fluxionref16_Join.l0]; rw [if_pos (by omega), if_pos (by omega), if_pos (by omega), if_pos (by omega), hr, if_pos (by omega), wrap_id (by omega) (by omega)]; rfl
theorem refjoin_ev (ls : List ByteArray) (hb : bulkL ls ≤ 1048576) : Ev (fun k => fluxionref16_Join.f k ls) ⟨(joinL ls).toArray⟩ := by
  have hl := length_le_bulk ls
  cases ls with
  | nil =>
    refine Ev.at 1 (fun k => ?_)
    simp only [fluxionref16_Join.f, fluxionref16_Join.l0]; rfl
  | cons x r =>
    have hbc := bulk_cons x r
    have h0 : 0 < (x :: r).length := by simp
    have hr := rdOf_get (x :: r) 0 h0
    have h1 := refjoin_loop (x :: r) (by omega) r.length 1 ((⟨#[]⟩ : ByteArray) ++ x) (by simp) (by omega) (by simp) (by rw [ByteArray.size_append]; show 0 + x.size + bulkL r ≤ _; omega)
    have e : ((⟨#[]⟩ : ByteArray) ++ x).data.toList ++ tailL ((x :: r).drop 1) = joinL (x :: r) := by
      rw [joinL_cons]; simp [ByteArray.data_append]
    rw [e] at h1
    refine Ev.step (fun k => ?_) h1
    unfold fluxionref16_Join.f
    simp only [fluxionref16_Join.l0]
    rw [show ((0 : Int)) = ((0 : Nat) : Int) from rfl, if_pos (by omega), if_neg (by omega), if_pos (by omega), hr, List.getElem_cons_zero, if_pos (by show 0 + x.size ≤ _; omega), wrap_id (by omega) (by omega)]; rfl
theorem join_some (ls : List ByteArray) (hb : bulkL ls ≤ 1048576) : lex_Join.f ls = some ⟨(joinL ls).toArray⟩ := by
  have hl := length_le_bulk ls
  have hj := joinL_length ls
  unfold lex_Join.f; rw [if_pos ⟨by omega, by omega⟩]
theorem text_some (ls : List ByteArray) (hb : bulkL ls ≤ 1048576) : lex_Text.f ls = some ⟨(textL ls).toArray⟩ := by
  have hl := length_le_bulk ls
  have hj := textL_length ls
  unfold lex_Text.f; rw [if_pos ⟨by omega, by omega⟩]
end Go.Proofs.YtnafcffecneebaaDoor.Print
