/- For every text and every place, line and column (and the number of lines) are as the reference says, or both refuse; the text is cut to 300 bytes, as the statement has it. No other condition. -/
import Derived.Test.YtdmjehepfkgpgaaHPlaceOfx
import Derived.Test.YtdmjehepfkgpgaaVPure
namespace Go.Proofs.Ytdmjehepfkgpgaa.Pure
open Go.RowKit Go.Plus Go.Proofs.Ytdmjehepfkgpgaa.HPlaceOf Go.Proofs.YtdmjehepfkgpgaaW.PrintWords Go.Proofs.YtdmjehepfkgpgaaW.PrintLast Go.Proofs.YtdmjehepfkgpgaaW.PrintMore
set_option linter.unusedVariables false
set_option linter.unusedSimpArgs false
/-- How many line feeds the first n bytes have. -/
def feeds (s : ByteArray) (n : Nat) : Nat := (s.data.toList.take n).count 10
theorem feeds_zero (s : ByteArray) : feeds s 0 = 0 := by simp [feeds]
theorem feeds_succ (s : ByteArray) (n : Nat) (h : n < s.size) : feeds s (n + 1) = feeds s n + if bt s n = 10 then 1 else 0 := by
  unfold feeds
  have hl : n < s.data.toList.length := by rw [size_list]; exact h
  rw [List.take_succ_eq_append_getElem hl, List.count_append, bt_get h]
  have e : List.count 10 [s.data.toList[n]] = if s.data.toList[n] = 10 then 1 else 0 := by
    rw [List.count_singleton]; simp
  rw [e]
  congr 1
  have : (s.data.toList[n] = 10) ↔ ((s.data.toList[n].toNat : Int) = 10) := by
    rw [← UInt8.toNat_inj]
    constructor
    · intro h; rw [h]; rfl
    · intro h; have : s.data.toList[n].toNat = 10 := by omega
      rw [this]; rfl
  simp only [this]
theorem feeds_le (s : ByteArray) (n : Nat) : feeds s n ≤ n := by
  unfold feeds
  exact Nat.le_trans List.count_le_length (List.length_take_le _ _)
theorem count_feeds (s : ByteArray) (n : Nat) : strings_Count.f (s.extract 0 n) (⟨#[10]⟩ : ByteArray) = some (feeds s n : Int) := by
  unfold strings_Count.f
  rw [if_pos (by rfl), extract_list]; rfl
theorem column_some {s : ByteArray} {n : Nat} (h : n ≤ s.size) (hs : s.size ≤ 140737488355328) : place_column.f s n = some ((n : Int) - place_column.n s n + 1) := by
  unfold place_column.f; rw [if_pos (by omega)]; simp
theorem ofRef_l0 (s : ByteArray) (hs : s.size ≤ 140737488355328) (at_ : Nat) (ha : at_ ≤ s.size) : ∀ (d i : Nat), i + d = at_ →
    Ev (fun k => gramaryeref01_Of.l0 k s at_ (1 + feeds s i) (i - place_column.n s i + 1) i) (1 + (feeds s at_ : Int), (at_ : Int) - place_column.n s at_ + 1, 0) := by
  intro d
  induction d with
  | zero =>
    intro i h
    obtain rfl : i = at_ := by omega
    refine Ev.step (fun k => by rw [gramaryeref01_Of.l0, if_neg (by omega)]) (Ev.now _)
  | succ d ih =>
    intro i h
    have hc := place_column.n_le s i
    have hf := feeds_le s i
    have hn : feeds s (i + 1) = _ := feeds_succ s i (by omega)
    have hcn : place_column.n s (i + 1) = if bt s i = 10 then i + 1 else place_column.n s i := rfl
    have ih := ih (i + 1) (by omega)
    by_cases hb : bt s (i : Int) = 10
    · rw [if_pos hb] at hn hcn
      refine Ev.step (fun k => ?_) ih
      rw [gramaryeref01_Of.l0, if_pos (by omega), if_pos (by omega), if_pos (by omega), if_pos hb, wrap_id (by omega), wrap_id (by omega), hn, hcn]
      congr 1 <;> omega
    · rw [if_neg hb] at hn hcn
      refine Ev.step (fun k => ?_) ih
      rw [gramaryeref01_Of.l0, if_pos (by omega), if_pos (by omega), if_pos (by omega), if_neg hb, wrap_id (by omega), wrap_id (by omega), hn, hcn]
      congr 1 <;> omega
theorem ofRef_ev (s : ByteArray) (hs : s.size ≤ 140737488355328) (n : Nat) (h : n ≤ s.size) : Ev (fun k => gramaryeref01_Of.f k s n) (1 + (feeds s n : Int), (n : Int) - place_column.n s n + 1, 0) := by
  unfold gramaryeref01_Of.f
  refine Ev.ite_neg (by omega) ?_
  have := ofRef_l0 s hs n h n 0 (by omega)
  simp only [feeds_zero, place_column.n] at this
  refine Ev.step (fun k => ?_) this
  rw [gramaryeref01_Of.j0, if_neg (by simp; omega)]
  rfl
theorem ofRef_bad (s : ByteArray) (a : Int) (h : a < 0 ∨ a > (s.size : Int)) : Ev (fun k => gramaryeref01_Of.f k s a) (0, 0, 2) := by
  unfold gramaryeref01_Of.f
  by_cases h0 : a < 0
  · refine Ev.ite_pos h0 (Ev.step (fun k => ?_) (Ev.now _))
    rw [gramaryeref01_Of.j0, if_pos rfl]
  · refine Ev.ite_neg h0 (Ev.step (fun k => ?_) (Ev.now _))
    rw [gramaryeref01_Of.j0, if_pos (by simp; omega)]
theorem of_ev (s : ByteArray) (hs : s.size ≤ 140737488355328) (n : Nat) (h : n ≤ s.size) : Ev (fun k => place_Of.f k s n) (1 + (feeds s n : Int), (n : Int) - place_column.n s n + 1, 0) := by
  unfold place_Of.f
  have hf := feeds_le s n
  refine Ev.ite_neg (by omega) (Ev.step (fun k => ?_) (Ev.now _))
  rw [place_Of.j0, if_neg (by simp; omega), if_pos (by omega), if_pos (by omega), Int.toNat_natCast, count_feeds, Option.bind_some, column_some h hs, Option.bind_some, wrap_id (by omega)]
theorem of_bad (s : ByteArray) (a : Int) (h : a < 0 ∨ a > (s.size : Int)) : Ev (fun k => place_Of.f k s a) (0, 0, 2) := by
  unfold place_Of.f
  by_cases h0 : a < 0
  · refine Ev.ite_pos h0 (Ev.step (fun k => ?_) (Ev.now _))
    rw [place_Of.j0, if_pos rfl]
  · refine Ev.ite_neg h0 (Ev.step (fun k => ?_) (Ev.now _))
    rw [place_Of.j0, if_pos (by simp; omega)]
theorem lines_some (s : ByteArray) (hs : s.size ≤ 140737488355328) : place_Lines.f s = some (1 + (feeds s s.size : Int)) := by
  unfold place_Lines.f
  have h := count_feeds s s.size
  have e : s.extract 0 s.size = s := by simp
  rw [e] at h
  have hf := feeds_le s s.size
  rw [h, Option.bind_some, wrap_id (by omega)]
theorem short_some (s : ByteArray) : ∃ t : ByteArray, gramaryelaw01_short.f s = some t ∧ t.size ≤ 300 := by
  unfold gramaryelaw01_short.f
  have h : mn (s.size : Int) 300 = (if s.size ≤ 300 then (s.size : Int) else 300) := by unfold mn; split <;> split <;> omega
  refine ⟨_, by rw [if_pos (by rw [h]; split <;> omega), if_pos (by rw [h]; split <;> omega)], ?_⟩
  rw [ByteArray.size_extract, h]
  split <;> omega
theorem works_ev : Ev (fun k => gramaryelaw01_works.f k) true := by
  unfold gramaryelaw01_works.f
  have h := of_ev (⟨#[97, 10, 98, 99]⟩ : ByteArray) (by decide) 3 (by decide)
  refine Ev.bind h ?_
  have e1 : feeds (⟨#[97, 10, 98, 99]⟩ : ByteArray) 3 = 1 := by decide
  have e2 : place_column.n (⟨#[97, 10, 98, 99]⟩ : ByteArray) 3 = 2 := by decide
  have e3 : feeds (⟨#[97, 10, 98, 99]⟩ : ByteArray) 4 = 1 := by decide
  simp only [e1, e2]
  refine Ev.const ?_
  rw [if_pos (by decide), if_pos (by decide), if_pos (by decide), lines_some _ (by decide)]
  rfl
theorem PlaceOf : gramaryelaw01_PlaceOf.Pure := by
  intro a0 a1 h0 h1
  obtain ⟨t, ht, hs⟩ := short_some a0
  refine Ev.rounds (g := fun k => gramaryelaw01_PlaceOf.f k a0 a1) ?_
  unfold gramaryelaw01_PlaceOf.f
  refine Ev.bind0 ht ?_
  suffices key : ∀ r : Int × Int × Int, Ev (fun k => place_Of.f k t a1) r → Ev (fun k => gramaryeref01_Of.f k t a1) r → Ev _ true by
    by_cases hb : a1 < 0 ∨ a1 > (t.size : Int)
    · exact key _ (of_bad t a1 hb) (ofRef_bad t a1 hb)
    · obtain ⟨n, rfl⟩ := Int.eq_ofNat_of_zero_le (show 0 ≤ a1 by omega)
      exact key _ (of_ev t (by omega) n (by omega)) (ofRef_ev t (by omega) n (by omega))
  intro r h1 h2
  refine Ev.bind h1 (Ev.bind h2 (Ev.bind (ofRef_ev t (by omega) t.size (Nat.le_refl _)) ?_))
  exact Ev.ite_pos rfl (Ev.ite_pos rfl (Ev.ite_pos rfl (Ev.bind0 (lines_some t (by omega)) (Ev.ite_pos rfl (Ev.bind works_ev (Ev.now true))))))

end Go.Proofs.Ytdmjehepfkgpgaa.Pure
