/- For every text (its first 300 bytes, as the statement has it), every place and every error's number: At undoes Of at every place within the text, and an error's text is as the reference says. No other condition. -/
import Derived.Test.YtdmjehepfkgpgaaDoorHPlaceBackx
import Derived.Test.YtdmjehepfkgpgaaDoorVPure
import Derived.Lib.IndexLaws
import Derived.Lib.ItoaLen
namespace Go.Proofs.YtdmjehepfkgpgaaDoor.Pure
open Go.RowKit Go.Plus Go.Proofs.YtdmjehepfkgpgaaDoor.HPlaceBack Go.Proofs.YtdmjehepfkgpgaaDoorW.PrintWords Go.Proofs.YtdmjehepfkgpgaaDoorW.PrintLast Go.Proofs.YtdmjehepfkgpgaaDoorW.PrintMore
set_option linter.unusedVariables false
set_option linter.unusedSimpArgs false
/-- How many line feeds the first n bytes have. -/
def feeds (s : ByteArray) (n : Nat) : Nat := (s.data.toList.take n).count 10
theorem feeds_zero (s : ByteArray) : feeds s 0 = 0 := by simp [feeds]
theorem feeds_succ (s : ByteArray) (n : Nat) (h : n < s.size) : feeds s (n + 1) = feeds s n + if bt s n = 10 then 1 else 0 := by
  unfold feeds
  have hl : n < s.data.toList.length := by rw [size_list]; exact h
  rw [List.take_succ_eq_append_getElem hl, List.count_append, bt_get h]
  have e : List.count 10 [s.data.toList[n]] = if s.data.toList[n] = 10 then 1 else 0 := by
    rw [List.count_singleton]; simp
  rw [e]
  congr 1
  have : (s.data.toList[n] = 10) ↔ ((s.data.toList[n].toNat : Int) = 10) := by
    rw [← UInt8.toNat_inj]
    constructor
    · intro h; rw [h]; rfl
    · intro h; have : s.data.toList[n].toNat = 10 := by omega
      rw [this]; rfl
  simp only [this]
theorem feeds_le (s : ByteArray) (n : Nat) : feeds s n ≤ n := by
  unfold feeds
  exact Nat.le_trans List.count_le_length (List.length_take_le _ _)
theorem count_feeds (s : ByteArray) (n : Nat) : strings_Count.f (s.extract 0 n) (⟨#[10]⟩ : ByteArray) = some (feeds s n : Int) := by
  unfold strings_Count.f
  rw [if_pos (by rfl), extract_list]; rfl
theorem column_some {s : ByteArray} {n : Nat} (h : n ≤ s.size) (hs : s.size ≤ 140737488355328) : place_column.f s n = some ((n : Int) - place_column.n s n + 1) := by
  unfold place_column.f; rw [if_pos (by omega)]; simp
theorem ofRef_l0 (s : ByteArray) (hs : s.size ≤ 140737488355328) (at_ : Nat) (ha : at_ ≤ s.size) : ∀ (d i : Nat), i + d = at_ →
    Ev (fun k => gramaryeref01_Of.l0 k s at_ (1 + feeds s i) (i - place_column.n s i + 1) i) (1 + (feeds s at_ : Int), (at_ : Int) - place_column.n s at_ + 1, 0) := by
  intro d
  induction d with
  | zero =>
    intro i h
    obtain rfl : i = at_ := by omega
    refine Ev.step (fun k => by rw [gramaryeref01_Of.l0, if_neg (by omega)]) (Ev.now _)
  | succ d ih =>
    intro i h
    have hc := place_column.n_le s i
    have hf := feeds_le s i
    have hn : feeds s (i + 1) = _ := feeds_succ s i (by omega)
    have hcn : place_column.n s (i + 1) = if bt s i = 10 then i + 1 else place_column.n s i := rfl
    have ih := ih (i + 1) (by omega)
    by_cases hb : bt s (i : Int) = 10
    · rw [if_pos hb] at hn hcn
      refine Ev.step (fun k => ?_) ih
      rw [gramaryeref01_Of.l0, if_pos (by omega), if_pos (by omega), if_pos (by omega), if_pos hb, wrap_id (by omega), wrap_id (by omega), hn, hcn]
      congr 1 <;> omega
    · rw [if_neg hb] at hn hcn
      refine Ev.step (fun k => ?_) ih
      rw [gramaryeref01_Of.l0, if_pos (by omega), if_pos (by omega), if_pos (by omega), if_neg hb, wrap_id (by omega), wrap_id (by omega), hn, hcn]
      congr 1 <;> omega
theorem ofRef_ev (s : ByteArray) (hs : s.size ≤ 140737488355328) (n : Nat) (h : n ≤ s.size) : Ev (fun k => gramaryeref01_Of.f k s n) (1 + (feeds s n : Int), (n : Int) - place_column.n s n + 1, 0) := by
  unfold gramaryeref01_Of.f
  refine Ev.ite_neg (by omega) ?_
  have := ofRef_l0 s hs n h n 0 (by omega)
  simp only [feeds_zero, place_column.n] at this
  refine Ev.step (fun k => ?_) this
  rw [gramaryeref01_Of.j0, if_neg (by simp; omega)]
  rfl
theorem ofRef_bad (s : ByteArray) (a : Int) (h : a < 0 ∨ a > (s.size : Int)) : Ev (fun k => gramaryeref01_Of.f k s a) (0, 0, 2) := by
  unfold gramaryeref01_Of.f
  by_cases h0 : a < 0
  · refine Ev.ite_pos h0 (Ev.step (fun k => ?_) (Ev.now _))
    rw [gramaryeref01_Of.j0, if_pos rfl]
  · refine Ev.ite_neg h0 (Ev.step (fun k => ?_) (Ev.now _))
    rw [gramaryeref01_Of.j0, if_pos (by simp; omega)]
theorem of_ev (s : ByteArray) (hs : s.size ≤ 140737488355328) (n : Nat) (h : n ≤ s.size) : Ev (fun k => place_Of.f k s n) (1 + (feeds s n : Int), (n : Int) - place_column.n s n + 1, 0) := by
  unfold place_Of.f
  have hf := feeds_le s n
  refine Ev.ite_neg (by omega) (Ev.step (fun k => ?_) (Ev.now _))
  rw [place_Of.j0, if_neg (by simp; omega), if_pos (by omega), if_pos (by omega), Int.toNat_natCast, count_feeds, Option.bind_some, column_some h hs, Option.bind_some, wrap_id (by omega)]
theorem of_bad (s : ByteArray) (a : Int) (h : a < 0 ∨ a > (s.size : Int)) : Ev (fun k => place_Of.f k s a) (0, 0, 2) := by
  unfold place_Of.f
  by_cases h0 : a < 0
  · refine Ev.ite_pos h0 (Ev.step (fun k => ?_) (Ev.now _))
    rw [place_Of.j0, if_pos rfl]
  · refine Ev.ite_neg h0 (Ev.step (fun k => ?_) (Ev.now _))
    rw [place_Of.j0, if_pos (by simp; omega)]
theorem lines_some (s : ByteArray) (hs : s.size ≤ 140737488355328) : place_Lines.f s = some (1 + (feeds s s.size : Int)) := by
  unfold place_Lines.f
  have h := count_feeds s s.size
  have e : s.extract 0 s.size = s := by simp
  rw [e] at h
  have hf := feeds_le s s.size
  rw [h, Option.bind_some, wrap_id (by omega)]
theorem short_some (s : ByteArray) : ∃ t : ByteArray, gramaryelaw01_short.f s = some t ∧ t.size ≤ 300 := by
  unfold gramaryelaw01_short.f
  have h : mn (s.size : Int) 300 = (if s.size ≤ 300 then (s.size : Int) else 300) := by unfold mn; split <;> split <;> omega
  refine ⟨_, by rw [if_pos (by rw [h]; split <;> omega), if_pos (by rw [h]; split <;> omega)], ?_⟩
  rw [ByteArray.size_extract, h]
  split <;> omega
theorem works_ev : Ev (fun k => gramaryelaw01_works.f k) true := by
  unfold gramaryelaw01_works.f
  have h := of_ev (⟨#[97, 10, 98, 99]⟩ : ByteArray) (by decide) 3 (by decide)
  refine Ev.bind h ?_
  have e1 : feeds (⟨#[97, 10, 98, 99]⟩ : ByteArray) 3 = 1 := by decide
  have e2 : place_column.n (⟨#[97, 10, 98, 99]⟩ : ByteArray) 3 = 2 := by decide
  have e3 : feeds (⟨#[97, 10, 98, 99]⟩ : ByteArray) 4 = 1 := by decide
  simp only [e1, e2]
  refine Ev.const ?_
  rw [if_pos (by decide), if_pos (by decide), if_pos (by decide), lines_some _ (by decide)]
  rfl
theorem feeds_mono (s : ByteArray) {a b : Nat} (h : a ≤ b) (hb : b ≤ s.size) : feeds s a ≤ feeds s b := by
  induction b with
  | zero => obtain rfl : a = 0 := by omega
            exact Nat.le_refl _
  | succ b ih =>
    by_cases e : a = b + 1
    · subst e; exact Nat.le_refl _
    · have := ih (by omega) (by omega)
      have := feeds_succ s b (by omega)
      omega
/-- Between two places there is no line feed. -/
def plain (s : ByteArray) (a b : Nat) : Prop := ∀ p : Nat, a ≤ p → p < b → bt s p ≠ 10
theorem feeds_plain (s : ByteArray) {a b : Nat} (h : a ≤ b) (hb : b ≤ s.size) (hp : plain s a b) : feeds s b = feeds s a ∧ place_column.n s b = if b = a then place_column.n s a else place_column.n s a := by
  induction b with
  | zero => obtain rfl : a = 0 := by omega
            exact ⟨rfl, by simp⟩
  | succ b ih =>
    by_cases e : a = b + 1
    · subst e; exact ⟨rfl, by simp⟩
    · have ih := ih (by omega) (by omega) (fun p h1 h2 => hp p h1 (by omega))
      have hf := feeds_succ s b (by omega)
      have hn := hp b (by omega) (by omega)
      rw [if_neg hn] at hf
      have hc : place_column.n s (b + 1) = if bt s b = 10 then b + 1 else place_column.n s b := rfl
      rw [if_neg hn] at hc
      refine ⟨by omega, ?_⟩
      rw [hc, ih.2]; simp
theorem col_plain (s : ByteArray) {a b : Nat} (h : a ≤ b) (hb : b ≤ s.size) (hp : plain s a b) : place_column.n s b = place_column.n s a := by
  have := (feeds_plain s h hb hp).2
  simpa using this
/-- One place has a line and column. -/
theorem one_place (s : ByteArray) {p q : Nat} (hp : p ≤ q) (hq : q ≤ s.size) (hl : feeds s p = feeds s q) (hc : (p : Int) - place_column.n s p = q - place_column.n s q) : p = q := by
  have hpl : plain s p q := by
    intro x h1 h2 hx
    have e1 := feeds_succ s x (by omega)
    rw [if_pos hx] at e1
    have := feeds_mono s (a := x + 1) (b := q) (by omega) hq
    have := feeds_mono s (a := p) (b := x) (by omega) (by omega)
    omega
  have := col_plain s hp hq hpl
  omega
theorem index_from (s : ByteArray) (f : Nat) (hf : f ≤ s.size) :
    (Lib.indexByte (s.extract f s.size).data.toList 10 = -1 ∧ plain s f s.size) ∨ ∃ o : Nat, Lib.indexByte (s.extract f s.size).data.toList 10 = (o : Int) ∧ f + o < s.size ∧ bt s ((f + o : Nat) : Int) = 10 ∧ plain s f (f + o) := by
  have hl : (s.extract f s.size).data.toList = s.data.toList.drop f := by
    rw [extract_list, List.take_of_length_le (by rw [size_list]; omega)]
  rw [hl]
  have hget : ∀ p, f ≤ p → p < s.size → ((s.data.toList.drop f)[p - f]? = some 10 ↔ bt s (p : Int) = 10) := by
    intro p h1 h2
    have h3 : p < s.data.toList.length := by rw [size_list]; exact h2
    rw [List.getElem?_drop, show f + (p - f) = p by omega, List.getElem?_eq_getElem h3, bt_get h2]
    constructor
    · intro h; rw [Option.some.inj h]; rfl
    · intro h
      have : s.data.toList[p].toNat = 10 := by omega
      have : s.data.toList[p] = 10 := by rw [← UInt8.toNat_inj, this]; rfl
      rw [this]
  have hge := Lib.indexByte_ge (s.data.toList.drop f) 10
  by_cases hn : Lib.indexByte (s.data.toList.drop f) 10 = -1
  · refine .inl ⟨hn, fun p h1 h2 hb => Lib.indexByte_none hn (p - f) ((hget p h1 h2).2 hb)⟩
  · obtain ⟨o, ho⟩ := Int.eq_ofNat_of_zero_le (show 0 ≤ Lib.indexByte (s.data.toList.drop f) 10 by omega)
    obtain ⟨h1, h2⟩ := Lib.indexByte_some ho
    have hlt : f + o < s.size := by
      obtain ⟨h3, _⟩ := List.getElem?_eq_some_iff.1 h1
      rw [List.length_drop, size_list] at h3; omega
    refine .inr ⟨o, ho, hlt, (hget (f + o) (by omega) hlt).1 (by rw [show f + o - f = o by omega]; exact h1), fun p h3 h4 hb => h2 (p - f) (by omega) ((hget p h3 (by omega)).2 hb)⟩
/-- What is asked of the place of a line and column. -/
def IsAt (s : ByteArray) (line col : Int) (r : Int × Int) : Prop :=
  (∃ p : Nat, p ≤ s.size ∧ r = ((p : Int), 0) ∧ 1 + (feeds s p : Int) = line ∧ (p : Int) - place_column.n s p + 1 = col) ∨ (r = (0, 3) ∧ ∀ p : Nat, p ≤ s.size → ¬ (1 + (feeds s p : Int) = line ∧ (p : Int) - place_column.n s p + 1 = col))
theorem isAt_uniq {s : ByteArray} {line col : Int} {r q : Int × Int} (h : IsAt s line col r) (k : IsAt s line col q) : r = q := by
  rcases h with ⟨p, hp, rfl, h1, h2⟩ | ⟨rfl, h⟩
  · rcases k with ⟨p', hp', rfl, h1', h2'⟩ | ⟨rfl, k⟩
    · rcases Nat.le_total p p' with hle | hle
      · rw [one_place s hle hp' (by omega) (by omega)]
      · rw [one_place s hle hp (by omega) (by omega)]
    · exact absurd ⟨h1, h2⟩ (k p hp)
  · rcases k with ⟨p', hp', rfl, h1', h2'⟩ | ⟨rfl, k⟩
    · exact absurd ⟨h1', h2'⟩ (h p' hp')
    · rfl
theorem at_l0 (s : ByteArray) (hs : s.size ≤ 140737488355328) (line col : Int) (hl : line ≤ 9223372036854775807) (hc9 : col ≤ 9223372036854775807) : ∀ (d f n : Nat), s.size - f + 1 = d → 1 ≤ n → f ≤ s.size → feeds s f + 1 = n → place_column.n s f = f → ((n : Int) ≤ line ∨ n = 1) →
    ∃ r, Ev (fun k => place_At.l0 k s line col f n) r ∧ IsAt s line col r := by
  intro d
  induction d using Nat.strongRecOn with
  | _ d ih =>
    intro f n hd hn hf hfe hco hor
    have hfl := feeds_le s f
    by_cases hlt : (n : Int) < line
    · rcases index_from s f hf with ⟨hi, hp⟩ | ⟨o, hi, ho, hb, hp⟩
      · refine ⟨(0, 3), Ev.step (fun k => by rw [place_At.l0, if_pos hlt, if_pos (by omega), if_pos (by omega)]) ?_, .inr ⟨rfl, fun p hp' hm => ?_⟩⟩
        · exact Ev.bind0 (a := (-1 : Int)) (by unfold strings_IndexByte.f; rw [← hi]; rfl) (Ev.ite_pos (by omega) (Ev.now _))
        have h1 := (feeds_plain s hf (Nat.le_refl _) hp).1
        have h2 := feeds_mono s hp' (Nat.le_refl _)
        omega
      · have e1 := (feeds_plain s (a := f) (b := f + o) (by omega) (by omega) hp).1
        have e2 := feeds_succ s (f + o) ho
        rw [if_pos hb] at e2
        have e3 : place_column.n s (f + o + 1) = if bt s ((f + o : Nat) : Int) = 10 then f + o + 1 else place_column.n s (f + o) := rfl
        rw [if_pos hb] at e3
        obtain ⟨r, hr, hat⟩ := ih (s.size - (f + o + 1) + 1) (by omega) (f + o + 1) (n + 1) rfl (by omega) (by omega) (by omega) e3 (.inl (by omega))
        have hnn : (n : Int) ≤ 140737488355329 := by omega
        have c1 : (0 : Int) ≤ (f : Int) := by omega
        have c2 : (f : Int) ≤ (s.size : Int) := by omega
        have c3 : ¬ ((o : Int) < 0) := by omega
        have hw : wrap64 ((f : Int) + wrap64 ((o : Int) + 1)) = ((f + o + 1 : Nat) : Int) := by rw [wrap_id (x := (o : Int) + 1) (by omega), wrap_id (by omega)]; omega
        have hw2 : wrap64 ((n : Int) + 1) = ((n + 1 : Nat) : Int) := by clear hw; rw [wrap_id (x := (n : Int) + 1) (by omega)]; rfl
        refine ⟨r, Ev.step (fun k => by rw [place_At.l0, if_pos hlt, if_pos c1, if_pos c2]) ?_, hat⟩
        refine Ev.bind0 (a := (o : Int)) (by unfold strings_IndexByte.f; rw [← hi]; rfl) (Ev.ite_neg c3 ?_)
        simp only [hw, hw2]; exact hr
    · obtain ⟨e, he1, he2, hp, hex, hev⟩ : ∃ e : Nat, f ≤ e ∧ e ≤ s.size ∧ plain s f e ∧ (e < s.size → bt s (e : Int) = 10) ∧ (∀ r, (if line < 1 then (some (0, 3) : Option (Int × Int)) else if col < 1 then some (0, 3) else if wrap64 (col - 1) > (e : Int) - f then some (0, 3) else some (wrap64 (wrap64 ((f : Int) + col) - 1), 0)) = some r → Ev (fun k => place_At.l0 k s line col f n) r) := by
        rcases index_from s f hf with ⟨hi, hp⟩ | ⟨o, hi, ho, hb, hp⟩
        · refine ⟨s.size, hf, Nat.le_refl _, hp, fun h => absurd h (by omega), fun r hr => ?_⟩
          refine Ev.step (fun k => by rw [place_At.l0, if_neg hlt, if_pos (by omega), if_pos (by omega)]) ?_
          refine Ev.bind0 (a := (-1 : Int)) (by unfold strings_IndexByte.f; rw [← hi]; rfl) (Ev.ite_neg (by omega) (Ev.const ?_))
          rw [wrap_id (x := (s.size : Int) - f) (by omega)]; exact hr
        · refine ⟨f + o, by omega, by omega, hp, fun _ => hb, fun r hr => ?_⟩
          refine Ev.step (fun k => by rw [place_At.l0, if_neg hlt, if_pos (by omega), if_pos (by omega)]) ?_
          refine Ev.bind0 (a := (o : Int)) (by unfold strings_IndexByte.f; rw [← hi]; rfl) (Ev.ite_pos (by omega) (Ev.const ?_))
          rw [wrap_id (x := (f : Int) + o) (by omega), wrap_id (x := (f : Int) + o - f) (by omega)]
          have : ((f + o : Nat) : Int) = (f : Int) + o := by omega
          rw [this] at hr; exact hr
      by_cases h1 : line < 1
      · refine ⟨(0, 3), hev _ (by rw [if_pos h1]), .inr ⟨rfl, fun p _ hm => ?_⟩⟩
        omega
      have hline : (n : Int) = line := by omega
      -- where the line's places are
      have hin : ∀ p : Nat, p ≤ s.size → 1 + (feeds s p : Int) = line → f ≤ p ∧ p ≤ e := by
        intro p hp1 hp2
        constructor
        · apply Nat.le_of_not_lt
          intro hlt2
          obtain ⟨g, rfl⟩ : ∃ g, f = g + 1 := ⟨f - 1, by omega⟩
          have e3 : place_column.n s (g + 1) = if bt s (g : Int) = 10 then g + 1 else place_column.n s g := rfl
          have hgl := place_column.n_le s g
          have hb : bt s (g : Int) = 10 := by
            apply Decidable.byContradiction
            intro hb
            rw [if_neg hb] at e3
            omega
          have e4 := feeds_succ s g (by omega)
          rw [if_pos hb] at e4
          have := feeds_mono s (a := p) (b := g) (by omega) (by omega)
          omega
        · apply Nat.le_of_not_lt
          intro hlt2
          have hb := hex (by omega)
          have e4 := feeds_succ s e (by omega)
          rw [if_pos hb] at e4
          have := feeds_mono s (a := e + 1) (b := p) (by omega) hp1
          have := (feeds_plain s he1 he2 hp).1
          omega
      have hcol : ∀ p : Nat, f ≤ p → p ≤ e → feeds s p = feeds s f ∧ place_column.n s p = f := by
        intro p hp1 hp2
        have hpp : plain s f p := fun x a b => hp x a (by omega)
        exact ⟨(feeds_plain s hp1 (by omega) hpp).1, (col_plain s hp1 (by omega) hpp).trans hco⟩
      by_cases h2 : col < 1
      · refine ⟨(0, 3), hev _ (by rw [if_neg h1, if_pos h2]), .inr ⟨rfl, fun p hp1 hm => ?_⟩⟩
        have := place_column.n_le s p
        omega
      by_cases h3 : wrap64 (col - 1) > (e : Int) - f
      · refine ⟨(0, 3), hev _ (by rw [if_neg h1, if_neg h2, if_pos h3]), .inr ⟨rfl, fun p hp1 hm => ?_⟩⟩
        have := hin p hp1 hm.1
        have := hcol p this.1 this.2
        rw [wrap_id (by omega)] at h3
        omega
      · by_cases hbig : True
        · rw [wrap_id (by omega)] at h3
          obtain ⟨p, hp1⟩ := Int.eq_ofNat_of_zero_le (show 0 ≤ (f : Int) + col - 1 by omega)
          have := hcol p (by omega) (by omega)
          refine ⟨(p, 0), hev _ ?_, .inl ⟨p, by omega, rfl, by omega, by omega⟩⟩
          rw [if_neg h1, if_neg h2, if_neg (by rw [wrap_id (by omega)]; omega), wrap_id (x := (f : Int) + col) (by omega), wrap_id (by omega), hp1]
        · exact absurd trivial hbig
/-- A numeral's number. -/
def numVal (l : List UInt8) : Nat := l.foldl (fun n c => 10 * n + (c.toNat - 48)) 0
theorem numVal_snoc (l : List UInt8) (c : UInt8) : numVal (l ++ [c]) = 10 * numVal l + (c.toNat - 48) := by unfold numVal; rw [List.foldl_append]; rfl
theorem numVal_dec (u : Nat) : numVal (Lib.decDigits u) = u := by
  induction u using Nat.strongRecOn with
  | _ u ih =>
    rw [Lib.decDigits]
    split
    · show 10 * 0 + ((UInt8.ofNat (48 + u)).toNat - 48) = u
      rw [UInt8.toNat_ofNat_of_lt' (by show 48 + u < 256; omega)]; omega
    · rw [numVal_snoc, ih (u / 10) (by omega), UInt8.toNat_ofNat_of_lt' (by show 48 + u % 10 < 256; omega)]
      omega
theorem dec_inj {a b : Nat} (h : Lib.decDigits a = Lib.decDigits b) : a = b := by rw [← numVal_dec a, h, numVal_dec]
theorem dec_ne_nil (u : Nat) : Lib.decDigits u ≠ [] := by
  intro h
  have := Lib.decDigits_length u
  rw [h] at this
  have := Lib.nDigits_pos u
  simp at *
  omega
theorem itoa_l0 (x0 : Int) (h0 : 0 ≤ x0) : ∀ (n : Nat) (acc : ByteArray), n + acc.size ≤ 4611686018427387904 → Ev (fun k => gramaryebase_Itoa.l0 k x0 acc n) (if n = 0 then acc else (⟨(Lib.decDigits n).toArray⟩ : ByteArray) ++ acc) := by
  intro n
  induction n using Nat.strongRecOn with
  | _ n ih =>
    intro acc hb
    by_cases hn : n = 0
    · subst hn
      rw [if_pos rfl]
      exact Ev.step (fun k => by rw [gramaryebase_Itoa.l0, if_pos (by rfl), if_neg (by omega)]) (Ev.now _)
    · rw [if_neg hn]
      have ht : Int.tmod (n : Int) 10 = ((n % 10 : Nat) : Int) := rfl
      have hd : Int.tdiv (n : Int) 10 = ((n / 10 : Nat) : Int) := rfl
      have hw : wrap64 (48 + ((n % 10 : Nat) : Int)) % 256 = ((48 + n % 10 : Nat) : Int) := by rw [wrap_id (by omega)]; omega
      have hw2 : wrap64 ((n / 10 : Nat) : Int) = ((n / 10 : Nat) : Int) := wrap_id (by omega)
      have hc : strOfNums [((48 + n % 10 : Nat) : Int)] = ⟨#[UInt8.ofNat (48 + n % 10)]⟩ := by rfl
      have hs : (⟨#[UInt8.ofNat (48 + n % 10)]⟩ : ByteArray).size = 1 := rfl
      refine Ev.step (fun k => by rw [gramaryebase_Itoa.l0, if_neg (by omega), ht, if_neg (by omega), hw, hd, hw2]) ?_
      refine Ev.bind0 rfl ?_
      rw [hc]
      refine Ev.ite_pos (by rw [hs]; omega) ?_
      have hz : ((⟨#[UInt8.ofNat (48 + n % 10)]⟩ : ByteArray) ++ acc).size = 1 + acc.size := by rw [ByteArray.size_append, hs]
      have := ih (n / 10) (by omega) (⟨#[UInt8.ofNat (48 + n % 10)]⟩ ++ acc) (by rw [hz]; omega)
      refine cast ?_ this
      congr 1
      by_cases h9 : n < 10
      · rw [if_pos (by omega), Lib.decDigits_one h9, show n % 10 = n by omega]
      · rw [if_neg (by omega), ← ByteArray.append_assoc]
        congr 1
        rw [Lib.decDigits.eq_def n, dif_neg h9]
        apply ByteArray.ext
        simp
/-- What base.Itoa prints of a number that is not negative. -/
theorem itoa_ev (n : Nat) (h : n ≤ 4611686018427387904) : Ev (fun k => gramaryebase_Itoa.f k n) ⟨(Lib.decDigits n).toArray⟩ := by
  by_cases hn : n = 0
  · subst hn
    refine Ev.congr (fun k => by unfold gramaryebase_Itoa.f; rw [if_pos (by rfl)]) (Ev.some ?_)
    rw [Lib.decDigits_one (by decide)]; rfl
  · have := itoa_l0 n (by omega) n ⟨#[]⟩ (by show n + 0 ≤ _; omega)
    rw [if_neg hn] at this
    refine Ev.congr (fun k => by unfold gramaryebase_Itoa.f; rw [if_neg (by omega)]) (cast ?_ this)
    congr 1
    apply ByteArray.ext
    simp
theorem wf_u8 {x : Int} (h : (Lit.int .u8 x).wf = true) : 0 ≤ x ∧ x ≤ 255 := by
  have e : (decide (IntKind.u8.min ≤ x) && decide (x ≤ IntKind.u8.max)) = true := h
  rw [Bool.and_eq_true, decide_eq_true_eq, decide_eq_true_eq] at e
  have h1 : IntKind.u8.min = 0 := by decide
  have h2 : IntKind.u8.max = 255 := by decide
  rw [h1, h2] at e
  exact e
theorem col_le (s : ByteArray) : ∀ n, place_column.n s n ≤ n
  | 0 => Nat.le_refl _
  | n + 1 => by
    unfold place_column.n
    split
    · exact Nat.le_refl _
    · exact Nat.le_trans (col_le s n) (Nat.le_succ _)
theorem size_mk' (l : List UInt8) : (⟨l.toArray⟩ : ByteArray).size = l.length := by
  show l.toArray.size = _
  simp
theorem digits_len {n : Nat} (h : n ≤ 1000000000000) : (⟨(Lib.decDigits n).toArray⟩ : ByteArray).size ≤ 21 := by
  have h := Lib.itoa_length_le (n : Int) (by omega) (by omega)
  unfold Lib.itoa at h
  rw [if_neg (by omega)] at h
  rw [size_mk']
  simpa using h
theorem lib_itoa (n : Nat) (hn : n ≤ 1000000000000) : strconv_Itoa.f (n : Int) = some ⟨(Lib.decDigits n).toArray⟩ := by
  unfold strconv_Itoa.f
  rw [if_pos (by omega)]
  unfold Lib.itoa
  rw [if_neg (by omega)]; simp
/-- An error's text. -/
def errT (n : Nat) : ByteArray := (⟨#[101, 114, 114, 111, 114, 32]⟩ : ByteArray) ++ ⟨(Lib.decDigits n).toArray⟩
theorem err_some (n : Nat) (hn : n ≤ 1000000000000) : api_Errno_Error.f (n : Int) = some (errT n) := by
  unfold api_Errno_Error.f errT
  rw [if_pos (by omega)]
  congr 1
theorem text_ev (n : Nat) (hn : n ≤ 1000000000000) : Ev (fun k => gramaryeref01_Text.f k (n : Int)) (errT n) := by
  unfold gramaryeref01_Text.f
  have := digits_len hn
  exact Ev.bind (itoa_ev n (by omega)) (Ev.ite_pos (by omega) (Ev.now _))
theorem errT_size {n : Nat} (hn : n ≤ 1000000000000) : (errT n).size ≤ 27 := by
  have := digits_len hn
  unfold errT
  rw [ByteArray.size_append]
  show 6 + _ ≤ 27
  omega
theorem fault_same (t : ByteArray) (ht : t.size ≤ 300) (a : Int) (e : Nat) (he : e ≤ 255) : ∃ r, Ev (fun k => place_Fault.f k t a (e : Int)) r ∧ Ev (fun k => gramaryeref01_Fault.f k t a (e : Int)) r := by
  unfold place_Fault.f gramaryeref01_Fault.f
  by_cases hb : a < 0 ∨ a > (t.size : Int)
  · exact ⟨errT e, Ev.bind (of_bad t a hb) (Ev.ite_neg (by simp) (Ev.bind0 (err_some e (by omega)) (Ev.now _))), Ev.bind (ofRef_bad t a hb) (Ev.ite_neg (by simp) (Ev.bind (text_ev e (by omega)) (Ev.now _)))⟩
  · obtain ⟨n, rfl⟩ := Int.eq_ofNat_of_zero_le (show 0 ≤ a by omega)
    have hf := feeds_le t n
    have hc := col_le t n
    obtain ⟨l, hl⟩ : ∃ l : Nat, l = 1 + feeds t n := ⟨_, rfl⟩
    obtain ⟨c, hcc⟩ : ∃ c : Nat, c = n - place_column.n t n + 1 := ⟨_, rfl⟩
    have e1 : (1 + (feeds t n : Int)) = (l : Int) := by omega
    have e2 : ((n : Int) - place_column.n t n + 1) = (c : Int) := by omega
    have o1 := of_ev t (by omega) n (by omega)
    have o2 := ofRef_ev t (by omega) n (by omega)
    rw [e1, e2] at o1 o2
    have hl' : l ≤ 1000 := by omega
    have hc' : c ≤ 1000 := by omega
    have d1 := digits_len (n := l) (by omega)
    have d2 := digits_len (n := c) (by omega)
    have d3 := errT_size (n := e) (by omega)
    refine ⟨(((⟨(Lib.decDigits l).toArray⟩ ++ (⟨#[58]⟩ : ByteArray)) ++ ⟨(Lib.decDigits c).toArray⟩) ++ (⟨#[58, 32]⟩ : ByteArray)) ++ errT e, ?_, ?_⟩
    · refine Ev.bind o1 (Ev.ite_pos rfl (Ev.bind0 (lib_itoa l (by omega)) (Ev.ite_pos (by omega) (Ev.bind0 (lib_itoa c (by omega)) (Ev.ite_pos ?_ (Ev.ite_pos ?_ (Ev.bind0 (err_some e (by omega)) (Ev.ite_pos ?_ (Ev.now _)))))))))
      all_goals simp only [ByteArray.size_append]
      · show _ + 1 + _ ≤ _; omega
      · show _ + 1 + _ + 2 ≤ _; omega
      · show _ + 1 + _ + 2 + _ ≤ _; omega
    · refine Ev.bind o2 (Ev.ite_pos rfl (Ev.bind (itoa_ev l (by omega)) (Ev.ite_pos (by omega) (Ev.bind (itoa_ev c (by omega)) (Ev.ite_pos ?_ (Ev.ite_pos ?_ (Ev.bind (text_ev e (by omega)) (Ev.ite_pos ?_ (Ev.now _)))))))))
      all_goals simp only [ByteArray.size_append]
      · show _ + 1 + _ ≤ _; omega
      · show _ + 1 + _ + 2 ≤ _; omega
      · show _ + 1 + _ + 2 + _ ≤ _; omega
theorem among_some (a : Int) (N : Nat) (hN : N ≤ 1000000) : ∃ n : Nat, n ≤ N ∧ gramaryebase_Among.f a (wrap64 ((N : Int) + 1)) = some (n : Int) := by
  have hw : wrap64 ((N : Int) + 1) = (N : Int) + 1 := wrap_id (by omega)
  have hu : IntKind.u64.wrap ((N : Int) + 1) = (N : Int) + 1 := by
    show ((N : Int) + 1) % 18446744073709551616 = _
    omega
  have hx : 0 ≤ IntKind.u64.wrap a := by
    show 0 ≤ a % 18446744073709551616
    omega
  unfold gramaryebase_Among.f
  rw [hw, if_neg (by omega), hu, if_neg (by omega)]
  generalize IntKind.u64.wrap a = x at hx
  have h1 := Int.tmod_nonneg ((N : Int) + 1) hx
  have h2 := Int.tmod_lt_of_pos x (show 0 < (N : Int) + 1 by omega)
  refine ⟨(Int.tmod x ((N : Int) + 1)).toNat, by omega, ?_⟩
  rw [wrap_id (by omega)]
  congr 1; omega
theorem PlaceBack : gramaryelaw01_PlaceBack.Pure := by
  intro a0 a1 a2 h0 h1 h2
  have g1 := wf_i64 h1
  have g2 := wf_u8 h2
  obtain ⟨t, ht, hs⟩ := short_some a0
  obtain ⟨e, rfl⟩ := Int.eq_ofNat_of_zero_le g2.1
  have hwe : wrap64 (e : Int) = (e : Int) := wrap_id (by omega)
  refine Ev.rounds (g := fun k => gramaryelaw01_PlaceBack.f k a0 a1 e) ?_
  unfold gramaryelaw01_PlaceBack.f
  simp only [hwe]
  refine Ev.bind works_ev (Ev.ite_pos rfl (Ev.bind0 ht ?_))
  obtain ⟨r, f1, f2⟩ := fault_same t hs a1 e (by clear hwe; omega)
  refine Ev.bind f1 (Ev.bind f2 (Ev.ite_pos rfl ?_))
  obtain ⟨n, hn, hm⟩ := among_some a1 t.size (by clear hwe; omega)
  refine Ev.bind0 hm (Ev.bind (of_ev t (by clear hwe; omega) n hn) ?_)
  have hf := feeds_le t n
  have hc := col_le t n
  obtain ⟨q, q1, q2⟩ := at_l0 t (by clear hwe; omega) (1 + (feeds t n : Int)) ((n : Int) - place_column.n t n + 1) (by clear hwe; omega) (by clear hwe; omega) _ 0 1 rfl (by omega) (by omega) (by simp [feeds_zero]) rfl (.inr rfl)
  have q3 : Ev (fun k => place_At.f k t (1 + (feeds t n : Int)) ((n : Int) - place_column.n t n + 1)) q := q1
  refine Ev.bind q3 (Ev.ite_pos rfl ?_)
  rcases q2 with ⟨p, hp, rfl, e1, e2⟩ | ⟨rfl, hno⟩
  · have hpn : p = n := by
      rcases Nat.le_total p n with hle | hle
      · exact one_place t hle hn (by clear hwe; omega) (by clear hwe; omega)
      · exact (one_place t hle hp (by clear hwe; omega) (by clear hwe; omega)).symm
    subst hpn
    exact Ev.ite_pos rfl (Ev.some (by simp))
  · exact absurd ⟨rfl, rfl⟩ (hno n hn)

end Go.Proofs.YtdmjehepfkgpgaaDoor.Pure
