/- For every text and every list of texts (the first 100 of them, as the statement has it; of a text of more than 200 bytes it says nothing but that the example works): where it is among them, which one stands there twice, and what is fresh, is as the reference says. No other condition. -/
import Derived.Test.YtdmjehepfkgpgaaDoorHNameFindsx
import Derived.Test.YtdmjehepfkgpgaaDoorVPure
import Derived.Lib.ItoaLen
namespace Go.Proofs.YtdmjehepfkgpgaaDoor.Pure
open Go.RowKit Go.Plus Go.Proofs.YtdmjehepfkgpgaaDoor.HNameFinds Go.Proofs.YtdmjehepfkgpgaaDoorW.PrintWords Go.Proofs.YtdmjehepfkgpgaaDoorW.PrintLast Go.Proofs.YtdmjehepfkgpgaaDoorW.PrintMore
set_option linter.unusedVariables false
set_option linter.unusedSimpArgs false
/-- The letters from a byte on. -/
def letB (lo c : Int) : Bool := decide (lo ≤ c) && decide (c ≤ lo + 25)
def restB (c : Int) : Bool := c == 95 || decide (48 ≤ c) && decide (c ≤ 57)
def allB (lo : Int) (s : ByteArray) : Nat → Bool
  | 0 => true
  | n + 1 => allB lo s n && (letB lo (bt s n) || restB (bt s n))
def speltB (lo : Int) (s : ByteArray) : Bool := decide (0 < s.size) && decide (s.size ≤ 20) && letB lo (bt s 0) && allB lo s s.size
theorem capAll (s : ByteArray) : ∀ n, name_Cap.all s n = allB 65 s n
  | 0 => rfl
  | n + 1 => by
    show (name_Cap.all s n && (name_Cap.let (bt s n) || name_Cap.rest (bt s n))) = (allB 65 s n && (letB 65 (bt s n) || restB (bt s n)))
    rw [capAll s n]; rfl
theorem capSpelt (s : ByteArray) : name_Cap.spelt s = speltB 65 s := by
  unfold name_Cap.spelt speltB
  rw [capAll]; rfl
theorem nameAll (s : ByteArray) : ∀ n, name_Name.all s n = allB 97 s n
  | 0 => rfl
  | n + 1 => by
    show (name_Name.all s n && (name_Name.let (bt s n) || name_Name.rest (bt s n))) = (allB 97 s n && (letB 97 (bt s n) || restB (bt s n)))
    rw [nameAll s n]; rfl
theorem nameSpelt (s : ByteArray) : name_Name.spelt s = speltB 97 s := by
  unfold name_Name.spelt speltB
  rw [nameAll]; rfl
/-- Where a text is first; -1: nowhere. -/
def findB (t : ByteArray) (l : List ByteArray) : Int := if l.findIdx (fun x => decide (x = t)) < l.length then (l.findIdx (fun x => decide (x = t)) : Int) else -1
theorem toList_inj {a b : ByteArray} (h : a.toList = b.toList) : a = b := by
  rw [Lib.toList_data, Lib.toList_data] at h
  obtain ⟨⟨x⟩⟩ := a
  obtain ⟨⟨y⟩⟩ := b
  simp at h
  rw [h]
theorem toList_iff {a b : ByteArray} : a.toList = b.toList ↔ a = b := ⟨toList_inj, fun h => h ▸ rfl⟩
theorem findB_none {t : ByteArray} {l : List ByteArray} (h : ∀ x ∈ l, x ≠ t) : findB t l = -1 := by
  unfold findB
  rw [List.findIdx_eq_length.2 (fun x hx => decide_eq_false (h x hx)), if_neg (by omega)]
theorem findB_at {t : ByteArray} {l : List ByteArray} {i : Nat} (hi : i < l.length) (h : l[i] = t) (hb : ∀ j (_ : j < i), l[j]'(by omega) ≠ t) : findB t l = i := by
  have e : l.findIdx (fun x => decide (x = t)) = i := (List.findIdx_eq hi).2 ⟨decide_eq_true h, fun j hj => by simp [hb j hj]⟩
  unfold findB
  rw [e, if_pos hi]
theorem findB_ge {t : ByteArray} {l : List ByteArray} : 0 ≤ findB t l ↔ t ∈ l := by
  unfold findB
  constructor
  · intro h
    split at h
    · rename_i hlt
      have := List.findIdx_getElem (w := hlt)
      simp at this
      rw [← this]; exact List.getElem_mem _
    · omega
  · intro h
    have hlt : l.findIdx (fun x => decide (x = t)) < l.length := List.findIdx_lt_length_of_exists ⟨t, h, by simp⟩
    rw [if_pos hlt]; omega
theorem rdOf_nat {l : List ByteArray} {i : Nat} (h : i < l.length) : rdOf ByteArray.empty l (i : Int) = l[i] := by
  unfold rdOf
  simp [List.getD_eq_getElem?_getD, h]
theorem index_l0 (t : ByteArray) (l : List ByteArray) (hl : l.length ≤ 9223372036854775807) : ∀ (d i : Nat), i + d = l.length → (∀ j (hj : j < i) (h : j < l.length), l[j] ≠ t) →
    Ev (fun k => slices_Index_string_string.l0 k l t l.length i) (findB t l) := by
  intro d
  induction d with
  | zero =>
    intro i hi hb
    rw [findB_none (fun x hx => by
      obtain ⟨j, hj, rfl⟩ := List.getElem_of_mem hx
      exact hb j (by omega) hj)]
    exact Ev.step (fun k => by rw [slices_Index_string_string.l0, if_neg (by omega)]) (Ev.now _)
  | succ d ih =>
    intro i hi hb
    have hlt : i < l.length := by omega
    by_cases e : l[i] = t
    · rw [findB_at hlt e (fun j hj => hb j hj (by omega))]
      exact Ev.step (fun k => by rw [slices_Index_string_string.l0, if_pos (by omega), if_pos (by omega), if_pos (by omega), if_pos (by rw [rdOf_nat hlt, e])]) (Ev.now _)
    · refine Ev.step (fun k => by rw [slices_Index_string_string.l0, if_pos (by omega), if_pos (by omega), if_pos (by omega), if_neg (by rw [rdOf_nat hlt]; exact fun h => e (toList_inj h).symm), wrap_id (by omega)]; rfl) (ih (i + 1) (by omega) (fun j hj h => ?_))
      by_cases hji : j = i
      · subst hji; exact e
      · exact hb j (by omega) h
theorem find_ev (t : ByteArray) (l : List ByteArray) (hl : l.length ≤ 9223372036854775807) : Ev (fun k => name_Find.f k t l) (findB t l) := by
  unfold name_Find.f slices_Index_string_string.f
  exact Ev.bind (index_l0 t l hl l.length 0 (by omega) (fun j hj => by omega)) (Ev.now _)
/-- A numeral's number. -/
def numVal (l : List UInt8) : Nat := l.foldl (fun n c => 10 * n + (c.toNat - 48)) 0
theorem numVal_snoc (l : List UInt8) (c : UInt8) : numVal (l ++ [c]) = 10 * numVal l + (c.toNat - 48) := by unfold numVal; rw [List.foldl_append]; rfl
theorem numVal_dec (u : Nat) : numVal (Lib.decDigits u) = u := by
  induction u using Nat.strongRecOn with
  | _ u ih =>
    rw [Lib.decDigits]
    split
    · show 10 * 0 + ((UInt8.ofNat (48 + u)).toNat - 48) = u
      rw [UInt8.toNat_ofNat_of_lt' (by show 48 + u < 256; omega)]; omega
    · rw [numVal_snoc, ih (u / 10) (by omega), UInt8.toNat_ofNat_of_lt' (by show 48 + u % 10 < 256; omega)]
      omega
theorem dec_inj {a b : Nat} (h : Lib.decDigits a = Lib.decDigits b) : a = b := by rw [← numVal_dec a, h, numVal_dec]
theorem dec_ne_nil (u : Nat) : Lib.decDigits u ≠ [] := by
  intro h
  have := Lib.decDigits_length u
  rw [h] at this
  have := Lib.nDigits_pos u
  simp at *
  omega
/-- What is tried, one behind the other. -/
def cand (s : ByteArray) (n : Nat) : ByteArray := if n = 0 then s else s ++ ⟨(Lib.decDigits n).toArray⟩
theorem data_append (a b : ByteArray) : (a ++ b).data.toList = a.data.toList ++ b.data.toList := by simp
theorem cand_inj {s : ByteArray} {i j : Nat} (h : cand s i = cand s j) : i = j := by
  have h' := congrArg (fun x : ByteArray => x.data.toList) h
  unfold cand at h'
  by_cases hi : i = 0 <;> by_cases hj : j = 0
  · omega
  · simp only [hi, hj, if_true, if_false] at h'
    rw [data_append] at h'
    have := congrArg List.length h'
    rw [List.length_append] at this
    have hn := dec_ne_nil j
    have : (Lib.decDigits j).length = 0 := by simpa using this
    exact absurd (List.length_eq_zero_iff.1 this) hn
  · simp only [hi, hj, if_true, if_false] at h'
    rw [data_append] at h'
    have := congrArg List.length h'
    rw [List.length_append] at this
    have hn := dec_ne_nil i
    have : (Lib.decDigits i).length = 0 := by simpa using this
    exact absurd (List.length_eq_zero_iff.1 this) hn
  · simp only [hi, hj, if_false] at h'
    rw [data_append, data_append] at h'
    exact dec_inj (List.append_cancel_left h')
theorem pigeon {α : Type} [DecidableEq α] : ∀ (a b : List α), a.Nodup → (∀ x ∈ a, x ∈ b) → a.length ≤ b.length
  | [], _, _, _ => Nat.zero_le _
  | x :: a, b, hn, hs => by
    have hx := hs x (List.mem_cons_self ..)
    have hn' := List.nodup_cons.1 hn
    have := pigeon a (b.erase x) hn'.2 (fun y hy => (List.mem_erase_of_ne (by rintro rfl; exact hn'.1 hy)).2 (hs y (List.mem_cons_of_mem _ hy)))
    rw [List.length_erase_of_mem hx] at this
    have hpos : 0 < b.length := List.length_pos_of_mem hx
    rw [List.length_cons]; omega
theorem fresh_ends (s : ByteArray) (l : List ByteArray) : ∃ n, n ≤ l.length ∧ cand s n ∉ l ∧ ∀ j, j < n → cand s j ∈ l := by
  have hex : ∃ n, n ≤ l.length ∧ cand s n ∉ l := by
    apply Classical.byContradiction
    intro hno
    have hall : ∀ n, n ≤ l.length → cand s n ∈ l := fun n hn => Classical.byContradiction fun h => hno ⟨n, hn, h⟩
    have := pigeon ((List.range (l.length + 1)).map (cand s)) l
      (List.pairwise_map.2 (List.nodup_range.imp (fun {a b} hab h => hab (cand_inj h))))
      (fun x hx => by
        obtain ⟨n, hn, rfl⟩ := List.mem_map.1 hx
        exact hall n (by have := List.mem_range.1 hn; omega))
    simp at this
    omega
  have key : ∀ m, (∃ n, n ≤ m ∧ cand s n ∉ l) → ∃ n, n ≤ m ∧ cand s n ∉ l ∧ ∀ j, j < n → cand s j ∈ l := by
    intro m
    induction m with
    | zero =>
      rintro ⟨n, hn, h⟩
      obtain rfl : n = 0 := by omega
      exact ⟨0, Nat.le_refl _, h, fun j hj => by omega⟩
    | succ m ih =>
      rintro ⟨n, hn, h⟩
      by_cases hm : ∃ n, n ≤ m ∧ cand s n ∉ l
      · obtain ⟨n, h1, h2, h3⟩ := ih hm
        exact ⟨n, by omega, h2, h3⟩
      · by_cases e : n = m + 1
        · subst e
          exact ⟨m + 1, Nat.le_refl _, h, fun j hj => Classical.byContradiction fun h2 => hm ⟨j, by omega, h2⟩⟩
        · exact absurd ⟨n, by omega, h⟩ hm
  exact key _ hex
theorem size_mk (l : List UInt8) : (⟨l.toArray⟩ : ByteArray).size = l.length := by
  show l.toArray.size = _
  simp
theorem cand_size (s : ByteArray) (n : Nat) : (cand s n).size = s.size + if n = 0 then 0 else (Lib.decDigits n).length := by
  unfold cand
  split
  · rfl
  · rw [ByteArray.size_append]; exact congrArg (s.size + ·) (size_mk _)
theorem itoa_cand (n : Nat) (hn : (n : Int) ≤ 9223372036854775807) : strconv_Itoa.f (n : Int) = some ⟨(Lib.decDigits n).toArray⟩ := by
  unfold strconv_Itoa.f
  rw [if_pos (by omega)]
  unfold Lib.itoa
  rw [if_neg (by omega)]; simp
theorem digits_short {n : Nat} (h : n ≤ 100) : (Lib.decDigits n).length ≤ 21 := by
  have h := Lib.itoa_length_le (n : Int) (by omega) (by omega)
  unfold Lib.itoa at h
  rw [if_neg (by omega)] at h
  simpa using h
theorem fresh_l0 (s : ByteArray) (hs : s.size ≤ 140737488355328) (l : List ByteArray) (hl : l.length ≤ 100) (n : Nat) (hn : n ≤ l.length) (ha : cand s n ∉ l) (hb : ∀ j, j < n → cand s j ∈ l) : ∀ (d j : Nat), j + d = n →
    Ev (fun k => name_Fresh.l0 k s l (cand s j) ((j : Int) + 1)) (cand s n) := by
  intro d
  induction d with
  | zero =>
    intro j hj
    obtain rfl : j = n := by omega
    have hf := find_ev (cand s j) l (by omega)
    have hneg : ¬ findB (cand s j) l ≥ 0 := fun h => ha (findB_ge.1 h)
    refine Ev.step (fun k => by rw [name_Fresh.l0]) (Ev.bind hf (Ev.ite_neg hneg (Ev.now _)))
  | succ d ih =>
    intro j hj
    have hf := find_ev (cand s j) l (by omega)
    have hpos : findB (cand s j) l ≥ 0 := findB_ge.2 (hb j (by omega))
    have e1 : ((j : Int) + 1) = ((j + 1 : Nat) : Int) := rfl
    have e2 : cand s (j + 1) = s ++ ⟨(Lib.decDigits (j + 1)).toArray⟩ := by unfold cand; rw [if_neg (by omega)]
    have hd := digits_short (n := j + 1) (by omega)
    have e3 : (⟨(Lib.decDigits (j + 1)).toArray⟩ : ByteArray).size ≤ 21 := by rw [size_mk]; exact hd
    have ih := ih (j + 1) (by omega)
    rw [e2] at ih
    have hw : wrap64 ((j : Int) + 1 + 1) = ((j + 1 : Nat) : Int) + 1 := by rw [wrap_id (by omega)]; rfl
    have e4 : s.size + (⟨(Lib.decDigits (j + 1)).toArray⟩ : ByteArray).size ≤ 9223372036854775807 := by clear hw; omega
    have e5 : ((j + 1 : Nat) : Int) ≤ 9223372036854775807 := by clear hw; omega
    refine Ev.step (fun k => by rw [name_Fresh.l0]) ?_
    refine Ev.bind hf (Ev.ite_pos hpos ?_)
    refine Ev.bind0 (itoa_cand (j + 1) e5) (Ev.ite_pos e4 ?_)
    simp only [hw]; exact ih
theorem fresh_ev (s : ByteArray) (hs : s.size ≤ 140737488355328) (l : List ByteArray) (hl : l.length ≤ 100) : ∃ n, n ≤ l.length ∧ cand s n ∉ l ∧ (∀ j, j < n → cand s j ∈ l) ∧ Ev (fun k => name_Fresh.f k s l) (cand s n) := by
  obtain ⟨n, h1, h2, h3⟩ := fresh_ends s l
  exact ⟨n, h1, h2, h3, fresh_l0 s hs l hl n h1 h2 h3 n 0 (by omega)⟩
theorem itoa_l0 (x0 : Int) (h0 : 0 ≤ x0) : ∀ (n : Nat) (acc : ByteArray), n + acc.size ≤ 4611686018427387904 → Ev (fun k => gramaryebase_Itoa.l0 k x0 acc n) (if n = 0 then acc else (⟨(Lib.decDigits n).toArray⟩ : ByteArray) ++ acc) := by
  intro n
  induction n using Nat.strongRecOn with
  | _ n ih =>
    intro acc hb
    by_cases hn : n = 0
    · subst hn
      rw [if_pos rfl]
      exact Ev.step (fun k => by rw [gramaryebase_Itoa.l0, if_pos (by rfl), if_neg (by omega)]) (Ev.now _)
    · rw [if_neg hn]
      have ht : Int.tmod (n : Int) 10 = ((n % 10 : Nat) : Int) := rfl
      have hd : Int.tdiv (n : Int) 10 = ((n / 10 : Nat) : Int) := rfl
      have hw : wrap64 (48 + ((n % 10 : Nat) : Int)) % 256 = ((48 + n % 10 : Nat) : Int) := by rw [wrap_id (by omega)]; omega
      have hw2 : wrap64 ((n / 10 : Nat) : Int) = ((n / 10 : Nat) : Int) := wrap_id (by omega)
      have hc : strOfNums [((48 + n % 10 : Nat) : Int)] = ⟨#[UInt8.ofNat (48 + n % 10)]⟩ := by rfl
      have hs : (⟨#[UInt8.ofNat (48 + n % 10)]⟩ : ByteArray).size = 1 := rfl
      refine Ev.step (fun k => by rw [gramaryebase_Itoa.l0, if_neg (by omega), ht, if_neg (by omega), hw, hd, hw2]) ?_
      refine Ev.bind0 rfl ?_
      rw [hc]
      refine Ev.ite_pos (by rw [hs]; omega) ?_
      have hz : ((⟨#[UInt8.ofNat (48 + n % 10)]⟩ : ByteArray) ++ acc).size = 1 + acc.size := by rw [ByteArray.size_append, hs]
      have := ih (n / 10) (by omega) (⟨#[UInt8.ofNat (48 + n % 10)]⟩ ++ acc) (by rw [hz]; omega)
      refine cast ?_ this
      congr 1
      by_cases h9 : n < 10
      · rw [if_pos (by omega), Lib.decDigits_one h9, show n % 10 = n by omega]
      · rw [if_neg (by omega), ← ByteArray.append_assoc]
        congr 1
        rw [Lib.decDigits.eq_def n, dif_neg h9]
        apply ByteArray.ext
        simp
/-- What base.Itoa prints of a number that is not negative. -/
theorem itoa_ev (n : Nat) (h : n ≤ 4611686018427387904) : Ev (fun k => gramaryebase_Itoa.f k n) ⟨(Lib.decDigits n).toArray⟩ := by
  by_cases hn : n = 0
  · subst hn
    refine Ev.congr (fun k => by unfold gramaryebase_Itoa.f; rw [if_pos (by rfl)]) (Ev.some ?_)
    rw [Lib.decDigits_one (by decide)]; rfl
  · have := itoa_l0 n (by omega) n ⟨#[]⟩ (by show n + 0 ≤ _; omega)
    rw [if_neg hn] at this
    refine Ev.congr (fun k => by unfold gramaryebase_Itoa.f; rw [if_neg (by omega)]) (cast ?_ this)
    congr 1
    apply ByteArray.ext
    simp
theorem refFind_l0 (t : ByteArray) (l : List ByteArray) (hl : l.length ≤ 9223372036854775807) : ∀ (d i : Nat), i + d = l.length → (∀ j (hj : j < i) (h : j < l.length), l[j] ≠ t) →
    Ev (fun k => gramaryeref02_Find.l0 k t l i) (findB t l) := by
  intro d
  induction d with
  | zero =>
    intro i hi hb
    rw [findB_none (fun x hx => by
      obtain ⟨j, hj, rfl⟩ := List.getElem_of_mem hx
      exact hb j (by omega) hj)]
    exact Ev.step (fun k => by rw [gramaryeref02_Find.l0, if_neg (by omega)]) (Ev.now _)
  | succ d ih =>
    intro i hi hb
    have hlt : i < l.length := by omega
    by_cases e : l[i] = t
    · rw [findB_at hlt e (fun j hj => hb j hj (by omega))]
      exact Ev.step (fun k => by rw [gramaryeref02_Find.l0, if_pos (by omega), if_pos (by omega), if_pos (by rw [rdOf_nat hlt, e])]) (Ev.now _)
    · refine Ev.step (fun k => by rw [gramaryeref02_Find.l0, if_pos (by omega), if_pos (by omega), if_neg (by rw [rdOf_nat hlt]; exact fun h => e (toList_inj h)), wrap_id (by omega)]; rfl) (ih (i + 1) (by omega) (fun j hj h => ?_))
      by_cases hji : j = i
      · subst hji; exact e
      · exact hb j (by omega) h
theorem refFind_ev (t : ByteArray) (l : List ByteArray) (hl : l.length ≤ 9223372036854775807) : Ev (fun k => gramaryeref02_Find.f k t l) (findB t l) := by
  unfold gramaryeref02_Find.f
  exact refFind_l0 t l hl l.length 0 (by omega) (fun j hj => by omega)
theorem dup_iff {l : List ByteArray} {i : Nat} (h : i < l.length) : name_Twice.dup l i = true ↔ l[i] ∈ l.take i := by
  unfold name_Twice.dup
  rw [List.any_eq_true]
  have e : l.getD i ByteArray.empty = l[i] := by simp [List.getD_eq_getElem?_getD, h]
  rw [e]
  constructor
  · rintro ⟨x, hx, hh⟩
    have : x = l[i] := toList_inj (by rw [Lib.toList_data, Lib.toList_data]; simpa using hh)
    rw [← this]; exact hx
  · intro hx
    exact ⟨_, hx, by simp⟩
theorem refTwice_l0 (l : List ByteArray) (hl : l.length ≤ 9223372036854775807) : ∀ (d i : Nat), i + d = l.length → Ev (fun k => gramaryeref02_Twice.l0 k l i) (name_Twice.go l d i) := by
  intro d
  induction d with
  | zero =>
    intro i hi
    exact Ev.step (fun k => by rw [gramaryeref02_Twice.l0, if_neg (by omega)]; rfl) (Ev.now _)
  | succ d ih =>
    intro i hi
    have hlt : i < l.length := by omega
    have hf := refFind_ev l[i] (l.take i) (by rw [List.length_take]; omega)
    have hw : wrap64 ((i : Int) + 1) = ((i + 1 : Nat) : Int) := by rw [wrap_id (by omega)]; rfl
    have hd := dup_iff hlt
    have hg := findB_ge (t := l[i]) (l := l.take i)
    refine Ev.step (fun k => by rw [gramaryeref02_Twice.l0, if_pos (by omega), if_pos (by omega), if_pos (by omega), rdOf_nat hlt, hw, Int.toNat_natCast]) ?_
    refine Ev.bind hf ?_
    unfold name_Twice.go
    by_cases h : name_Twice.dup l i = true
    · rw [if_pos h]
      exact Ev.ite_pos (hg.2 (hd.1 h)) (Ev.now _)
    · rw [if_neg h]
      exact Ev.ite_neg (fun h2 => h (hd.2 (hg.1 h2))) (ih (i + 1) (by omega))
theorem refTwice_ev (l : List ByteArray) (hl : l.length ≤ 9223372036854775807) : Ev (fun k => gramaryeref02_Twice.f k l) (name_Twice.go l l.length 0) := by
  unfold gramaryeref02_Twice.f
  exact refTwice_l0 l hl l.length 0 (by omega)
theorem twice_some (l : List ByteArray) (hl : l.length < 140737488351232) (hs : ∀ x ∈ l, x.size ≤ maxLen) : name_Twice.f l = some (name_Twice.go l l.length 0) := by
  unfold name_Twice.f
  rw [if_pos (by unfold name_Twice.fits; rw [Bool.and_eq_true, decide_eq_true_eq, List.all_eq_true]; exact ⟨hl, fun x hx => decide_eq_true (hs x hx)⟩)]
theorem refFresh_l0 (s : ByteArray) (hs : s.size ≤ 140737488355328) (l : List ByteArray) (hl : l.length ≤ 100) (n : Nat) (hn : n ≤ l.length) (ha : cand s n ∉ l) (hb : ∀ j, j < n → cand s j ∈ l) : ∀ (d j : Nat), j + d = n →
    Ev (fun k => gramaryeref02_Fresh.l0 k s l (cand s j) ((j : Int) + 1)) (cand s n) := by
  intro d
  induction d with
  | zero =>
    intro j hj
    obtain rfl : j = n := by omega
    have hf := refFind_ev (cand s j) l (by omega)
    have hneg : ¬ findB (cand s j) l ≥ 0 := fun h => ha (findB_ge.1 h)
    refine Ev.step (fun k => by rw [gramaryeref02_Fresh.l0]) (Ev.bind hf (Ev.ite_neg hneg (Ev.now _)))
  | succ d ih =>
    intro j hj
    have hf := refFind_ev (cand s j) l (by omega)
    have hpos : findB (cand s j) l ≥ 0 := findB_ge.2 (hb j (by omega))
    have e1 : ((j : Int) + 1) = ((j + 1 : Nat) : Int) := rfl
    have e2 : cand s (j + 1) = s ++ ⟨(Lib.decDigits (j + 1)).toArray⟩ := by unfold cand; rw [if_neg (by omega)]
    have hd := digits_short (n := j + 1) (by omega)
    have e3 : (⟨(Lib.decDigits (j + 1)).toArray⟩ : ByteArray).size ≤ 21 := by rw [size_mk]; exact hd
    have ih := ih (j + 1) (by omega)
    rw [e2] at ih
    have hw : wrap64 ((j : Int) + 1 + 1) = ((j + 1 : Nat) : Int) + 1 := by rw [wrap_id (by omega)]; rfl
    have e4 : s.size + (⟨(Lib.decDigits (j + 1)).toArray⟩ : ByteArray).size ≤ 9223372036854775807 := by clear hw; omega
    refine Ev.step (fun k => by rw [gramaryeref02_Fresh.l0]) ?_
    refine Ev.bind hf (Ev.ite_pos hpos ?_)
    refine Ev.bind (itoa_ev (j + 1) (by clear hw; omega)) (Ev.ite_pos e4 ?_)
    simp only [hw]; exact ih
theorem works_ev : Ev (fun k => gramaryelaw02_works.f k) true := Ev.of (gramaryelaw02_works.mono) (k := 20) (by kernel_rfl)
theorem NameFinds : gramaryelaw02_NameFinds.Pure := by
  intro s l0 hs _ hl
  refine Ev.rounds (g := fun k => gramaryelaw02_NameFinds.f k s l0) ?_
  unfold gramaryelaw02_NameFinds.f
  have hlm : (l0.length : Int) ≤ 9223372036854775807 := by have := hl.1; unfold maxLen at this; omega
  have hm : mn (l0.length : Int) 100 = ((min l0.length 100 : Nat) : Int) := by unfold mn; split <;> omega
  rw [hm]
  refine Ev.bind0 rfl (Ev.ite_pos (by omega) (Ev.ite_pos (by omega) (Ev.ite_pos (by simp; omega) (Ev.bind0 rfl ?_))))
  have hlen : ([] ++ l0.take ((min l0.length 100 : Nat) : Int).toNat : List ByteArray).length ≤ 100 := by simp; omega
  have hmem : ∀ x ∈ ([] ++ l0.take ((min l0.length 100 : Nat) : Int).toNat : List ByteArray), x.size ≤ maxLen := fun x hx => hl.2 x (List.mem_of_mem_take (by simpa using hx))
  generalize ([] ++ l0.take ((min l0.length 100 : Nat) : Int).toNat : List ByteArray) = l at hlen hmem
  by_cases hbig : (s.size : Int) > 200
  · exact Ev.ite_pos hbig (Ev.bind works_ev (Ev.now _))
  refine Ev.ite_neg hbig (Ev.bind0 rfl (Ev.ite_pos (by simp; omega) ?_))
  refine Ev.bind (find_ev s _ (by simp; omega)) (Ev.bind (refFind_ev s l (by omega)) (Ev.ite_pos (by simp) (Ev.bind0 rfl (Ev.ite_pos (by simp; omega) ?_))))
  refine Ev.bind0 (twice_some _ (by simp; omega) (by simpa using hmem)) (Ev.bind (refTwice_ev l (by omega)) (Ev.ite_pos (by simp) (Ev.bind0 rfl (Ev.ite_pos (by simp; omega) ?_))))
  obtain ⟨n, hn, ha, hb, hf⟩ := fresh_ev s (by omega) l hlen
  have hr : Ev (fun k => gramaryeref02_Fresh.f k s l) (cand s n) := refFresh_l0 s (by omega) l hlen n hn ha hb n 0 (by omega)
  refine Ev.bind (a := cand s n) (by simpa using hf) (Ev.bind hr (Ev.ite_pos rfl (Ev.bind works_ev (Ev.now _))))

end Go.Proofs.YtdmjehepfkgpgaaDoor.Pure
