/- For every text (of at most 200 bytes, as the statement has it) and every list of texts (the first 100 of them, as the statement has it): no name is a cap, and what is fresh is not taken and begins with the text. No other condition. -/
import Derived.Test.YtdmjehepfkgpgaaDoorHNameApartx
import Derived.Test.YtdmjehepfkgpgaaDoorVPure
import Derived.Lib.ItoaLen
namespace Go.Proofs.YtdmjehepfkgpgaaDoor.Pure
open Go.RowKit Go.Plus Go.Proofs.YtdmjehepfkgpgaaDoor.HNameApart Go.Proofs.YtdmjehepfkgpgaaDoorW.PrintWords Go.Proofs.YtdmjehepfkgpgaaDoorW.PrintLast Go.Proofs.YtdmjehepfkgpgaaDoorW.PrintMore
set_option linter.unusedVariables false
set_option linter.unusedSimpArgs false
/-- The letters from a byte on. -/
def letB (lo c : Int) : Bool := decide (lo ≤ c) && decide (c ≤ lo + 25)
def restB (c : Int) : Bool := c == 95 || decide (48 ≤ c) && decide (c ≤ 57)
def allB (lo : Int) (s : ByteArray) : Nat → Bool
  | 0 => true
  | n + 1 => allB lo s n && (letB lo (bt s n) || restB (bt s n))
def speltB (lo : Int) (s : ByteArray) : Bool := decide (0 < s.size) && decide (s.size ≤ 20) && letB lo (bt s 0) && allB lo s s.size
theorem capAll (s : ByteArray) : ∀ n, name_Cap.all s n = allB 65 s n
  | 0 => rfl
  | n + 1 => by
    show (name_Cap.all s n && (name_Cap.let (bt s n) || name_Cap.rest (bt s n))) = (allB 65 s n && (letB 65 (bt s n) || restB (bt s n)))
    rw [capAll s n]; rfl
theorem capSpelt (s : ByteArray) : name_Cap.spelt s = speltB 65 s := by
  unfold name_Cap.spelt speltB
  rw [capAll]; rfl
theorem nameAll (s : ByteArray) : ∀ n, name_Name.all s n = allB 97 s n
  | 0 => rfl
  | n + 1 => by
    show (name_Name.all s n && (name_Name.let (bt s n) || name_Name.rest (bt s n))) = (allB 97 s n && (letB 97 (bt s n) || restB (bt s n)))
    rw [nameAll s n]; rfl
theorem nameSpelt (s : ByteArray) : name_Name.spelt s = speltB 97 s := by
  unfold name_Name.spelt speltB
  rw [nameAll]; rfl
/-- Where a text is first; -1: nowhere. -/
def findB (t : ByteArray) (l : List ByteArray) : Int := if l.findIdx (fun x => decide (x = t)) < l.length then (l.findIdx (fun x => decide (x = t)) : Int) else -1
theorem toList_inj {a b : ByteArray} (h : a.toList = b.toList) : a = b := by
  rw [Lib.toList_data, Lib.toList_data] at h
  obtain ⟨⟨x⟩⟩ := a
  obtain ⟨⟨y⟩⟩ := b
  simp at h
  rw [h]
theorem toList_iff {a b : ByteArray} : a.toList = b.toList ↔ a = b := ⟨toList_inj, fun h => h ▸ rfl⟩
theorem findB_none {t : ByteArray} {l : List ByteArray} (h : ∀ x ∈ l, x ≠ t) : findB t l = -1 := by
  unfold findB
  rw [List.findIdx_eq_length.2 (fun x hx => decide_eq_false (h x hx)), if_neg (by omega)]
theorem findB_at {t : ByteArray} {l : List ByteArray} {i : Nat} (hi : i < l.length) (h : l[i] = t) (hb : ∀ j (_ : j < i), l[j]'(by omega) ≠ t) : findB t l = i := by
  have e : l.findIdx (fun x => decide (x = t)) = i := (List.findIdx_eq hi).2 ⟨decide_eq_true h, fun j hj => by simp [hb j hj]⟩
  unfold findB
  rw [e, if_pos hi]
theorem findB_ge {t : ByteArray} {l : List ByteArray} : 0 ≤ findB t l ↔ t ∈ l := by
  unfold findB
  constructor
  · intro h
    split at h
    · rename_i hlt
      have := List.findIdx_getElem (w := hlt)
      simp at this
      rw [← this]; exact List.getElem_mem _
    · omega
  · intro h
    have hlt : l.findIdx (fun x => decide (x = t)) < l.length := List.findIdx_lt_length_of_exists ⟨t, h, by simp⟩
    rw [if_pos hlt]; omega
theorem rdOf_nat {l : List ByteArray} {i : Nat} (h : i < l.length) : rdOf ByteArray.empty l (i : Int) = l[i] := by
  unfold rdOf
  simp [List.getD_eq_getElem?_getD, h]
theorem index_l0 (t : ByteArray) (l : List ByteArray) (hl : l.length ≤ 9223372036854775807) : ∀ (d i : Nat), i + d = l.length → (∀ j (hj : j < i) (h : j < l.length), l[j] ≠ t) →
    Ev (fun k => slices_Index_string_string.l0 k l t l.length i) (findB t l) := by
  intro d
  induction d with
  | zero =>
    intro i hi hb
    rw [findB_none (fun x hx => by
      obtain ⟨j, hj, rfl⟩ := List.getElem_of_mem hx
      exact hb j (by omega) hj)]
    exact Ev.step (fun k => by rw [slices_Index_string_string.l0, if_neg (by omega)]) (Ev.now _)
  | succ d ih =>
    intro i hi hb
    have hlt : i < l.length := by omega
    by_cases e : l[i] = t
    · rw [findB_at hlt e (fun j hj => hb j hj (by omega))]
      exact Ev.step (fun k => by rw [slices_Index_string_string.l0, if_pos (by omega), if_pos (by omega), if_pos (by omega), if_pos (by rw [rdOf_nat hlt, e])]) (Ev.now _)
    · refine Ev.step (fun k => by rw [slices_Index_string_string.l0, if_pos (by omega), if_pos (by omega), if_pos (by omega), if_neg (by rw [rdOf_nat hlt]; exact fun h => e (toList_inj h).symm), wrap_id (by omega)]; rfl) (ih (i + 1) (by omega) (fun j hj h => ?_))
      by_cases hji : j = i
      · subst hji; exact e
      · exact hb j (by omega) h
theorem find_ev (t : ByteArray) (l : List ByteArray) (hl : l.length ≤ 9223372036854775807) : Ev (fun k => name_Find.f k t l) (findB t l) := by
  unfold name_Find.f slices_Index_string_string.f
  exact Ev.bind (index_l0 t l hl l.length 0 (by omega) (fun j hj => by omega)) (Ev.now _)
/-- A numeral's number. -/
def numVal (l : List UInt8) : Nat := l.foldl (fun n c => 10 * n + (c.toNat - 48)) 0
theorem numVal_snoc (l : List UInt8) (c : UInt8) : numVal (l ++ [c]) = 10 * numVal l + (c.toNat - 48) := by unfold numVal; rw [List.foldl_append]; rfl
theorem numVal_dec (u : Nat) : numVal (Lib.decDigits u) = u := by
  induction u using Nat.strongRecOn with
  | _ u ih =>
    rw [Lib.decDigits]
    split
    · show 10 * 0 + ((UInt8.ofNat (48 + u)).toNat - 48) = u
      rw [UInt8.toNat_ofNat_of_lt' (by show 48 + u < 256; omega)]; omega
    · rw [numVal_snoc, ih (u / 10) (by omega), UInt8.toNat_ofNat_of_lt' (by show 48 + u % 10 < 256; omega)]
      omega
theorem dec_inj {a b : Nat} (h : Lib.decDigits a = Lib.decDigits b) : a = b := by rw [← numVal_dec a, h, numVal_dec]
theorem dec_ne_nil (u : Nat) : Lib.decDigits u ≠ [] := by
  intro h
  have := Lib.decDigits_length u
  rw [h] at this
  have := Lib.nDigits_pos u
  simp at *
  omega
/-- What is tried, one behind the other. -/
def cand (s : ByteArray) (n : Nat) : ByteArray := if n = 0 then s else s ++ ⟨(Lib.decDigits n).toArray⟩
theorem data_append (a b : ByteArray) : (a ++ b).data.toList = a.data.toList ++ b.data.toList := by simp
theorem cand_inj {s : ByteArray} {i j : Nat} (h : cand s i = cand s j) : i = j := by
  have h' := congrArg (fun x : ByteArray => x.data.toList) h
  unfold cand at h'
  by_cases hi : i = 0 <;> by_cases hj : j = 0
  · omega
  · simp only [hi, hj, if_true, if_false] at h'
    rw [data_append] at h'
    have := congrArg List.length h'
    rw [List.length_append] at this
    have hn := dec_ne_nil j
    have : (Lib.decDigits j).length = 0 := by simpa using this
    exact absurd (List.length_eq_zero_iff.1 this) hn
  · simp only [hi, hj, if_true, if_false] at h'
    rw [data_append] at h'
    have := congrArg List.length h'
    rw [List.length_append] at this
    have hn := dec_ne_nil i
    have : (Lib.decDigits i).length = 0 := by simpa using this
    exact absurd (List.length_eq_zero_iff.1 this) hn
  · simp only [hi, hj, if_false] at h'
    rw [data_append, data_append] at h'
    exact dec_inj (List.append_cancel_left h')
theorem pigeon {α : Type} [DecidableEq α] : ∀ (a b : List α), a.Nodup → (∀ x ∈ a, x ∈ b) → a.length ≤ b.length
  | [], _, _, _ => Nat.zero_le _
  | x :: a, b, hn, hs => by
    have hx := hs x (List.mem_cons_self ..)
    have hn' := List.nodup_cons.1 hn
    have := pigeon a (b.erase x) hn'.2 (fun y hy => (List.mem_erase_of_ne (by rintro rfl; exact hn'.1 hy)).2 (hs y (List.mem_cons_of_mem _ hy)))
    rw [List.length_erase_of_mem hx] at this
    have hpos : 0 < b.length := List.length_pos_of_mem hx
    rw [List.length_cons]; omega
theorem fresh_ends (s : ByteArray) (l : List ByteArray) : ∃ n, n ≤ l.length ∧ cand s n ∉ l ∧ ∀ j, j < n → cand s j ∈ l := by
  have hex : ∃ n, n ≤ l.length ∧ cand s n ∉ l := by
    apply Classical.byContradiction
    intro hno
    have hall : ∀ n, n ≤ l.length → cand s n ∈ l := fun n hn => Classical.byContradiction fun h => hno ⟨n, hn, h⟩
    have := pigeon ((List.range (l.length + 1)).map (cand s)) l
      (List.pairwise_map.2 (List.nodup_range.imp (fun {a b} hab h => hab (cand_inj h))))
      (fun x hx => by
        obtain ⟨n, hn, rfl⟩ := List.mem_map.1 hx
        exact hall n (by have := List.mem_range.1 hn; omega))
    simp at this
    omega
  have key : ∀ m, (∃ n, n ≤ m ∧ cand s n ∉ l) → ∃ n, n ≤ m ∧ cand s n ∉ l ∧ ∀ j, j < n → cand s j ∈ l := by
    intro m
    induction m with
    | zero =>
      rintro ⟨n, hn, h⟩
      obtain rfl : n = 0 := by omega
      exact ⟨0, Nat.le_refl _, h, fun j hj => by omega⟩
    | succ m ih =>
      rintro ⟨n, hn, h⟩
      by_cases hm : ∃ n, n ≤ m ∧ cand s n ∉ l
      · obtain ⟨n, h1, h2, h3⟩ := ih hm
        exact ⟨n, by omega, h2, h3⟩
      · by_cases e : n = m + 1
        · subst e
          exact ⟨m + 1, Nat.le_refl _, h, fun j hj => Classical.byContradiction fun h2 => hm ⟨j, by omega, h2⟩⟩
        · exact absurd ⟨n, by omega, h⟩ hm
  exact key _ hex
theorem size_mk (l : List UInt8) : (⟨l.toArray⟩ : ByteArray).size = l.length := by
  show l.toArray.size = _
  simp
theorem cand_size (s : ByteArray) (n : Nat) : (cand s n).size = s.size + if n = 0 then 0 else (Lib.decDigits n).length := by
  unfold cand
  split
  · rfl
  · rw [ByteArray.size_append]; exact congrArg (s.size + ·) (size_mk _)
theorem itoa_cand (n : Nat) (hn : (n : Int) ≤ 9223372036854775807) : strconv_Itoa.f (n : Int) = some ⟨(Lib.decDigits n).toArray⟩ := by
  unfold strconv_Itoa.f
  rw [if_pos (by omega)]
  unfold Lib.itoa
  rw [if_neg (by omega)]; simp
theorem digits_short {n : Nat} (h : n ≤ 100) : (Lib.decDigits n).length ≤ 21 := by
  have h := Lib.itoa_length_le (n : Int) (by omega) (by omega)
  unfold Lib.itoa at h
  rw [if_neg (by omega)] at h
  simpa using h
theorem fresh_l0 (s : ByteArray) (hs : s.size ≤ 140737488355328) (l : List ByteArray) (hl : l.length ≤ 100) (n : Nat) (hn : n ≤ l.length) (ha : cand s n ∉ l) (hb : ∀ j, j < n → cand s j ∈ l) : ∀ (d j : Nat), j + d = n →
    Ev (fun k => name_Fresh.l0 k s l (cand s j) ((j : Int) + 1)) (cand s n) := by
  intro d
  induction d with
  | zero =>
    intro j hj
    obtain rfl : j = n := by omega
    have hf := find_ev (cand s j) l (by omega)
    have hneg : ¬ findB (cand s j) l ≥ 0 := fun h => ha (findB_ge.1 h)
    refine Ev.step (fun k => by rw [name_Fresh.l0]) (Ev.bind hf (Ev.ite_neg hneg (Ev.now _)))
  | succ d ih =>
    intro j hj
    have hf := find_ev (cand s j) l (by omega)
    have hpos : findB (cand s j) l ≥ 0 := findB_ge.2 (hb j (by omega))
    have e1 : ((j : Int) + 1) = ((j + 1 : Nat) : Int) := rfl
    have e2 : cand s (j + 1) = s ++ ⟨(Lib.decDigits (j + 1)).toArray⟩ := by unfold cand; rw [if_neg (by omega)]
    have hd := digits_short (n := j + 1) (by omega)
    have e3 : (⟨(Lib.decDigits (j + 1)).toArray⟩ : ByteArray).size ≤ 21 := by rw [size_mk]; exact hd
    have ih := ih (j + 1) (by omega)
    rw [e2] at ih
    have hw : wrap64 ((j : Int) + 1 + 1) = ((j + 1 : Nat) : Int) + 1 := by rw [wrap_id (by omega)]; rfl
    have e4 : s.size + (⟨(Lib.decDigits (j + 1)).toArray⟩ : ByteArray).size ≤ 9223372036854775807 := by clear hw; omega
    have e5 : ((j + 1 : Nat) : Int) ≤ 9223372036854775807 := by clear hw; omega
    refine Ev.step (fun k => by rw [name_Fresh.l0]) ?_
    refine Ev.bind hf (Ev.ite_pos hpos ?_)
    refine Ev.bind0 (itoa_cand (j + 1) e5) (Ev.ite_pos e4 ?_)
    simp only [hw]; exact ih
theorem fresh_ev (s : ByteArray) (hs : s.size ≤ 140737488355328) (l : List ByteArray) (hl : l.length ≤ 100) : ∃ n, n ≤ l.length ∧ cand s n ∉ l ∧ (∀ j, j < n → cand s j ∈ l) ∧ Ev (fun k => name_Fresh.f k s l) (cand s n) := by
  obtain ⟨n, h1, h2, h3⟩ := fresh_ends s l
  exact ⟨n, h1, h2, h3, fresh_l0 s hs l hl n h1 h2 h3 n 0 (by omega)⟩
theorem works_ev : Ev (fun k => gramaryelaw02_works.f k) true := Ev.of (gramaryelaw02_works.mono) (k := 20) (by kernel_rfl)
theorem apart (s : ByteArray) (h : speltB 97 s = true) : speltB 65 s = false := by
  have e : speltB 97 s = (decide (0 < s.size) && decide (s.size ≤ 20) && letB 97 (bt s 0) && allB 97 s s.size) := rfl
  have e' : speltB 65 s = (decide (0 < s.size) && decide (s.size ≤ 20) && letB 65 (bt s 0) && allB 65 s s.size) := rfl
  have l97 : letB 97 (bt s 0) = true := by
    cases hl : letB 97 (bt s 0) with
    | true => rfl
    | false => rw [e, hl] at h; simp at h
  have l65 : letB 65 (bt s 0) = false := by
    have h1 : (decide (97 ≤ bt s 0) && decide (bt s 0 ≤ 97 + 25)) = true := l97
    simp only [Bool.and_eq_true, decide_eq_true_eq] at h1
    show (decide (65 ≤ bt s 0) && decide (bt s 0 ≤ 65 + 25)) = false
    rw [decide_eq_false (p := bt s 0 ≤ 65 + 25) (by omega), Bool.and_false]
  rw [e', l65, Bool.and_false, Bool.false_and]
theorem begins_cand (s : ByteArray) (n : Nat) : gramaryebase_Begins.f (cand s n) s = some true := by
  have hz := cand_size s n
  unfold gramaryebase_Begins.f
  rw [if_pos (by omega), if_pos (by omega), if_pos (by omega)]
  congr 1
  rw [beq_iff_eq, toList_iff]
  unfold cand
  split
  · simp
  · apply ByteArray.ext
    apply Array.toList_inj.1
    rw [extract_list, data_append]
    simp
theorem NameApart : gramaryelaw02_NameApart.Pure := by
  intro s l0 hs _ hl
  refine Ev.rounds (g := fun k => gramaryelaw02_NameApart.f k s l0) ?_
  unfold gramaryelaw02_NameApart.f
  refine Ev.bind works_ev (Ev.ite_pos rfl (Ev.bind0 rfl ?_))
  have hlm : (l0.length : Int) ≤ 9223372036854775807 := by have := hl.1; unfold maxLen at this; omega
  have hm : mn (l0.length : Int) 100 = ((min l0.length 100 : Nat) : Int) := by unfold mn; split <;> omega
  rw [hm]
  refine Ev.ite_pos (by omega) (Ev.ite_pos (by omega) (Ev.ite_pos (by simp; omega) (Ev.bind0 rfl ?_)))
  have hlen : ([] ++ l0.take ((min l0.length 100 : Nat) : Int).toNat : List ByteArray).length ≤ 100 := by simp; omega
  generalize ([] ++ l0.take ((min l0.length 100 : Nat) : Int).toNat : List ByteArray) = l at hlen
  by_cases hbig : (s.size : Int) > 200
  · exact Ev.ite_pos hbig (Ev.now _)
  refine Ev.ite_neg hbig ?_
  obtain ⟨n, _, hn, _, hf⟩ := fresh_ev s (by omega) l hlen
  refine Ev.bind hf ?_
  have hneg : findB (cand s n) l < 0 := by
    have := findB_ge (t := cand s n) (l := l)
    have h2 : ¬ 0 ≤ findB (cand s n) l := fun h => hn (this.1 h)
    omega
  have hend : Ev (fun k => (name_Find.f k (cand s n) l).bind fun t => if t < 0 then (gramaryebase_Begins.f (cand s n) s).bind fun t => some t else some false) true :=
    Ev.bind (find_ev _ _ (by omega)) (Ev.ite_pos hneg (Ev.bind0 (begins_cand s n) (Ev.now _)))
  refine Ev.bind0 (a := (speltB 97 s && !Plus.isKw s)) (by rw [← nameSpelt]; rfl) ?_
  cases hsp : (speltB 97 s && !Plus.isKw s)
  · exact Ev.ite_neg (by simp) hend
  · refine Ev.ite_pos rfl (Ev.bind0 (a := speltB 65 s) (by rw [← capSpelt]; rfl) ?_)
    have h97 : speltB 97 s = true := by
      rw [Bool.and_eq_true] at hsp; exact hsp.1
    rw [apart s h97]
    exact Ev.ite_neg (by simp) hend

end Go.Proofs.YtdmjehepfkgpgaaDoor.Pure
