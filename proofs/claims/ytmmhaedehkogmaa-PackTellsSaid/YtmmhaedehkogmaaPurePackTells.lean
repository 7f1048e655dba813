/- For all lists of texts (the first 30 of each, and of each text the first ten bytes, as the statement has it) and every text: the set, what is joined, met, in any list, and the same, is as the document has it. No other condition. -/
import Derived.Test.YtmmhaedehkogmaaHPackTellsx
import Derived.Test.YtmmhaedehkogmaaVPure
import Derived.Sort.Walk0
namespace Go.Proofs.Ytmmhaedehkogmaa.Pure
open Go.RowKit Go.Plus Go.Proofs.Ytmmhaedehkogmaa.HPackTells Go.Proofs.YtmmhaedehkogmaaW.PrintWords Go.Proofs.YtmmhaedehkogmaaW.PrintLast Go.Proofs.YtmmhaedehkogmaaW.PrintMore
set_option linter.unusedVariables false
set_option linter.unusedSimpArgs false
instance riseDec (l : List Txt) : Decidable (Rises l) := inferInstanceAs (Decidable (l.Pairwise (· < ·)))
abbrev keysOf := pack_set_string.keys
abbrev txts := pack_set_string.texts
theorem keys_txts (l : List Txt) : keysOf (txts l) = l := by
  unfold keysOf txts pack_set_string.keys pack_set_string.texts
  rw [List.map_map]
  conv => rhs; rw [← List.map_id l]
  exact List.map_congr_left fun x _ => by simp
theorem txts_keys (l : List ByteArray) : txts (keysOf l) = l := by
  unfold keysOf txts pack_set_string.keys pack_set_string.texts
  rw [List.map_map]
  conv => rhs; rw [← List.map_id l]
  exact List.map_congr_left fun x _ => by
    apply ByteArray.ext
    simp
theorem keys_append (a b : List ByteArray) : keysOf (a ++ b) = keysOf a ++ keysOf b := List.map_append
theorem keys_length (a : List ByteArray) : (keysOf a).length = a.length := List.length_map ..
theorem txts_length (a : List Txt) : (txts a).length = a.length := List.length_map ..
/-- The set of a list of texts. -/
def setT (l : List ByteArray) : List ByteArray := txts (tset (keysOf l))
theorem setT_length (l : List ByteArray) : (setT l).length ≤ l.length := by
  unfold setT
  rw [txts_length]
  have := tset_length_le (keysOf l)
  rw [keys_length] at this
  exact this
theorem keys_setT (l : List ByteArray) : keysOf (setT l) = tset (keysOf l) := keys_txts _
theorem set_some (l : List ByteArray) (h : l.length ≤ 1000000000000) : pack_set_string.f l = some (setT l) := by
  unfold pack_set_string.f
  rw [if_pos (by omega)]
  rfl
theorem join_some (a b : List ByteArray) (ha : a.length ≤ 100000000000) (hb : b.length ≤ 100000000000) : pack_Join.f a b = some (setT (a ++ b)) := by
  unfold pack_Join.f
  rw [if_pos (by omega), set_some _ (by rw [List.length_append]; omega)]
theorem rd_nat {l : List ByteArray} {i : Nat} (h : i < l.length) : rdOf ByteArray.empty l (i : Int) = l[i] := by
  unfold rdOf
  simp [List.getD_eq_getElem?_getD, h]
theorem key_at {l : List ByteArray} {i : Nat} (h : i < l.length) : l[i].toList = (keysOf l)[i]'(by rw [keys_length]; exact h) := by
  unfold keysOf pack_set_string.keys
  rw [List.getElem_map, Lib.toList_data]
theorem less_iff (a b : ByteArray) : Op.bytesLess a.toList b.toList = true ↔ a.data.toList < b.data.toList := by
  rw [Go.Proofs.bytesLess_eq, Lib.toList_data, Lib.toList_data, decide_eq_true_iff]
/-- pack.Is: does a list rise? -/
theorem is_l0 (l : List ByteArray) (hl : l.length ≤ 1000000000000) : ∀ (d i : Nat), 1 ≤ i → i + d = max l.length 1 → (∀ j (_ : 1 ≤ j) (_ : j < i) (h : j < (keysOf l).length), (keysOf l)[j - 1]'(by omega) < (keysOf l)[j]) → Ev (fun k => pack_Is.l0 k l i) (decide (Rises (keysOf l))) := by
  have hk := keys_length l
  intro d
  induction d with
  | zero =>
    intro i h1 hi hb
    have hr : Rises (keysOf l) := by
      refine List.pairwise_iff_getElem.2 fun p q hp hq hpq => ?_
      have step : ∀ n, ∀ (hn : p + 1 + n < (keysOf l).length), (keysOf l)[p] < (keysOf l)[p + 1 + n] := by
        intro n
        induction n with
        | zero =>
          intro hn
          have := hb (p + 1) (by omega) (by omega) (by omega)
          simpa using this
        | succ n ih =>
          intro hn
          have h2 := hb (p + 1 + (n + 1)) (by omega) (by omega) hn
          exact txt_lt_trans (ih (by omega)) (by simpa using h2)
      have := step (q - p - 1) (by omega)
      simpa [show p + 1 + (q - p - 1) = q by omega] using this
    rw [decide_eq_true hr]
    exact Ev.step (fun k => by rw [pack_Is.l0, if_neg (by omega)]) (Ev.now _)
  | succ d ih =>
    intro i h1 hi hb
    by_cases hlt : i < l.length
    · have hw : wrap64 ((i : Int) - 1) = ((i - 1 : Nat) : Int) := by rw [wrap_id (by omega)]; omega
      have hw2 : wrap64 ((i : Int) + 1) = ((i + 1 : Nat) : Int) := by rw [wrap_id (by omega)]; rfl
      have hl1 : i - 1 < l.length := by omega
      have e : (Op.bytesLess ((rdOf ByteArray.empty l ((i - 1 : Nat) : Int)).toList) ((rdOf ByteArray.empty l (i : Int)).toList) = true) ↔ (keysOf l)[i - 1]'(by omega) < (keysOf l)[i]'(by omega) := by
        rw [rd_nat hl1, rd_nat hlt, Go.Proofs.bytesLess_eq, decide_eq_true_iff, key_at hl1, key_at hlt]
      refine Ev.step (fun k => by rw [pack_Is.l0, if_pos (by omega), hw, if_pos (by omega), if_pos (by omega), if_pos (by omega)]) ?_
      by_cases hc : (keysOf l)[i - 1]'(by omega) < (keysOf l)[i]'(by omega)
      · refine Ev.ite_pos (e.2 hc) ?_
        rw [hw2]
        refine ih (i + 1) (by omega) (by omega) (fun j a b c => ?_)
        by_cases ej : j = i
        · subst ej; exact hc
        · exact hb j a (by omega) c
      · refine Ev.ite_neg (fun h => hc (e.1 h)) ?_
        rw [show decide (Rises (keysOf l)) = false from decide_eq_false (fun hr => hc (List.pairwise_iff_getElem.1 hr _ _ (by omega) (by omega) (by omega)))]
        exact Ev.now _
    · rw [show decide (Rises (keysOf l)) = true from decide_eq_true (by
        have : (keysOf l).length ≤ 1 := by omega
        match keysOf l, this with
        | [], _ => exact List.Pairwise.nil
        | [x], _ => exact List.pairwise_singleton _ _
        | _ :: _ :: _, h => simp at h)]
      exact Ev.step (fun k => by rw [pack_Is.l0, if_neg (by omega)]) (Ev.now _)
theorem is_ev (l : List ByteArray) (hl : l.length ≤ 1000000000000) : Ev (fun k => pack_Is.f k l) (decide (Rises (keysOf l))) := by
  unfold pack_Is.f
  exact is_l0 l hl (max l.length 1 - 1) 1 (Nat.le_refl _) (by omega) (fun j a b _ => by omega)
theorem mid_eq (lo hi n : Nat) (h : hi ≤ n) (hn : n ≤ 1000000000000) (hl : lo ≤ hi) : wrap64 ((IntKind.u64.wrap (wrap64 ((lo : Int) + (hi : Int)))) / 2) = (((lo + hi) / 2 : Nat) : Int) := by
  have h1 : wrap64 ((lo : Int) + (hi : Int)) = ((lo + hi : Nat) : Int) := by rw [wrap_id (by omega)]; rfl
  have h2 : IntKind.u64.wrap ((lo + hi : Nat) : Int) = ((lo + hi : Nat) : Int) := by
    show ((lo + hi : Nat) : Int) % 18446744073709551616 = _
    clear h1
    omega
  rw [h1, h2]
  clear h1 h2
  rw [wrap_id (by omega)]
  omega
theorem less_some (a b : ByteArray) : cmp_Less_string.f a b = some (decide (a.data.toList < b.data.toList)) := by
  unfold cmp_Less_string.f cmp_isNaN_string.f
  simp only [bne_self_eq_false, Option.bind_some]
  rw [if_neg (by simp), Go.Proofs.bytesLess_eq, Lib.toList_data, Lib.toList_data]
theorem keysOf_at {l : List ByteArray} {i : Nat} (h : i < l.length) : (keysOf l)[i]'(by rw [keys_length]; exact h) = l[i].data.toList := by
  unfold keysOf pack_set_string.keys
  rw [List.getElem_map]
/-- slices.BinarySearch of a list that rises tells whether the text is there. -/
theorem bin_l0 (l : List ByteArray) (t : ByteArray) (hr : Rises (keysOf l)) (hl : l.length ≤ 1000000000000) : ∀ (d lo hi : Nat), hi - lo = d → lo ≤ lower (keysOf l) t.data.toList → lower (keysOf l) t.data.toList ≤ hi → hi ≤ l.length →
    Ev (fun k => slices_BinarySearch_string_string.l0 k l t l.length lo hi) ((lower (keysOf l) t.data.toList : Int), decide (t.data.toList ∈ keysOf l)) := by
  have hk := keys_length l
  intro d
  induction d using Nat.strongRecOn with
  | _ d ih =>
    intro lo hi hd h1 h2 h3
    by_cases hlt : lo < hi
    · have hm := mid_eq lo hi l.length h3 hl (Nat.le_of_lt hlt)
      obtain ⟨m, hme⟩ : ∃ m, m = (lo + hi) / 2 := ⟨_, rfl⟩
      have hm1 : lo ≤ m ∧ m < hi := by omega
      rw [← hme] at hm
      have hw : wrap64 ((m : Int) + 1) = ((m + 1 : Nat) : Int) := by clear hm; rw [wrap_id (by omega)]; rfl
      have q1 : (lo : Int) < (hi : Int) := by clear hm hw; omega
      have q2 : (0 : Int) ≤ (m : Int) := Int.natCast_nonneg m
      have q3 : m < l.length := by clear hm hw; omega
      have q4 : (m : Int) < (l.length : Int) := Int.ofNat_lt.2 q3
      have e1 : ∀ k, slices_BinarySearch_string_string.l0 (k + 1) l t l.length lo hi = (if decide (l[m].data.toList < t.data.toList) = true then slices_BinarySearch_string_string.l0 k l t l.length ((m + 1 : Nat) : Int) hi else slices_BinarySearch_string_string.l0 k l t l.length lo m) := by
        intro k
        rw [slices_BinarySearch_string_string.l0]
        simp only [hm, hw]
        rw [if_pos q1, if_pos q2, if_pos q4, rd_nat q3, less_some, Option.bind_some]
      refine Ev.step e1 ?_
      have hi' := lower_iff hr t.data.toList m (by clear hm hw; omega)
      rw [keysOf_at (by clear hm hw; omega)] at hi'
      by_cases hc : l[m].data.toList < t.data.toList
      · refine Ev.ite_pos (by simpa using hc) ?_
        exact ih (hi - (m + 1)) (by clear hm hw; omega) (m + 1) hi rfl (by have := hi'.1 hc; clear hm hw; omega) h2 h3
      · refine Ev.ite_neg (by simpa using hc) ?_
        exact ih (m - lo) (by clear hm hw; omega) lo m rfl h1 (by have : ¬ m < lower (keysOf l) t.data.toList := fun h => hc (hi'.2 h); clear hm hw; omega) (by clear hm hw; omega)
    · have e : lo = lower (keysOf l) t.data.toList := by omega
      subst e
      have hmem : t.data.toList ∈ keysOf l ↔ (keysOf l)[lower (keysOf l) t.data.toList]? = some t.data.toList := by
        constructor
        · intro hm
          obtain ⟨j, hj, hje⟩ := List.getElem_of_mem hm
          have a1 : ¬ j < lower (keysOf l) t.data.toList := fun h => by
            have := (lower_iff hr _ j hj).2 h
            rw [hje] at this; exact txt_lt_irrefl _ this
          have a2 : ¬ lower (keysOf l) t.data.toList < j := fun h => by
            have h4 := List.pairwise_iff_getElem.1 hr _ _ (by omega) hj h
            rw [hje] at h4
            have := (lower_iff hr _ _ (by omega)).1 h4
            omega
          have : j = lower (keysOf l) t.data.toList := by omega
          rw [← this, List.getElem?_eq_getElem hj, hje]
        · exact fun h => List.mem_of_getElem? h
      by_cases hend : lower (keysOf l) t.data.toList < l.length
      · refine Ev.step (fun k => by rw [slices_BinarySearch_string_string.l0, if_neg (by omega), if_pos (by omega), if_pos (by omega), if_pos (by omega), rd_nat hend]) ?_
        have hg : (keysOf l)[lower (keysOf l) t.data.toList]? = some (l[lower (keysOf l) t.data.toList].data.toList) := by
          rw [List.getElem?_eq_getElem (by omega), keysOf_at hend]
        by_cases hc : l[lower (keysOf l) t.data.toList].toList = t.toList
        · refine Ev.ite_pos hc ?_
          rw [Lib.toList_data, Lib.toList_data] at hc
          rw [decide_eq_true (hmem.2 (by rw [hg, hc]))]
          exact Ev.now _
        · refine Ev.ite_neg hc ?_
          rw [Lib.toList_data, Lib.toList_data] at hc
          rw [decide_eq_false (fun h => hc (by have := hmem.1 h; rw [hg] at this; exact Option.some.inj this))]
          refine Ev.bind0 (a := false) (by unfold slices_isNaN_string.f; simp) (Ev.ite_neg (by simp) (Ev.now _))
      · rw [decide_eq_false (fun h => by have := hmem.1 h; rw [List.getElem?_eq_none (by omega)] at this; cases this)]
        exact Ev.step (fun k => by rw [slices_BinarySearch_string_string.l0, if_neg (by omega), if_neg (by omega)]) (Ev.now _)
theorem bin_ev (l : List ByteArray) (t : ByteArray) (hr : Rises (keysOf l)) (hl : l.length ≤ 1000000000000) : Ev (fun k => slices_BinarySearch_string_string.f k l t) ((lower (keysOf l) t.data.toList : Int), decide (t.data.toList ∈ keysOf l)) := by
  unfold slices_BinarySearch_string_string.f
  have h := lower_le (keysOf l) t.data.toList
  rw [keys_length] at h
  exact bin_l0 l t hr hl _ 0 l.length rfl (Nat.zero_le _) h (Nat.le_refl _)
/-- What is met. -/
def meetT (a b : List ByteArray) : List ByteArray := (setT a).filter fun x => decide (x.data.toList ∈ keysOf b)
theorem filt_ev (y : List ByteArray) (hr : Rises (keysOf y)) (hl : y.length ≤ 1000000000000) : ∀ xs : List ByteArray, Ev (fun k => pack_Meet.filt k y xs) (xs.filter fun x => decide (x.data.toList ∈ keysOf y))
  | [] => Ev.now _
  | x :: xs => by
    have hk : Ev (fun k => pack_Meet.keep k y x) (decide (x.data.toList ∈ keysOf y)) := Ev.bind (bin_ev y x hr hl) (Ev.now _)
    refine Ev.bind hk (Ev.bind (filt_ev y hr hl xs) (Ev.some ?_))
    rw [List.filter_cons]
theorem meet_ev (a b : List ByteArray) (ha : a.length ≤ 100000000000) (hb : b.length ≤ 100000000000) : Ev (fun k => pack_Meet.f k a b) (meetT a b) := by
  unfold pack_Meet.f
  refine Ev.bind0 (set_some a (by omega)) (Ev.bind0 (set_some b (by omega)) ?_)
  have hr : Rises (keysOf (setT b)) := by rw [keys_setT]; exact (tset_rises _).1
  have h := filt_ev (setT b) hr (Nat.le_trans (setT_length b) (by omega)) (setT a)
  have e : (setT a).filter (fun x => decide (x.data.toList ∈ keysOf (setT b))) = meetT a b := by
    unfold meetT
    congr 1
    funext x
    rw [keys_setT]
    exact decide_eq_decide.2 ((tset_rises _).2 _)
  rw [e] at h
  exact h
theorem data_append0 (a b : ByteArray) : (a ++ b).data.toList = a.data.toList ++ b.data.toList := by simp
/-- The first bytes of two texts. -/
def tc (K : Nat) (x y : ByteArray) : ByteArray := ⟨((x.data.toList ++ y.data.toList).take K).toArray⟩
theorem ext_list {a b : ByteArray} (h : a.data.toList = b.data.toList) : a = b := by
  apply ByteArray.ext
  apply Array.toList_inj.1 h
theorem tcat_some (x y : ByteArray) (k : Int) (hx : x.size ≤ 1000000000000) (hy : y.size ≤ 1000000000000) (hk : -9223372036854775808 ≤ k ∧ k ≤ 9223372036854775807) : tuple_Cat.f x y k = some (tc (mx k 0).toNat x y) := by
  have hsx := size_list x
  have hsy := size_list y
  unfold tuple_Cat.f
  by_cases h : (x.size : Int) ≥ k
  · have hm : 0 ≤ mx k 0 ∧ mx k 0 ≤ x.size := by unfold mx; split <;> omega
    rw [if_pos h, if_pos hm.1, if_pos hm.2]
    congr 1
    apply ext_list
    rw [extract_list]
    unfold tc
    simp only [List.drop_zero]
    rw [List.take_append_of_le_length (by omega)]
  · have hm : mx k 0 = k := by unfold mx; split <;> omega
    by_cases hb : k ≤ 9223372036854775807 - 0 ∧ 0 ≤ k - x.size ∧ k - (x.size : Int) ≤ 9223372036854775807
    · have hw : wrap64 (k - (x.size : Int)) = k - (x.size : Int) := wrap_id (by omega)
      have hn : 0 ≤ mn (k - (x.size : Int)) (y.size : Int) ∧ mn (k - (x.size : Int)) (y.size : Int) ≤ y.size := by unfold mn; split <;> omega
      rw [if_neg h, hw, if_pos hn.1, if_pos hn.2, if_pos (by rw [ByteArray.size_extract]; clear hw; omega)]
      congr 1
      apply ext_list
      rw [data_append0, extract_list]
      unfold tc
      simp only [List.drop_zero]
      rw [hm, List.take_append]
      rw [List.take_of_length_le (show x.data.toList.length ≤ k.toNat by clear hw; omega)]
      congr 1
      have e : (mn (k - (x.size : Int)) (y.size : Int)).toNat = min (k.toNat - x.data.toList.length) y.data.toList.length := by
        rw [hsx, hsy]
        unfold mn
        clear hw
        split <;> omega
      rw [e, List.take_eq_take_iff]
      omega
    · exact absurd ⟨by omega, by omega, by omega⟩ hb
theorem tc_size (K : Nat) (x y : ByteArray) : (tc K x y).size ≤ x.size + y.size := by
  have hsx := size_list x
  have hsy := size_list y
  have : (tc K x y).size = ((x.data.toList ++ y.data.toList).take K).length := by
    show ((x.data.toList ++ y.data.toList).take K).toArray.size = _
    simp
  rw [this, List.length_take, List.length_append]
  omega
/-- What pack.Cat puts into the set, of one text. -/
def rowOf (K : Nat) (b : List ByteArray) (x : ByteArray) : List ByteArray := if K ≤ x.size ∧ 0 < b.length then [x.extract 0 K] else b.map (tc K x)
theorem rowOf_length (K : Nat) (b : List ByteArray) (x : ByteArray) : (rowOf K b x).length ≤ b.length := by
  unfold rowOf
  split
  · rename_i h; exact h.2
  · simp
section
variable (b : List ByteArray) (k : Int) (hk : -9223372036854775808 ≤ k ∧ k ≤ 9223372036854775807) (hb : b.length ≤ 1000000) (hbs : ∀ y ∈ b, y.size ≤ 1000000000000)
include hk hb hbs
theorem cat_l1 (x : ByteArray) (hx : x.size ≤ 1000000000000) (A : List ByteArray) (i : Int) (r : List ByteArray) : ∀ (d j : Nat) (acc : List ByteArray), j + d = b.length → acc.length + d ≤ 1000000000000 →
    Ev (fun n => pack_Cat.l0 n b k (acc ++ (b.drop j).map (tc (mx k 0).toNat x)) A A.length (wrap64 (i + 1))) r → Ev (fun n => pack_Cat.l1 n b k acc x A A.length i b b.length j) r := by
  intro d
  induction d with
  | zero =>
    intro j acc hj _ h
    rw [List.drop_of_length_le (by omega), List.map_nil, List.append_nil] at h
    exact Ev.step (fun n => by rw [pack_Cat.l1, if_neg (by omega)]) h
  | succ d ih =>
    intro j acc hj ha h
    have hlt : j < b.length := by omega
    have hw : wrap64 ((j : Int) + 1) = ((j + 1 : Nat) : Int) := by rw [wrap_id (by omega)]; rfl
    refine Ev.step (fun n => by rw [pack_Cat.l1, if_pos (by clear hw; omega), if_pos (by clear hw; omega), if_pos (by clear hw; omega), rd_nat hlt, hw]) ?_
    refine Ev.bind0 (tcat_some x b[j] k hx (hbs _ (List.getElem_mem _)) hk) (Ev.ite_pos (by clear hw; omega) ?_)
    refine ih (j + 1) _ (by omega) (by simp; omega) ?_
    rw [List.drop_eq_getElem_cons hlt, List.map_cons] at h
    simpa using h
theorem cat_l0 (a : List ByteArray) (hal : a.length ≤ 100000) (has : ∀ x ∈ a, x.size ≤ 1000000000000) : ∀ (d i : Nat) (acc : List ByteArray), i + d = a.length → acc.length + d * b.length ≤ 100000000000 →
    Ev (fun n => pack_Cat.l0 n b k acc a a.length i) (setT (acc ++ (a.drop i).flatMap (rowOf (mx k 0).toNat b))) := by
  intro d
  induction d with
  | zero =>
    intro i acc hi ha
    rw [List.drop_of_length_le (by omega), List.flatMap_nil, List.append_nil]
    exact Ev.step (fun n => by rw [pack_Cat.l0, if_neg (by omega)]) (Ev.bind0 (set_some acc (by omega)) (Ev.now _))
  | succ d ih =>
    intro i acc hi ha
    have hlt : i < a.length := by omega
    have hw : wrap64 ((i : Int) + 1) = ((i + 1 : Nat) : Int) := by rw [wrap_id (by omega)]; rfl
    have hsz := has _ (List.getElem_mem hlt)
    have hmx : 0 ≤ mx k 0 := by unfold mx; split <;> omega
    have hlen := rowOf_length (mx k 0).toNat b a[i]
    have hmul : (d + 1) * b.length = d * b.length + b.length := Nat.succ_mul _ _
    rw [List.drop_eq_getElem_cons hlt, List.flatMap_cons, ← List.append_assoc]
    have ih' := ih (i + 1) (acc ++ rowOf (mx k 0).toNat b a[i]) (by omega) (by rw [List.length_append]; omega)
    refine Ev.step (fun n => by rw [pack_Cat.l0, if_pos (by clear hw; omega), if_pos (by clear hw; omega), if_pos (by clear hw; omega), rd_nat hlt]) ?_
    have hj1t : ∀ (hc1 : mx k 0 ≤ (a[i].size : Int)) (hc2 : 0 < b.length), Ev (fun n => pack_Cat.j1 n b k acc a[i] a a.length i true) (setT (acc ++ rowOf (mx k 0).toNat b a[i] ++ (a.drop (i + 1)).flatMap (rowOf (mx k 0).toNat b))) := by
      intro hc1 hc2
      refine Ev.step (fun n => by rw [pack_Cat.j1, if_pos rfl, if_pos hmx, if_pos hc1, if_pos (by clear hw; omega), hw]) ?_
      have e : rowOf (mx k 0).toNat b a[i] = [a[i].extract 0 (mx k 0).toNat] := by unfold rowOf; rw [if_pos ⟨by clear hw; omega, hc2⟩]
      rw [e] at ih' ⊢
      exact ih'
    have hj1f : ¬ ((mx k 0).toNat ≤ a[i].size ∧ 0 < b.length) → Ev (fun n => pack_Cat.j1 n b k acc a[i] a a.length i false) (setT (acc ++ rowOf (mx k 0).toNat b a[i] ++ (a.drop (i + 1)).flatMap (rowOf (mx k 0).toNat b))) := by
      intro hc
      refine Ev.step (fun n => by rw [pack_Cat.j1, if_neg (by simp)]) ?_
      have e : rowOf (mx k 0).toNat b a[i] = b.map (tc (mx k 0).toNat a[i]) := by unfold rowOf; rw [if_neg hc]
      refine cat_l1 b k hk hb hbs a[i] hsz a i _ b.length 0 acc (by omega) (by clear hw; omega) ?_
      rw [List.drop_zero, hw, ← e]
      exact ih'
    by_cases hc1 : (a[i].size : Int) ≥ mx k 0
    · refine Ev.ite_pos hc1 ?_
      by_cases hc2 : 0 < b.length
      · rw [show decide ((b.length : Int) > 0) = true from decide_eq_true (by clear hw; omega)]
        exact hj1t hc1 hc2
      · rw [show decide ((b.length : Int) > 0) = false from decide_eq_false (by clear hw; omega)]
        exact hj1f (fun h => hc2 h.2)
    · refine Ev.ite_neg hc1 (hj1f (fun h => hc1 (by have := h.1; clear hw; omega)))
theorem cat_ev (a : List ByteArray) (hal : a.length ≤ 100000) (has : ∀ x ∈ a, x.size ≤ 1000000000000) : Ev (fun n => pack_Cat.f n a b k) (setT (a.flatMap (rowOf (mx k 0).toNat b))) := by
  unfold pack_Cat.f
  have h := cat_l0 b k hk hb hbs a hal has a.length 0 [] (by omega) (by
    have : a.length * b.length ≤ 100000 * 1000000 := Nat.mul_le_mul hal hb
    simp; omega)
  simpa using h
end
theorem mem_row (K : Nat) (a b : List ByteArray) (t : Txt) : t ∈ keysOf (a.flatMap (rowOf K b)) ↔ ∃ x ∈ a, ∃ y ∈ b, t = (x.data.toList ++ y.data.toList).take K := by
  unfold keysOf pack_set_string.keys
  simp only [List.mem_map, List.mem_flatMap]
  constructor
  · rintro ⟨z, ⟨x, hx, hz⟩, rfl⟩
    refine ⟨x, hx, ?_⟩
    unfold rowOf at hz
    split at hz
    · rename_i hc
      obtain ⟨y, hy⟩ := List.exists_mem_of_length_pos hc.2
      refine ⟨y, hy, ?_⟩
      rw [List.mem_singleton.1 hz, extract_list]
      simp only [List.drop_zero]
      rw [List.take_append_of_le_length (by have := size_list x; omega)]
    · obtain ⟨y, hy, rfl⟩ := List.mem_map.1 hz
      exact ⟨y, hy, rfl⟩
  · rintro ⟨x, hx, y, hy, rfl⟩
    unfold rowOf
    by_cases hc : K ≤ x.size ∧ 0 < b.length
    · refine ⟨x.extract 0 K, ⟨x, hx, by rw [if_pos hc]; simp⟩, ?_⟩
      rw [extract_list]
      simp only [List.drop_zero]
      rw [List.take_append_of_le_length (by have := size_list x; omega)]
    · exact ⟨tc K x y, ⟨x, hx, by rw [if_neg hc]; exact List.mem_map.2 ⟨y, hy, rfl⟩⟩, rfl⟩
theorem few_l0 (l : List ByteArray) (hl : l.length ≤ 1000000000000000) : ∀ (d i : Nat) (acc : List ByteArray), 30 - i ≤ d → acc.length ≤ i → (∀ x ∈ acc, x.size ≤ 10) → i ≤ 30 →
    ∃ r, Ev (fun k => gramaryelaw13_few.l0 k l acc i) r ∧ r.length ≤ 30 ∧ ∀ x ∈ r, x.size ≤ 10 := by
  intro d
  induction d with
  | zero =>
    intro i acc hd ha hs hi
    refine ⟨acc, ?_, by omega, hs⟩
    by_cases hlt : i < l.length
    · exact Ev.step (fun k => by rw [gramaryelaw13_few.l0, if_pos (by omega), if_neg (by omega)]) (Ev.now _)
    · exact Ev.step (fun k => by rw [gramaryelaw13_few.l0, if_neg (by omega)]) (Ev.now _)
  | succ d ih =>
    intro i acc hd ha hs hi
    by_cases hlt : i < l.length
    · by_cases h30 : i < 30
      · have hw : wrap64 ((i : Int) + 1) = ((i + 1 : Nat) : Int) := by rw [wrap_id (by omega)]; rfl
        have hm : 0 ≤ mn (l[i].size : Int) 10 ∧ mn (l[i].size : Int) 10 ≤ l[i].size ∧ mn (l[i].size : Int) 10 ≤ 10 := by unfold mn; split <;> omega
        obtain ⟨r, h1, h2, h3⟩ := ih (i + 1) (acc ++ [l[i].extract 0 (mn (l[i].size : Int) 10).toNat]) (by omega) (by simp; omega) (fun x hx => by
          rcases List.mem_append.1 hx with h | h
          · exact hs x h
          · rw [List.mem_singleton.1 h, ByteArray.size_extract]; clear hw; omega) (by omega)
        refine ⟨r, ?_, h2, h3⟩
        refine Ev.step (fun k => by rw [gramaryelaw13_few.l0, if_pos (by clear hw; omega), if_pos (by clear hw; omega), if_pos (by clear hw; omega), rd_nat hlt, if_pos hm.1, if_pos hm.2.1, if_pos (by clear hw; omega), hw]) h1
      · exact ⟨acc, Ev.step (fun k => by rw [gramaryelaw13_few.l0, if_pos (by omega), if_neg (by omega)]) (Ev.now _), by omega, hs⟩
    · exact ⟨acc, Ev.step (fun k => by rw [gramaryelaw13_few.l0, if_neg (by omega)]) (Ev.now _), by omega, hs⟩
theorem few_ev (l : List ByteArray) (hl : l.length ≤ 1000000000000000) : ∃ r, Ev (fun k => gramaryelaw13_few.f k l) r ∧ r.length ≤ 30 ∧ ∀ x ∈ r, x.size ≤ 10 := few_l0 l hl 30 0 [] (by omega) (by simp) (fun x hx => by simp at hx) (by omega)
theorem equal_l0 (l : List ByteArray) (hl : l.length ≤ 1000000000000) : ∀ (d i : Nat), i + d = l.length → Ev (fun k => slices_Equal_string_string.l0 k l l l.length i) true := by
  intro d
  induction d with
  | zero =>
    intro i hi
    exact Ev.step (fun k => by rw [slices_Equal_string_string.l0, if_neg (by omega)]) (Ev.now _)
  | succ d ih =>
    intro i hi
    have hw : wrap64 ((i : Int) + 1) = ((i + 1 : Nat) : Int) := by rw [wrap_id (by omega)]; rfl
    refine Ev.step (fun k => by rw [slices_Equal_string_string.l0, if_pos (by clear hw; omega), if_pos (by clear hw; omega), if_pos (by clear hw; omega), if_pos (by clear hw; omega), if_pos rfl, hw]) (ih (i + 1) (by omega))
theorem same_ev (a b : List ByteArray) (ha : a.length ≤ 1000000) (hb : b.length ≤ 1000000) (h : setT a = setT b) : Ev (fun k => pack_Same.f k a b) true := by
  unfold pack_Same.f
  refine Ev.bind0 (set_some a (by omega)) (Ev.bind0 (set_some b (by omega)) ?_)
  rw [h]
  refine Ev.bind ?_ (Ev.now _)
  unfold slices_Equal_string_string.f
  exact Ev.ite_pos rfl (equal_l0 _ (Nat.le_trans (setT_length b) (by omega)) _ 0 (Nat.zero_add _))
theorem index_has (t : ByteArray) (l : List ByteArray) (hl : l.length ≤ 1000000000000) : ∀ (d i : Nat), i + d = l.length → (∃ j, ∃ h : j < l.length, i ≤ j ∧ l[j] = t) → ∃ z : Int, 0 ≤ z ∧ Ev (fun k => slices_Index_string_string.l0 k l t l.length i) z := by
  intro d
  induction d with
  | zero =>
    rintro i hi ⟨j, hj, hij, _⟩
    omega
  | succ d ih =>
    rintro i hi ⟨j, hj, hij, he⟩
    have hlt : i < l.length := by omega
    have hw : wrap64 ((i : Int) + 1) = ((i + 1 : Nat) : Int) := by rw [wrap_id (by omega)]; rfl
    by_cases e : t.toList = l[i].toList
    · exact ⟨i, by omega, Ev.step (fun k => by rw [slices_Index_string_string.l0, if_pos (by clear hw; omega), if_pos (by clear hw; omega), if_pos (by clear hw; omega), rd_nat hlt, if_pos e]) (Ev.now _)⟩
    · obtain ⟨z, h0, hz⟩ := ih (i + 1) (by omega) ⟨j, hj, by
        rcases Nat.lt_or_ge i j with h | h
        · exact h
        · have : i = j := by omega
          subst this
          exact absurd (congrArg ByteArray.toList he.symm) e, he⟩
      exact ⟨z, h0, Ev.step (fun k => by rw [slices_Index_string_string.l0, if_pos (by clear hw; omega), if_pos (by clear hw; omega), if_pos (by clear hw; omega), rd_nat hlt, if_neg e, hw]) hz⟩
theorem has_ev (l : List ByteArray) (t : ByteArray) (hl : l.length ≤ 1000000) (h : t ∈ l) : Ev (fun k => pack_Has.f k l t) true := by
  unfold pack_Has.f
  refine Ev.bind (is_ev l (by omega)) ?_
  by_cases hr : Rises (keysOf l)
  · refine Ev.ite_pos (by simpa using hr) ?_
    have hm : t.data.toList ∈ keysOf l := List.mem_map.2 ⟨t, h, rfl⟩
    have hb := bin_ev l t hr (by omega)
    rw [decide_eq_true hm] at hb
    exact Ev.bind hb (Ev.now _)
  · refine Ev.ite_neg (by simpa using hr) ?_
    obtain ⟨j, hj, he⟩ := List.getElem_of_mem h
    obtain ⟨z, h0, hz⟩ := index_has t l (by omega) l.length 0 (by omega) ⟨j, hj, Nat.zero_le _, he⟩
    unfold slices_Contains_string_string.f slices_Index_string_string.f
    exact Ev.bind (Ev.bind hz (Ev.now _)) (Ev.some (by simpa using h0))
theorem mem_keys {l : List ByteArray} {x : ByteArray} : x.data.toList ∈ keysOf l ↔ x ∈ l := by
  unfold keysOf pack_set_string.keys
  rw [List.mem_map]
  constructor
  · rintro ⟨y, hy, e⟩
    rw [← ext_list e]; exact hy
  · exact fun h => ⟨x, h, rfl⟩
theorem mem_setT {l : List ByteArray} {x : ByteArray} : x ∈ setT l ↔ x ∈ l := by
  rw [← mem_keys, keys_setT, (tset_rises _).2, mem_keys]
theorem setT_congr {a b : List ByteArray} (h : ∀ x, x ∈ a ↔ x ∈ b) : setT a = setT b := by
  unfold setT
  rw [tset_congr (a := keysOf a) (b := keysOf b) fun t => ?_]
  unfold keysOf pack_set_string.keys
  simp only [List.mem_map, h]
theorem mem_meetT {a b : List ByteArray} {x : ByteArray} : x ∈ meetT a b ↔ x ∈ a ∧ x ∈ b := by
  unfold meetT
  rw [List.mem_filter, mem_setT, decide_eq_true_iff, mem_keys]
theorem meetT_rises (a b : List ByteArray) : Rises (keysOf (meetT a b)) := by
  unfold meetT keysOf pack_set_string.keys
  have h : Rises (keysOf (setT a)) := by rw [keys_setT]; exact (tset_rises _).1
  exact List.Pairwise.sublist (List.Sublist.map _ List.filter_sublist) h
theorem meetT_length (a b : List ByteArray) : (meetT a b).length ≤ a.length := Nat.le_trans (List.length_filter_le _ _) (setT_length a)
theorem works_ev : Ev (fun k => gramaryelaw13_works.f k) true := by
  unfold gramaryelaw13_works.f
  have hc := cat_ev [(⟨#[99]⟩ : ByteArray)] 2 (by decide) (by decide) (fun y hy => by rw [List.mem_singleton.1 hy]; decide) [(⟨#[97]⟩ : ByteArray), (⟨#[97, 98]⟩ : ByteArray)] (by decide) (fun x hx => by
    rcases List.mem_cons.1 hx with rfl | hx
    · decide
    · rw [List.mem_singleton.1 hx]; decide)
  have e : setT (([(⟨#[97]⟩ : ByteArray), (⟨#[97, 98]⟩ : ByteArray)] : List ByteArray).flatMap (rowOf (mx 2 0).toNat [(⟨#[99]⟩ : ByteArray)])) = [(⟨#[97, 98]⟩ : ByteArray), (⟨#[97, 99]⟩ : ByteArray)] := by
    have e1 : ([(⟨#[97]⟩ : ByteArray), (⟨#[97, 98]⟩ : ByteArray)] : List ByteArray).flatMap (rowOf (mx 2 0).toNat [(⟨#[99]⟩ : ByteArray)]) = [(⟨#[97, 99]⟩ : ByteArray), (⟨#[97, 98]⟩ : ByteArray)] := by decide
    rw [e1]
    unfold setT
    have e2 : tset (keysOf [(⟨#[97, 99]⟩ : ByteArray), (⟨#[97, 98]⟩ : ByteArray)]) = [[97, 98], [97, 99]] := rises_eq (tset_rises _).1 (by decide) (fun x => by
      rw [(tset_rises _).2]
      show x ∈ [[97, 99], [97, 98]] ↔ _
      simp only [List.mem_cons, List.not_mem_nil, or_false]
      exact Or.comm)
    rw [e2]; rfl
  rw [e] at hc
  refine Ev.bind hc (Ev.bind (a := true) (Ev.of (fun k => gramaryebase_SameTexts.mono _ _ k) (k := 10) (by kernel_rfl)) (Ev.ite_pos rfl (Ev.bind (a := true) (Ev.of (fun k => pack_Is.mono _ k) (k := 10) (by kernel_rfl)) (Ev.ite_pos rfl (Ev.bind (a := false) (Ev.of (fun k => pack_Is.mono _ k) (k := 10) (by kernel_rfl)) (Ev.now _))))))
theorem few_id0 (l : List ByteArray) (hl : l.length ≤ 30) (hs : ∀ x ∈ l, x.size ≤ 10) : ∀ (d i : Nat), i + d = l.length → Ev (fun k => gramaryelaw13_few.l0 k l (l.take i) i) l := by
  intro d
  induction d with
  | zero =>
    intro i hi
    rw [List.take_of_length_le (by omega)]
    exact Ev.step (fun k => by rw [gramaryelaw13_few.l0, if_neg (by omega)]) (Ev.now _)
  | succ d ih =>
    intro i hi
    have hlt : i < l.length := by omega
    have hw : wrap64 ((i : Int) + 1) = ((i + 1 : Nat) : Int) := by rw [wrap_id (by omega)]; rfl
    have hx := hs l[i] (List.getElem_mem _)
    have hm : mn (l[i].size : Int) 10 = l[i].size := by unfold mn; split <;> omega
    have he : l[i].extract 0 (l[i].size : Int).toNat = l[i] := by simp
    have hg := ih (i + 1) (by omega)
    rw [List.take_succ_eq_append_getElem hlt] at hg
    refine Ev.step (fun k => by rw [gramaryelaw13_few.l0, if_pos (by clear hw; omega), if_pos (by clear hw; omega), if_pos (by clear hw; omega), rd_nat hlt, hm, if_pos (by clear hw; omega), if_pos (by clear hw; omega), if_pos (by rw [List.length_take]; clear hw; omega), he, hw]) hg
theorem few_id (l : List ByteArray) (hl : l.length ≤ 30) (hs : ∀ x ∈ l, x.size ≤ 10) : Ev (fun k => gramaryelaw13_few.f k l) l := few_id0 l hl hs l.length 0 (by omega)
theorem rmid_eq (lo hi n : Nat) (h : hi ≤ n) (hn : n ≤ 1000000000000) : wrap64 (Int.tdiv (wrap64 ((lo : Int) + (hi : Int))) 2) = (((lo + hi) / 2 : Nat) : Int) ∨ ¬ lo ≤ hi := by
  by_cases hl : lo ≤ hi
  · left
    have h1 : wrap64 ((lo : Int) + (hi : Int)) = ((lo + hi : Nat) : Int) := by rw [wrap_id (by omega)]; rfl
    have h2 : Int.tdiv ((lo + hi : Nat) : Int) 2 = (((lo + hi) / 2 : Nat) : Int) := by
      rw [Int.tdiv_eq_ediv_of_nonneg (by omega)]; rfl
    rw [h1, h2]
    clear h1 h2
    rw [wrap_id (by omega)]
  · exact .inr hl
/-- The set with one text more, as a list of texts. -/
def putB (l : List ByteArray) (t : ByteArray) : List ByteArray := txts (putT (keysOf l) t.data.toList)
theorem keys_putB (l : List ByteArray) (t : ByteArray) : keysOf (putB l t) = putT (keysOf l) t.data.toList := keys_txts _
theorem keysOf_at' {l : List ByteArray} {i : Nat} (h : i < l.length) : (keysOf l)[i]'(by rw [keys_length]; exact h) = l[i].data.toList := by
  unfold keysOf pack_set_string.keys
  rw [List.getElem_map]
theorem less_iff' (a b : ByteArray) : Op.bytesLess a.toList b.toList = true ↔ a.data.toList < b.data.toList := by
  rw [Go.Proofs.bytesLess_eq, Lib.toList_data, Lib.toList_data, decide_eq_true_iff]
theorem put_l0 (l : List ByteArray) (t : ByteArray) (hr : Rises (keysOf l)) (hl : l.length ≤ 1000000000000) : ∀ (d lo hi : Nat), hi - lo = d → lo ≤ lower (keysOf l) t.data.toList → lower (keysOf l) t.data.toList ≤ hi → hi ≤ l.length →
    Ev (fun k => gramaryeref13_Put.l0 k l t lo hi) (putB l t) := by
  have hk := keys_length l
  intro d
  induction d using Nat.strongRecOn with
  | _ d ih =>
    intro lo hi hd h1 h2 h3
    by_cases hlt : lo < hi
    · have hm : wrap64 (Int.tdiv (wrap64 ((lo : Int) + (hi : Int))) 2) = (((lo + hi) / 2 : Nat) : Int) := (rmid_eq lo hi l.length h3 hl).resolve_right (fun h => h (Nat.le_of_lt hlt))
      obtain ⟨m, hme⟩ : ∃ m, m = (lo + hi) / 2 := ⟨_, rfl⟩
      have hm1 : lo ≤ m ∧ m < hi := by clear hm; omega
      rw [← hme] at hm
      have hw : wrap64 ((m : Int) + 1) = ((m + 1 : Nat) : Int) := by clear hm; rw [wrap_id (by omega)]; rfl
      have q1 : (lo : Int) < (hi : Int) := by clear hm hw; omega
      have q2 : (0 : Int) ≤ (m : Int) := Int.natCast_nonneg m
      have q3 : m < l.length := by clear hm hw; omega
      have q4 : (m : Int) < (l.length : Int) := Int.ofNat_lt.2 q3
      refine Ev.step (fun k => by rw [gramaryeref13_Put.l0, if_pos q1, hm, hw, if_pos q2, if_pos q4, rd_nat q3]) ?_
      have hi' := lower_iff hr t.data.toList m (by clear hm hw; omega)
      rw [keysOf_at' q3] at hi'
      by_cases hc : l[m].data.toList < t.data.toList
      · refine Ev.ite_pos ((less_iff' _ _).2 hc) ?_
        exact ih (hi - (m + 1)) (by clear hm hw; omega) (m + 1) hi rfl (by have := hi'.1 hc; clear hm hw; omega) h2 h3
      · refine Ev.ite_neg (fun h => hc ((less_iff' _ _).1 h)) ?_
        exact ih (m - lo) (by clear hm hw; omega) lo m rfl h1 (by have : ¬ m < lower (keysOf l) t.data.toList := fun h => hc (hi'.2 h); clear hm hw; omega) (by clear hm hw; omega)
    · have e : lo = lower (keysOf l) t.data.toList := by omega
      have hlo : lo ≤ l.length := by omega
      have hput : ¬ (keysOf l)[lo]? = some t.data.toList → putB l t = l.take lo ++ [t] ++ l.drop lo := fun h => by
        unfold putB putT
        rw [← e, if_neg h]
        unfold txts keysOf pack_set_string.keys pack_set_string.texts
        simp [List.map_take, List.map_drop, Function.comp_def]
      have hsame : (keysOf l)[lo]? = some t.data.toList → putB l t = l := fun h => by
        unfold putB putT
        rw [← e, if_pos h, txts_keys]
      have z0 : ((lo : Nat) : Int).toNat = lo := Int.toNat_natCast lo
      have s1 : (([] : List ByteArray)).length + (l.take lo).length < 8796093022208 := by simp; omega
      have s2 : (([] : List ByteArray) ++ l.take lo).length + [t].length < 8796093022208 := by simp; omega
      have s3 : (([] : List ByteArray) ++ l.take lo ++ [t]).length + (l.drop lo).length < 8796093022208 := by simp; omega
      clear h1 h2
      by_cases hend : lo < l.length
      · have hg : (keysOf l)[lo]? = some (l[lo].data.toList) := by
          rw [List.getElem?_eq_getElem (by omega), keysOf_at' hend]
        by_cases hc : l[lo].toList = t.toList
        · have hc' := hc
          rw [Lib.toList_data, Lib.toList_data] at hc'
          rw [hsame (by rw [hg, hc'])]
          exact Ev.step (fun k => by rw [gramaryeref13_Put.l0, if_neg (by omega), if_pos (by omega), if_pos (by omega), rd_nat hend, if_pos hc]) (Ev.now _)
        · have hc' := hc
          rw [Lib.toList_data, Lib.toList_data] at hc'
          rw [hput (fun h => hc' (by rw [hg] at h; exact Option.some.inj h))]
          refine Ev.step (fun k => by rw [gramaryeref13_Put.l0, if_neg (by omega), if_pos (by omega), if_pos (by omega), rd_nat hend, if_neg hc]) (Ev.const ?_)
          simp only [Option.bind_some, z0]
          rw [if_pos (by omega), if_pos s1, if_pos s2, if_pos s3, List.nil_append]
      · rw [hput (fun h => by rw [List.getElem?_eq_none (by omega)] at h; cases h)]
        refine Ev.step (fun k => by rw [gramaryeref13_Put.l0, if_neg (by omega), if_neg (by omega)]) (Ev.const ?_)
        simp only [Option.bind_some, z0]
        rw [if_pos (by omega), if_pos (by omega), if_pos s1, if_pos s2, if_pos s3, List.nil_append]
theorem put_ev (l : List ByteArray) (t : ByteArray) (hr : Rises (keysOf l)) (hl : l.length ≤ 1000000000000) : Ev (fun k => gramaryeref13_Put.f k l t) (putB l t) := by
  unfold gramaryeref13_Put.f
  have h := lower_le (keysOf l) t.data.toList
  rw [keys_length] at h
  exact put_l0 l t hr hl _ 0 l.length rfl (Nat.zero_le _) h (Nat.le_refl _)
instance memDec (x : ByteArray) (l : List ByteArray) : Decidable (x ∈ l) := decidable_of_iff (∃ y ∈ l, y = x) ⟨fun ⟨_, h, e⟩ => e ▸ h, fun h => ⟨x, h, rfl⟩⟩
theorem putB_setT' (L : List ByteArray) (t : ByteArray) : putB (setT L) t = setT (L ++ [t]) := by
  unfold putB
  rw [keys_setT]
  unfold setT
  rw [keys_append]
  exact congrArg txts (putAll_tset (keysOf L) [t.data.toList])
theorem rd_int {l : List Int} {i : Nat} (h : i < l.length) : rd l (i : Int) = l[i] := by
  unfold rd
  simp [List.getD_eq_getElem?_getD, h]
theorem key_inj {a b : ByteArray} : a.toList = b.toList ↔ a = b := by
  rw [Lib.toList_data, Lib.toList_data]
  exact ⟨ext_list, fun h => h ▸ rfl⟩
/-- SameTexts tells whether two lists are one. -/
theorem same_dec (a b : List ByteArray) (hl : a.length ≤ 1000000000000) : Ev (fun k => gramaryebase_SameTexts.f k a b) (decide (a = b)) := by
  unfold gramaryebase_SameTexts.f
  by_cases hab : a.length = b.length
  · refine Ev.ite_pos (by omega) ?_
    have : ∀ (d i : Nat), i + d = a.length → Ev (fun k => gramaryebase_SameTexts.l0 k a b i) (decide (a.drop i = b.drop i)) := by
      intro d
      induction d with
      | zero =>
        intro i hi
        rw [List.drop_of_length_le (by omega), List.drop_of_length_le (by omega)]
        exact Ev.step (fun k => by rw [gramaryebase_SameTexts.l0, if_neg (by omega)]; rfl) (Ev.now _)
      | succ d ih =>
        intro i hi
        have h1 : i < a.length := by omega
        have h2 : i < b.length := by omega
        have hw : wrap64 ((i : Int) + 1) = ((i + 1 : Nat) : Int) := by rw [wrap_id (by omega)]; rfl
        refine Ev.step (fun k => by rw [gramaryebase_SameTexts.l0, if_pos (by clear hw; omega), if_pos (by clear hw; omega), if_pos (by clear hw; omega), rd_nat h1, rd_nat h2, hw]) ?_
        rw [List.drop_eq_getElem_cons h1, List.drop_eq_getElem_cons h2]
        by_cases e : a[i] = b[i]
        · refine Ev.ite_pos (key_inj.2 e) ?_
          rw [show decide (a[i] :: a.drop (i + 1) = b[i] :: b.drop (i + 1)) = decide (a.drop (i + 1) = b.drop (i + 1)) from decide_eq_decide.2 (by rw [List.cons.injEq]; exact ⟨fun h => h.2, fun h => ⟨e, h⟩⟩)]
          exact ih (i + 1) (by clear hw; omega)
        · refine Ev.ite_neg (fun h => e (key_inj.1 h)) ?_
          rw [decide_eq_false (by rw [List.cons.injEq]; exact fun h => e h.1)]
          exact Ev.now _
    have h := this a.length 0 (by omega)
    rw [List.drop_zero, List.drop_zero] at h
    exact h
  · rw [decide_eq_false (fun h => hab (by rw [h]))]
    exact Ev.ite_neg (by omega) (Ev.now _)
theorem setT_nil : setT [] = [] := by unfold setT; rw [show keysOf [] = [] from rfl, tset_of_rises rises_nil]; rfl
theorem rmake_ev (l : List ByteArray) (hl : l.length ≤ 100000000) : Ev (fun k => gramaryeref13_Make.f k l) (setT l) := by
  have : ∀ (d i : Nat), i + d = l.length → Ev (fun k => gramaryeref13_Make.l0 k l (setT (l.take i)) i) (setT l) := by
    intro d
    induction d with
    | zero =>
      intro i hi
      rw [List.take_of_length_le (by omega)]
      exact Ev.step (fun k => by rw [gramaryeref13_Make.l0, if_neg (by omega)]) (Ev.now _)
    | succ d ih =>
      intro i hi
      have h1 : i < l.length := by omega
      have hw : wrap64 ((i : Int) + 1) = ((i + 1 : Nat) : Int) := by rw [wrap_id (by omega)]; rfl
      refine Ev.step (fun k => by rw [gramaryeref13_Make.l0, if_pos (by clear hw; omega), if_pos (by clear hw; omega), rd_nat h1, hw]) ?_
      have hp := put_ev (setT (l.take i)) l[i] (by rw [keys_setT]; exact (tset_rises _).1) (by have := setT_length (l.take i); rw [List.length_take] at this; clear hw; omega)
      rw [putB_setT', ← List.take_succ_eq_append_getElem h1] at hp
      exact Ev.bind hp (ih (i + 1) (by clear hw; omega))
  have h := this l.length 0 (by omega)
  rw [List.take_zero, setT_nil] at h
  exact h
theorem rjoin_ev (a b : List ByteArray) (ha : a.length ≤ 10000000) (hb : b.length ≤ 10000000) : Ev (fun k => gramaryeref13_Join.f k a b) (setT (a ++ b)) := by
  have : ∀ (d i : Nat), i + d = b.length → Ev (fun k => gramaryeref13_Join.l0 k b (setT (a ++ b.take i)) i) (setT (a ++ b)) := by
    intro d
    induction d with
    | zero =>
      intro i hi
      rw [List.take_of_length_le (by omega)]
      exact Ev.step (fun k => by rw [gramaryeref13_Join.l0, if_neg (by omega)]) (Ev.now _)
    | succ d ih =>
      intro i hi
      have h1 : i < b.length := by omega
      have hw : wrap64 ((i : Int) + 1) = ((i + 1 : Nat) : Int) := by rw [wrap_id (by omega)]; rfl
      refine Ev.step (fun k => by rw [gramaryeref13_Join.l0, if_pos (by clear hw; omega), if_pos (by clear hw; omega), rd_nat h1, hw]) ?_
      have hp := put_ev (setT (a ++ b.take i)) b[i] (by rw [keys_setT]; exact (tset_rises _).1) (by have := setT_length (a ++ b.take i); rw [List.length_append, List.length_take] at this; clear hw; omega)
      rw [putB_setT', List.append_assoc, ← List.take_succ_eq_append_getElem h1] at hp
      exact Ev.bind hp (ih (i + 1) (by clear hw; omega))
  unfold gramaryeref13_Join.f
  have h := this b.length 0 (by omega)
  rw [List.take_zero, List.append_nil] at h
  exact Ev.bind (rmake_ev a (by omega)) h
theorem rhas_ev (l : List ByteArray) (t : ByteArray) (hl : l.length ≤ 1000000000000) : Ev (fun k => gramaryeref13_Has.f k l t) (decide (t ∈ l)) := by
  have : ∀ (d i : Nat), i + d = l.length → Ev (fun k => gramaryeref13_Has.l0 k l t i) (decide (t ∈ l.drop i)) := by
    intro d
    induction d with
    | zero =>
      intro i hi
      rw [List.drop_of_length_le (by omega), decide_eq_false (by simp)]
      exact Ev.step (fun k => by rw [gramaryeref13_Has.l0, if_neg (by omega)]) (Ev.now _)
    | succ d ih =>
      intro i hi
      have h1 : i < l.length := by omega
      have hw : wrap64 ((i : Int) + 1) = ((i + 1 : Nat) : Int) := by rw [wrap_id (by omega)]; rfl
      refine Ev.step (fun k => by rw [gramaryeref13_Has.l0, if_pos (by clear hw; omega), if_pos (by clear hw; omega), rd_nat h1, hw]) ?_
      rw [List.drop_eq_getElem_cons h1]
      by_cases e : l[i] = t
      · rw [decide_eq_true (by simp [e])]
        exact Ev.ite_pos (key_inj.2 e) (Ev.now _)
      · rw [show decide (t ∈ l[i] :: l.drop (i + 1)) = decide (t ∈ l.drop (i + 1)) from decide_eq_decide.2 (by rw [List.mem_cons]; exact ⟨fun h => h.resolve_left (fun h => e h.symm), .inr⟩)]
        exact Ev.ite_neg (fun h => e (key_inj.1 h)) (ih (i + 1) (by clear hw; omega))
  unfold gramaryeref13_Has.f
  exact this l.length 0 (by omega)
theorem rmeet_ev (a b : List ByteArray) (ha : a.length ≤ 10000000) (hb : b.length ≤ 10000000) : Ev (fun k => gramaryeref13_Meet.f k a b) (meetT a b) := by
  have : ∀ (d i : Nat) (L : List ByteArray), i + d = a.length → L.length ≤ i → Ev (fun k => gramaryeref13_Meet.l0 k a b (setT L) i) (setT (L ++ (a.drop i).filter fun x => decide (x ∈ b))) := by
    intro d
    induction d with
    | zero =>
      intro i L hi _
      rw [List.drop_of_length_le (by omega), List.filter_nil, List.append_nil]
      exact Ev.step (fun k => by rw [gramaryeref13_Meet.l0, if_neg (by omega)]) (Ev.now _)
    | succ d ih =>
      intro i L hi hL
      have h1 : i < a.length := by omega
      have hw : wrap64 ((i : Int) + 1) = ((i + 1 : Nat) : Int) := by rw [wrap_id (by omega)]; rfl
      refine Ev.step (fun k => by rw [gramaryeref13_Meet.l0, if_pos (by clear hw; omega), if_pos (by clear hw; omega), rd_nat h1, hw]) ?_
      refine Ev.bind (rhas_ev b a[i] (by clear hw; omega)) ?_
      rw [List.drop_eq_getElem_cons h1, List.filter_cons]
      by_cases e : a[i] ∈ b
      · rw [decide_eq_true e]
        have hp := put_ev (setT L) a[i] (by rw [keys_setT]; exact (tset_rises _).1) (by have := setT_length L; clear hw; omega)
        rw [putB_setT'] at hp
        have h := ih (i + 1) (L ++ [a[i]]) (by clear hw; omega) (by rw [List.length_append, List.length_singleton]; clear hw; omega)
        rw [List.append_assoc, List.singleton_append] at h
        exact Ev.ite_pos rfl (Ev.bind hp h)
      · rw [decide_eq_false e]
        exact Ev.ite_neg (by decide) (ih (i + 1) L (by clear hw; omega) (by clear hw; omega))
  unfold gramaryeref13_Meet.f
  have h := this a.length 0 [] (by omega) (Nat.le_refl _)
  rw [setT_nil, List.drop_zero, List.nil_append] at h
  have e : setT (a.filter fun x => decide (x ∈ b)) = meetT a b := by
    have hm := meetT_rises a b
    have h2 : setT (meetT a b) = meetT a b := by unfold setT; rw [tset_of_rises hm, txts_keys]
    rw [← h2]
    exact setT_congr fun x => by rw [mem_meetT, List.mem_filter, decide_eq_true_iff]
  rw [e] at h
  exact h
theorem equal_dec (a b : List ByteArray) (hl : a.length ≤ 1000000000000) : Ev (fun k => slices_Equal_string_string.f k a b) (decide (a = b)) := by
  unfold slices_Equal_string_string.f
  by_cases hab : a.length = b.length
  · refine Ev.ite_pos (by omega) ?_
    have : ∀ (d i : Nat), i + d = a.length → Ev (fun k => slices_Equal_string_string.l0 k a b a.length i) (decide (a.drop i = b.drop i)) := by
      intro d
      induction d with
      | zero =>
        intro i hi
        rw [List.drop_of_length_le (by omega), List.drop_of_length_le (by omega)]
        exact Ev.step (fun k => by rw [slices_Equal_string_string.l0, if_neg (by omega)]; rfl) (Ev.now _)
      | succ d ih =>
        intro i hi
        have h1 : i < a.length := by omega
        have h2 : i < b.length := by omega
        have hw : wrap64 ((i : Int) + 1) = ((i + 1 : Nat) : Int) := by rw [wrap_id (by omega)]; rfl
        refine Ev.step (fun k => by rw [slices_Equal_string_string.l0, if_pos (by clear hw; omega), if_pos (by clear hw; omega), if_pos (by clear hw; omega), if_pos (by clear hw; omega), rd_nat h1, rd_nat h2, hw]) ?_
        rw [List.drop_eq_getElem_cons h1, List.drop_eq_getElem_cons h2]
        by_cases e : a[i] = b[i]
        · refine Ev.ite_pos (key_inj.2 e) ?_
          rw [show decide (a[i] :: a.drop (i + 1) = b[i] :: b.drop (i + 1)) = decide (a.drop (i + 1) = b.drop (i + 1)) from decide_eq_decide.2 (by rw [List.cons.injEq]; exact ⟨fun h => h.2, fun h => ⟨e, h⟩⟩)]
          exact ih (i + 1) (by clear hw; omega)
        · refine Ev.ite_neg (fun h => e (key_inj.1 h)) ?_
          rw [decide_eq_false (by rw [List.cons.injEq]; exact fun h => e h.1)]
          exact Ev.now _
    have h := this a.length 0 (by omega)
    rw [List.drop_zero, List.drop_zero] at h
    exact h
  · rw [decide_eq_false (fun h => hab (by rw [h]))]
    exact Ev.ite_neg (by omega) (Ev.now _)
theorem psame_dec (a b : List ByteArray) (ha : a.length ≤ 1000000) (hb : b.length ≤ 1000000) : Ev (fun k => pack_Same.f k a b) (decide (setT a = setT b)) := by
  unfold pack_Same.f
  have := setT_length a
  refine Ev.bind0 (set_some a (by omega)) (Ev.bind0 (set_some b (by omega)) (Ev.bind (equal_dec _ _ (by omega)) (Ev.now _)))
theorem index_dec (t : ByteArray) (l : List ByteArray) (hl : l.length ≤ 1000000000000) : ∀ (d i : Nat), i + d = l.length → ∃ z : Int, (0 ≤ z ↔ t ∈ l.drop i) ∧ Ev (fun k => slices_Index_string_string.l0 k l t l.length i) z := by
  intro d
  induction d with
  | zero =>
    intro i hi
    exact ⟨-1, by rw [List.drop_of_length_le (by omega)]; simp, Ev.step (fun k => by rw [slices_Index_string_string.l0, if_neg (by omega)]) (Ev.now _)⟩
  | succ d ih =>
    intro i hi
    have hlt : i < l.length := by omega
    have hw : wrap64 ((i : Int) + 1) = ((i + 1 : Nat) : Int) := by rw [wrap_id (by omega)]; rfl
    by_cases e : t = l[i]
    · exact ⟨i, by rw [List.drop_eq_getElem_cons hlt, ← e]; simp, Ev.step (fun k => by rw [slices_Index_string_string.l0, if_pos (by clear hw; omega), if_pos (by clear hw; omega), if_pos (by clear hw; omega), rd_nat hlt, if_pos (key_inj.2 e)]) (Ev.now _)⟩
    · obtain ⟨z, h0, hz⟩ := ih (i + 1) (by clear hw; omega)
      exact ⟨z, by rw [h0, List.drop_eq_getElem_cons hlt, List.mem_cons]; exact ⟨.inr, fun h => h.resolve_left e⟩, Ev.step (fun k => by rw [slices_Index_string_string.l0, if_pos (by clear hw; omega), if_pos (by clear hw; omega), if_pos (by clear hw; omega), rd_nat hlt, if_neg (fun h => e (key_inj.1 h)), hw]) hz⟩
theorem has_dec (l : List ByteArray) (t : ByteArray) (hl : l.length ≤ 1000000) : Ev (fun k => pack_Has.f k l t) (decide (t ∈ l)) := by
  unfold pack_Has.f
  refine Ev.bind (is_ev l (by omega)) ?_
  by_cases hr : Rises (keysOf l)
  · refine Ev.ite_pos (by simpa using hr) (Ev.bind (bin_ev l t hr (by omega)) (Ev.some ?_))
    exact decide_eq_decide.2 mem_keys
  · refine Ev.ite_neg (by simpa using hr) ?_
    obtain ⟨z, h0, hz⟩ := index_dec t l (by omega) l.length 0 (by omega)
    unfold slices_Contains_string_string.f slices_Index_string_string.f
    refine Ev.bind (Ev.bind hz (Ev.now _)) (Ev.some ?_)
    rw [List.drop_zero] at h0
    exact decide_eq_decide.2 h0
theorem rises_iff (a : List ByteArray) : Rises (keysOf a) ↔ a = setT a := by
  constructor
  · intro h
    unfold setT
    rw [tset_of_rises h, txts_keys]
  · intro h
    rw [h, keys_setT]
    exact (tset_rises _).1
theorem PackTells : gramaryelaw13_PackTells.Pure := by
  intro l0 l1 t h0 k0 h1 k1 h2
  refine Ev.rounds (g := fun k => gramaryelaw13_PackTells.f k l0 l1 t) ?_
  unfold gramaryelaw13_PackTells.f
  obtain ⟨a, fa, la, sa⟩ := few_ev l0 (by clear h1 h2; omega)
  obtain ⟨b, fb, lb, sb⟩ := few_ev l1 (by clear h0 h2; omega)
  clear h0 h1 h2 k0 k1
  have ea := few_id a la sa
  have eb := few_id b lb sb
  have ja := setT_length a
  have jb := setT_length b
  have jj := setT_length (a ++ b)
  rw [List.length_append] at jj
  have jm := meetT_length a b
  refine Ev.bind fa (Ev.bind fb (Ev.bind (rmake_ev a (by omega)) (Ev.bind (rmake_ev b (by omega)) (Ev.bind (same_dec a (setT a) (by omega)) (Ev.bind ea (Ev.bind0 (a := setT a) (by unfold pack_Make.f; rw [set_some a (by omega)]; rfl) (Ev.bind (same_dec _ _ (by omega)) (Ev.ite_pos (by simp) ?_))))))))
  refine Ev.bind ea (Ev.bind (is_ev a (by omega)) (Ev.ite_pos (by rw [beq_iff_eq]; exact decide_eq_decide.2 (rises_iff a)) ?_))
  refine Ev.bind ea (Ev.bind eb (Ev.bind0 (join_some a b (by omega) (by omega)) (Ev.bind (rjoin_ev a b (by omega) (by omega)) (Ev.bind (same_dec _ _ (by omega)) (Ev.ite_pos (by simp) ?_)))))
  refine Ev.bind ea (Ev.bind eb (Ev.bind (meet_ev a b (by omega) (by omega)) (Ev.bind (rmeet_ev a b (by omega) (by omega)) (Ev.bind (same_dec _ _ (by omega)) (Ev.ite_pos (by simp) ?_)))))
  refine Ev.bind ea (Ev.bind (has_dec a t (by omega)) (Ev.bind (rhas_ev a t (by omega)) (Ev.ite_pos (by simp) ?_)))
  exact Ev.bind ea (Ev.bind eb (Ev.bind (psame_dec a b (by omega) (by omega)) (Ev.bind (same_dec _ _ (by omega)) (Ev.ite_pos (by simp) (Ev.bind works_ev (Ev.now _))))))

end Go.Proofs.Ytmmhaedehkogmaa.Pure
