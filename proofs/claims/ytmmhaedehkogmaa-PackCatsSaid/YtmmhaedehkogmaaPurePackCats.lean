/- For all lists of texts (the first 30 of each, and of each text the first ten bytes, as the statement has it) and every number: Cat and Heads answer as the document has it. No other condition. -/
import Derived.Test.YtmmhaedehkogmaaHPackCatsx
import Derived.Test.YtmmhaedehkogmaaVPure
import Derived.Sort.Walk0
namespace Go.Proofs.Ytmmhaedehkogmaa.Pure
open Go.RowKit Go.Plus Go.Proofs.Ytmmhaedehkogmaa.HPackCats Go.Proofs.YtmmhaedehkogmaaW.PrintWords Go.Proofs.YtmmhaedehkogmaaW.PrintLast Go.Proofs.YtmmhaedehkogmaaW.PrintMore
set_option linter.unusedVariables false
set_option linter.unusedSimpArgs false
instance riseDec (l : List Txt) : Decidable (Rises l) := inferInstanceAs (Decidable (l.Pairwise (· < ·)))
abbrev keysOf := pack_set_string.keys
abbrev txts := pack_set_string.texts
theorem keys_txts (l : List Txt) : keysOf (txts l) = l := by
  unfold keysOf txts pack_set_string.keys pack_set_string.texts
  rw [List.map_map]
  conv => rhs; rw [← List.map_id l]
  exact List.map_congr_left fun x _ => by simp
theorem txts_keys (l : List ByteArray) : txts (keysOf l) = l := by
  unfold keysOf txts pack_set_string.keys pack_set_string.texts
  rw [List.map_map]
  conv => rhs; rw [← List.map_id l]
  exact List.map_congr_left fun x _ => by
    apply ByteArray.ext
    simp
theorem keys_append (a b : List ByteArray) : keysOf (a ++ b) = keysOf a ++ keysOf b := List.map_append
theorem keys_length (a : List ByteArray) : (keysOf a).length = a.length := List.length_map ..
theorem txts_length (a : List Txt) : (txts a).length = a.length := List.length_map ..
/-- The set of a list of texts. -/
def setT (l : List ByteArray) : List ByteArray := txts (tset (keysOf l))
theorem setT_length (l : List ByteArray) : (setT l).length ≤ l.length := by
  unfold setT
  rw [txts_length]
  have := tset_length_le (keysOf l)
  rw [keys_length] at this
  exact this
theorem keys_setT (l : List ByteArray) : keysOf (setT l) = tset (keysOf l) := keys_txts _
theorem set_some (l : List ByteArray) (h : l.length ≤ 1000000000000) : pack_set_string.f l = some (setT l) := by
  unfold pack_set_string.f
  rw [if_pos (by omega)]
  rfl
theorem rd_nat {l : List ByteArray} {i : Nat} (h : i < l.length) : rdOf ByteArray.empty l (i : Int) = l[i] := by
  unfold rdOf
  simp [List.getD_eq_getElem?_getD, h]
theorem key_at {l : List ByteArray} {i : Nat} (h : i < l.length) : l[i].toList = (keysOf l)[i]'(by rw [keys_length]; exact h) := by
  unfold keysOf pack_set_string.keys
  rw [List.getElem_map, Lib.toList_data]
theorem less_iff (a b : ByteArray) : Op.bytesLess a.toList b.toList = true ↔ a.data.toList < b.data.toList := by
  rw [Go.Proofs.bytesLess_eq, Lib.toList_data, Lib.toList_data, decide_eq_true_iff]
/-- pack.Is: does a list rise? -/
theorem is_l0 (l : List ByteArray) (hl : l.length ≤ 1000000000000) : ∀ (d i : Nat), 1 ≤ i → i + d = max l.length 1 → (∀ j (_ : 1 ≤ j) (_ : j < i) (h : j < (keysOf l).length), (keysOf l)[j - 1]'(by omega) < (keysOf l)[j]) → Ev (fun k => pack_Is.l0 k l i) (decide (Rises (keysOf l))) := by
  have hk := keys_length l
  intro d
  induction d with
  | zero =>
    intro i h1 hi hb
    have hr : Rises (keysOf l) := by
      refine List.pairwise_iff_getElem.2 fun p q hp hq hpq => ?_
      have step : ∀ n, ∀ (hn : p + 1 + n < (keysOf l).length), (keysOf l)[p] < (keysOf l)[p + 1 + n] := by
        intro n
        induction n with
        | zero =>
          intro hn
          have := hb (p + 1) (by omega) (by omega) (by omega)
          simpa using this
        | succ n ih =>
          intro hn
          have h2 := hb (p + 1 + (n + 1)) (by omega) (by omega) hn
          exact txt_lt_trans (ih (by omega)) (by simpa using h2)
      have := step (q - p - 1) (by omega)
      simpa [show p + 1 + (q - p - 1) = q by omega] using this
    rw [decide_eq_true hr]
    exact Ev.step (fun k => by rw [pack_Is.l0, if_neg (by omega)]) (Ev.now _)
  | succ d ih =>
    intro i h1 hi hb
    by_cases hlt : i < l.length
    · have hw : wrap64 ((i : Int) - 1) = ((i - 1 : Nat) : Int) := by rw [wrap_id (by omega)]; omega
      have hw2 : wrap64 ((i : Int) + 1) = ((i + 1 : Nat) : Int) := by rw [wrap_id (by omega)]; rfl
      have hl1 : i - 1 < l.length := by omega
      have e : (Op.bytesLess ((rdOf ByteArray.empty l ((i - 1 : Nat) : Int)).toList) ((rdOf ByteArray.empty l (i : Int)).toList) = true) ↔ (keysOf l)[i - 1]'(by omega) < (keysOf l)[i]'(by omega) := by
        rw [rd_nat hl1, rd_nat hlt, Go.Proofs.bytesLess_eq, decide_eq_true_iff, key_at hl1, key_at hlt]
      refine Ev.step (fun k => by rw [pack_Is.l0, if_pos (by omega), hw, if_pos (by omega), if_pos (by omega), if_pos (by omega)]) ?_
      by_cases hc : (keysOf l)[i - 1]'(by omega) < (keysOf l)[i]'(by omega)
      · refine Ev.ite_pos (e.2 hc) ?_
        rw [hw2]
        refine ih (i + 1) (by omega) (by omega) (fun j a b c => ?_)
        by_cases ej : j = i
        · subst ej; exact hc
        · exact hb j a (by omega) c
      · refine Ev.ite_neg (fun h => hc (e.1 h)) ?_
        rw [show decide (Rises (keysOf l)) = false from decide_eq_false (fun hr => hc (List.pairwise_iff_getElem.1 hr _ _ (by omega) (by omega) (by omega)))]
        exact Ev.now _
    · rw [show decide (Rises (keysOf l)) = true from decide_eq_true (by
        have : (keysOf l).length ≤ 1 := by omega
        match keysOf l, this with
        | [], _ => exact List.Pairwise.nil
        | [x], _ => exact List.pairwise_singleton _ _
        | _ :: _ :: _, h => simp at h)]
      exact Ev.step (fun k => by rw [pack_Is.l0, if_neg (by omega)]) (Ev.now _)
theorem is_ev (l : List ByteArray) (hl : l.length ≤ 1000000000000) : Ev (fun k => pack_Is.f k l) (decide (Rises (keysOf l))) := by
  unfold pack_Is.f
  exact is_l0 l hl (max l.length 1 - 1) 1 (Nat.le_refl _) (by omega) (fun j a b _ => by omega)
theorem mid_eq (lo hi n : Nat) (h : hi ≤ n) (hn : n ≤ 1000000000000) (hl : lo ≤ hi) : wrap64 ((IntKind.u64.wrap (wrap64 ((lo : Int) + (hi : Int)))) / 2) = (((lo + hi) / 2 : Nat) : Int) := by
  have h1 : wrap64 ((lo : Int) + (hi : Int)) = ((lo + hi : Nat) : Int) := by rw [wrap_id (by omega)]; rfl
  have h2 : IntKind.u64.wrap ((lo + hi : Nat) : Int) = ((lo + hi : Nat) : Int) := by
    show ((lo + hi : Nat) : Int) % 18446744073709551616 = _
    clear h1
    omega
  rw [h1, h2]
  clear h1 h2
  rw [wrap_id (by omega)]
  omega
theorem keysOf_at {l : List ByteArray} {i : Nat} (h : i < l.length) : (keysOf l)[i]'(by rw [keys_length]; exact h) = l[i].data.toList := by
  unfold keysOf pack_set_string.keys
  rw [List.getElem_map]
/-- slices.BinarySearch of a list that rises tells whether the text is there. -/
def meetT (a b : List ByteArray) : List ByteArray := (setT a).filter fun x => decide (x.data.toList ∈ keysOf b)
theorem data_append0 (a b : ByteArray) : (a ++ b).data.toList = a.data.toList ++ b.data.toList := by simp
/-- The first bytes of two texts. -/
def tc (K : Nat) (x y : ByteArray) : ByteArray := ⟨((x.data.toList ++ y.data.toList).take K).toArray⟩
theorem ext_list {a b : ByteArray} (h : a.data.toList = b.data.toList) : a = b := by
  apply ByteArray.ext
  apply Array.toList_inj.1 h
theorem tcat_some (x y : ByteArray) (k : Int) (hx : x.size ≤ 1000000000000) (hy : y.size ≤ 1000000000000) (hk : -9223372036854775808 ≤ k ∧ k ≤ 9223372036854775807) : tuple_Cat.f x y k = some (tc (mx k 0).toNat x y) := by
  have hsx := size_list x
  have hsy := size_list y
  unfold tuple_Cat.f
  by_cases h : (x.size : Int) ≥ k
  · have hm : 0 ≤ mx k 0 ∧ mx k 0 ≤ x.size := by unfold mx; split <;> omega
    rw [if_pos h, if_pos hm.1, if_pos hm.2]
    congr 1
    apply ext_list
    rw [extract_list]
    unfold tc
    simp only [List.drop_zero]
    rw [List.take_append_of_le_length (by omega)]
  · have hm : mx k 0 = k := by unfold mx; split <;> omega
    by_cases hb : k ≤ 9223372036854775807 - 0 ∧ 0 ≤ k - x.size ∧ k - (x.size : Int) ≤ 9223372036854775807
    · have hw : wrap64 (k - (x.size : Int)) = k - (x.size : Int) := wrap_id (by omega)
      have hn : 0 ≤ mn (k - (x.size : Int)) (y.size : Int) ∧ mn (k - (x.size : Int)) (y.size : Int) ≤ y.size := by unfold mn; split <;> omega
      rw [if_neg h, hw, if_pos hn.1, if_pos hn.2, if_pos (by rw [ByteArray.size_extract]; clear hw; omega)]
      congr 1
      apply ext_list
      rw [data_append0, extract_list]
      unfold tc
      simp only [List.drop_zero]
      rw [hm, List.take_append]
      rw [List.take_of_length_le (show x.data.toList.length ≤ k.toNat by clear hw; omega)]
      congr 1
      have e : (mn (k - (x.size : Int)) (y.size : Int)).toNat = min (k.toNat - x.data.toList.length) y.data.toList.length := by
        rw [hsx, hsy]
        unfold mn
        clear hw
        split <;> omega
      rw [e, List.take_eq_take_iff]
      omega
    · exact absurd ⟨by omega, by omega, by omega⟩ hb
theorem tc_size (K : Nat) (x y : ByteArray) : (tc K x y).size ≤ x.size + y.size := by
  have hsx := size_list x
  have hsy := size_list y
  have : (tc K x y).size = ((x.data.toList ++ y.data.toList).take K).length := by
    show ((x.data.toList ++ y.data.toList).take K).toArray.size = _
    simp
  rw [this, List.length_take, List.length_append]
  omega
/-- What pack.Cat puts into the set, of one text. -/
def rowOf (K : Nat) (b : List ByteArray) (x : ByteArray) : List ByteArray := if K ≤ x.size ∧ 0 < b.length then [x.extract 0 K] else b.map (tc K x)
theorem rowOf_length (K : Nat) (b : List ByteArray) (x : ByteArray) : (rowOf K b x).length ≤ b.length := by
  unfold rowOf
  split
  · rename_i h; exact h.2
  · simp
section
variable (b : List ByteArray) (k : Int) (hk : -9223372036854775808 ≤ k ∧ k ≤ 9223372036854775807) (hb : b.length ≤ 1000000) (hbs : ∀ y ∈ b, y.size ≤ 1000000000000)
include hk hb hbs
theorem cat_l1 (x : ByteArray) (hx : x.size ≤ 1000000000000) (A : List ByteArray) (i : Int) (r : List ByteArray) : ∀ (d j : Nat) (acc : List ByteArray), j + d = b.length → acc.length + d ≤ 1000000000000 →
    Ev (fun n => pack_Cat.l0 n b k (acc ++ (b.drop j).map (tc (mx k 0).toNat x)) A A.length (wrap64 (i + 1))) r → Ev (fun n => pack_Cat.l1 n b k acc x A A.length i b b.length j) r := by
  intro d
  induction d with
  | zero =>
    intro j acc hj _ h
    rw [List.drop_of_length_le (by omega), List.map_nil, List.append_nil] at h
    exact Ev.step (fun n => by rw [pack_Cat.l1, if_neg (by omega)]) h
  | succ d ih =>
    intro j acc hj ha h
    have hlt : j < b.length := by omega
    have hw : wrap64 ((j : Int) + 1) = ((j + 1 : Nat) : Int) := by rw [wrap_id (by omega)]; rfl
    refine Ev.step (fun n => by rw [pack_Cat.l1, if_pos (by clear hw; omega), if_pos (by clear hw; omega), if_pos (by clear hw; omega), rd_nat hlt, hw]) ?_
    refine Ev.bind0 (tcat_some x b[j] k hx (hbs _ (List.getElem_mem _)) hk) (Ev.ite_pos (by clear hw; omega) ?_)
    refine ih (j + 1) _ (by omega) (by simp; omega) ?_
    rw [List.drop_eq_getElem_cons hlt, List.map_cons] at h
    simpa using h
theorem cat_l0 (a : List ByteArray) (hal : a.length ≤ 100000) (has : ∀ x ∈ a, x.size ≤ 1000000000000) : ∀ (d i : Nat) (acc : List ByteArray), i + d = a.length → acc.length + d * b.length ≤ 100000000000 →
    Ev (fun n => pack_Cat.l0 n b k acc a a.length i) (setT (acc ++ (a.drop i).flatMap (rowOf (mx k 0).toNat b))) := by
  intro d
  induction d with
  | zero =>
    intro i acc hi ha
    rw [List.drop_of_length_le (by omega), List.flatMap_nil, List.append_nil]
    exact Ev.step (fun n => by rw [pack_Cat.l0, if_neg (by omega)]) (Ev.bind0 (set_some acc (by omega)) (Ev.now _))
  | succ d ih =>
    intro i acc hi ha
    have hlt : i < a.length := by omega
    have hw : wrap64 ((i : Int) + 1) = ((i + 1 : Nat) : Int) := by rw [wrap_id (by omega)]; rfl
    have hsz := has _ (List.getElem_mem hlt)
    have hmx : 0 ≤ mx k 0 := by unfold mx; split <;> omega
    have hlen := rowOf_length (mx k 0).toNat b a[i]
    have hmul : (d + 1) * b.length = d * b.length + b.length := Nat.succ_mul _ _
    rw [List.drop_eq_getElem_cons hlt, List.flatMap_cons, ← List.append_assoc]
    have ih' := ih (i + 1) (acc ++ rowOf (mx k 0).toNat b a[i]) (by omega) (by rw [List.length_append]; omega)
    refine Ev.step (fun n => by rw [pack_Cat.l0, if_pos (by clear hw; omega), if_pos (by clear hw; omega), if_pos (by clear hw; omega), rd_nat hlt]) ?_
    have hj1t : ∀ (hc1 : mx k 0 ≤ (a[i].size : Int)) (hc2 : 0 < b.length), Ev (fun n => pack_Cat.j1 n b k acc a[i] a a.length i true) (setT (acc ++ rowOf (mx k 0).toNat b a[i] ++ (a.drop (i + 1)).flatMap (rowOf (mx k 0).toNat b))) := by
      intro hc1 hc2
      refine Ev.step (fun n => by rw [pack_Cat.j1, if_pos rfl, if_pos hmx, if_pos hc1, if_pos (by clear hw; omega), hw]) ?_
      have e : rowOf (mx k 0).toNat b a[i] = [a[i].extract 0 (mx k 0).toNat] := by unfold rowOf; rw [if_pos ⟨by clear hw; omega, hc2⟩]
      rw [e] at ih' ⊢
      exact ih'
    have hj1f : ¬ ((mx k 0).toNat ≤ a[i].size ∧ 0 < b.length) → Ev (fun n => pack_Cat.j1 n b k acc a[i] a a.length i false) (setT (acc ++ rowOf (mx k 0).toNat b a[i] ++ (a.drop (i + 1)).flatMap (rowOf (mx k 0).toNat b))) := by
      intro hc
      refine Ev.step (fun n => by rw [pack_Cat.j1, if_neg (by simp)]) ?_
      have e : rowOf (mx k 0).toNat b a[i] = b.map (tc (mx k 0).toNat a[i]) := by unfold rowOf; rw [if_neg hc]
      refine cat_l1 b k hk hb hbs a[i] hsz a i _ b.length 0 acc (by omega) (by clear hw; omega) ?_
      rw [List.drop_zero, hw, ← e]
      exact ih'
    by_cases hc1 : (a[i].size : Int) ≥ mx k 0
    · refine Ev.ite_pos hc1 ?_
      by_cases hc2 : 0 < b.length
      · rw [show decide ((b.length : Int) > 0) = true from decide_eq_true (by clear hw; omega)]
        exact hj1t hc1 hc2
      · rw [show decide ((b.length : Int) > 0) = false from decide_eq_false (by clear hw; omega)]
        exact hj1f (fun h => hc2 h.2)
    · refine Ev.ite_neg hc1 (hj1f (fun h => hc1 (by have := h.1; clear hw; omega)))
theorem cat_ev (a : List ByteArray) (hal : a.length ≤ 100000) (has : ∀ x ∈ a, x.size ≤ 1000000000000) : Ev (fun n => pack_Cat.f n a b k) (setT (a.flatMap (rowOf (mx k 0).toNat b))) := by
  unfold pack_Cat.f
  have h := cat_l0 b k hk hb hbs a hal has a.length 0 [] (by omega) (by
    have : a.length * b.length ≤ 100000 * 1000000 := Nat.mul_le_mul hal hb
    simp; omega)
  simpa using h
end
theorem mem_row (K : Nat) (a b : List ByteArray) (t : Txt) : t ∈ keysOf (a.flatMap (rowOf K b)) ↔ ∃ x ∈ a, ∃ y ∈ b, t = (x.data.toList ++ y.data.toList).take K := by
  unfold keysOf pack_set_string.keys
  simp only [List.mem_map, List.mem_flatMap]
  constructor
  · rintro ⟨z, ⟨x, hx, hz⟩, rfl⟩
    refine ⟨x, hx, ?_⟩
    unfold rowOf at hz
    split at hz
    · rename_i hc
      obtain ⟨y, hy⟩ := List.exists_mem_of_length_pos hc.2
      refine ⟨y, hy, ?_⟩
      rw [List.mem_singleton.1 hz, extract_list]
      simp only [List.drop_zero]
      rw [List.take_append_of_le_length (by have := size_list x; omega)]
    · obtain ⟨y, hy, rfl⟩ := List.mem_map.1 hz
      exact ⟨y, hy, rfl⟩
  · rintro ⟨x, hx, y, hy, rfl⟩
    unfold rowOf
    by_cases hc : K ≤ x.size ∧ 0 < b.length
    · refine ⟨x.extract 0 K, ⟨x, hx, by rw [if_pos hc]; simp⟩, ?_⟩
      rw [extract_list]
      simp only [List.drop_zero]
      rw [List.take_append_of_le_length (by have := size_list x; omega)]
    · exact ⟨tc K x y, ⟨x, hx, by rw [if_neg hc]; exact List.mem_map.2 ⟨y, hy, rfl⟩⟩, rfl⟩
theorem few_l0 (l : List ByteArray) (hl : l.length ≤ 1000000000000000) : ∀ (d i : Nat) (acc : List ByteArray), 30 - i ≤ d → acc.length ≤ i → (∀ x ∈ acc, x.size ≤ 10) → i ≤ 30 →
    ∃ r, Ev (fun k => gramaryelaw13_few.l0 k l acc i) r ∧ r.length ≤ 30 ∧ ∀ x ∈ r, x.size ≤ 10 := by
  intro d
  induction d with
  | zero =>
    intro i acc hd ha hs hi
    refine ⟨acc, ?_, by omega, hs⟩
    by_cases hlt : i < l.length
    · exact Ev.step (fun k => by rw [gramaryelaw13_few.l0, if_pos (by omega), if_neg (by omega)]) (Ev.now _)
    · exact Ev.step (fun k => by rw [gramaryelaw13_few.l0, if_neg (by omega)]) (Ev.now _)
  | succ d ih =>
    intro i acc hd ha hs hi
    by_cases hlt : i < l.length
    · by_cases h30 : i < 30
      · have hw : wrap64 ((i : Int) + 1) = ((i + 1 : Nat) : Int) := by rw [wrap_id (by omega)]; rfl
        have hm : 0 ≤ mn (l[i].size : Int) 10 ∧ mn (l[i].size : Int) 10 ≤ l[i].size ∧ mn (l[i].size : Int) 10 ≤ 10 := by unfold mn; split <;> omega
        obtain ⟨r, h1, h2, h3⟩ := ih (i + 1) (acc ++ [l[i].extract 0 (mn (l[i].size : Int) 10).toNat]) (by omega) (by simp; omega) (fun x hx => by
          rcases List.mem_append.1 hx with h | h
          · exact hs x h
          · rw [List.mem_singleton.1 h, ByteArray.size_extract]; clear hw; omega) (by omega)
        refine ⟨r, ?_, h2, h3⟩
        refine Ev.step (fun k => by rw [gramaryelaw13_few.l0, if_pos (by clear hw; omega), if_pos (by clear hw; omega), if_pos (by clear hw; omega), rd_nat hlt, if_pos hm.1, if_pos hm.2.1, if_pos (by clear hw; omega), hw]) h1
      · exact ⟨acc, Ev.step (fun k => by rw [gramaryelaw13_few.l0, if_pos (by omega), if_neg (by omega)]) (Ev.now _), by omega, hs⟩
    · exact ⟨acc, Ev.step (fun k => by rw [gramaryelaw13_few.l0, if_neg (by omega)]) (Ev.now _), by omega, hs⟩
theorem few_ev (l : List ByteArray) (hl : l.length ≤ 1000000000000000) : ∃ r, Ev (fun k => gramaryelaw13_few.f k l) r ∧ r.length ≤ 30 ∧ ∀ x ∈ r, x.size ≤ 10 := few_l0 l hl 30 0 [] (by omega) (by simp) (fun x hx => by simp at hx) (by omega)
theorem mem_keys {l : List ByteArray} {x : ByteArray} : x.data.toList ∈ keysOf l ↔ x ∈ l := by
  unfold keysOf pack_set_string.keys
  rw [List.mem_map]
  constructor
  · rintro ⟨y, hy, e⟩
    rw [← ext_list e]; exact hy
  · exact fun h => ⟨x, h, rfl⟩
theorem mem_setT {l : List ByteArray} {x : ByteArray} : x ∈ setT l ↔ x ∈ l := by
  rw [← mem_keys, keys_setT, (tset_rises _).2, mem_keys]
theorem setT_congr {a b : List ByteArray} (h : ∀ x, x ∈ a ↔ x ∈ b) : setT a = setT b := by
  unfold setT
  rw [tset_congr (a := keysOf a) (b := keysOf b) fun t => ?_]
  unfold keysOf pack_set_string.keys
  simp only [List.mem_map, h]
theorem mem_meetT {a b : List ByteArray} {x : ByteArray} : x ∈ meetT a b ↔ x ∈ a ∧ x ∈ b := by
  unfold meetT
  rw [List.mem_filter, mem_setT, decide_eq_true_iff, mem_keys]
theorem meetT_rises (a b : List ByteArray) : Rises (keysOf (meetT a b)) := by
  unfold meetT keysOf pack_set_string.keys
  have h : Rises (keysOf (setT a)) := by rw [keys_setT]; exact (tset_rises _).1
  exact List.Pairwise.sublist (List.Sublist.map _ List.filter_sublist) h
theorem meetT_length (a b : List ByteArray) : (meetT a b).length ≤ a.length := Nat.le_trans (List.length_filter_le _ _) (setT_length a)
theorem works_ev : Ev (fun k => gramaryelaw13_works.f k) true := by
  unfold gramaryelaw13_works.f
  have hc := cat_ev [(⟨#[99]⟩ : ByteArray)] 2 (by decide) (by decide) (fun y hy => by rw [List.mem_singleton.1 hy]; decide) [(⟨#[97]⟩ : ByteArray), (⟨#[97, 98]⟩ : ByteArray)] (by decide) (fun x hx => by
    rcases List.mem_cons.1 hx with rfl | hx
    · decide
    · rw [List.mem_singleton.1 hx]; decide)
  have e : setT (([(⟨#[97]⟩ : ByteArray), (⟨#[97, 98]⟩ : ByteArray)] : List ByteArray).flatMap (rowOf (mx 2 0).toNat [(⟨#[99]⟩ : ByteArray)])) = [(⟨#[97, 98]⟩ : ByteArray), (⟨#[97, 99]⟩ : ByteArray)] := by
    have e1 : ([(⟨#[97]⟩ : ByteArray), (⟨#[97, 98]⟩ : ByteArray)] : List ByteArray).flatMap (rowOf (mx 2 0).toNat [(⟨#[99]⟩ : ByteArray)]) = [(⟨#[97, 99]⟩ : ByteArray), (⟨#[97, 98]⟩ : ByteArray)] := by decide
    rw [e1]
    unfold setT
    have e2 : tset (keysOf [(⟨#[97, 99]⟩ : ByteArray), (⟨#[97, 98]⟩ : ByteArray)]) = [[97, 98], [97, 99]] := rises_eq (tset_rises _).1 (by decide) (fun x => by
      rw [(tset_rises _).2]
      show x ∈ [[97, 99], [97, 98]] ↔ _
      simp only [List.mem_cons, List.not_mem_nil, or_false]
      exact Or.comm)
    rw [e2]; rfl
  rw [e] at hc
  refine Ev.bind hc (Ev.bind (a := true) (Ev.of (fun k => gramaryebase_SameTexts.mono _ _ k) (k := 10) (by kernel_rfl)) (Ev.ite_pos rfl (Ev.bind (a := true) (Ev.of (fun k => pack_Is.mono _ k) (k := 10) (by kernel_rfl)) (Ev.ite_pos rfl (Ev.bind (a := false) (Ev.of (fun k => pack_Is.mono _ k) (k := 10) (by kernel_rfl)) (Ev.now _))))))
theorem few_id0 (l : List ByteArray) (hl : l.length ≤ 30) (hs : ∀ x ∈ l, x.size ≤ 10) : ∀ (d i : Nat), i + d = l.length → Ev (fun k => gramaryelaw13_few.l0 k l (l.take i) i) l := by
  intro d
  induction d with
  | zero =>
    intro i hi
    rw [List.take_of_length_le (by omega)]
    exact Ev.step (fun k => by rw [gramaryelaw13_few.l0, if_neg (by omega)]) (Ev.now _)
  | succ d ih =>
    intro i hi
    have hlt : i < l.length := by omega
    have hw : wrap64 ((i : Int) + 1) = ((i + 1 : Nat) : Int) := by rw [wrap_id (by omega)]; rfl
    have hx := hs l[i] (List.getElem_mem _)
    have hm : mn (l[i].size : Int) 10 = l[i].size := by unfold mn; split <;> omega
    have he : l[i].extract 0 (l[i].size : Int).toNat = l[i] := by simp
    have hg := ih (i + 1) (by omega)
    rw [List.take_succ_eq_append_getElem hlt] at hg
    refine Ev.step (fun k => by rw [gramaryelaw13_few.l0, if_pos (by clear hw; omega), if_pos (by clear hw; omega), if_pos (by clear hw; omega), rd_nat hlt, hm, if_pos (by clear hw; omega), if_pos (by clear hw; omega), if_pos (by rw [List.length_take]; clear hw; omega), he, hw]) hg
theorem few_id (l : List ByteArray) (hl : l.length ≤ 30) (hs : ∀ x ∈ l, x.size ≤ 10) : Ev (fun k => gramaryelaw13_few.f k l) l := few_id0 l hl hs l.length 0 (by omega)
theorem rmid_eq (lo hi n : Nat) (h : hi ≤ n) (hn : n ≤ 1000000000000) : wrap64 (Int.tdiv (wrap64 ((lo : Int) + (hi : Int))) 2) = (((lo + hi) / 2 : Nat) : Int) ∨ ¬ lo ≤ hi := by
  by_cases hl : lo ≤ hi
  · left
    have h1 : wrap64 ((lo : Int) + (hi : Int)) = ((lo + hi : Nat) : Int) := by rw [wrap_id (by omega)]; rfl
    have h2 : Int.tdiv ((lo + hi : Nat) : Int) 2 = (((lo + hi) / 2 : Nat) : Int) := by
      rw [Int.tdiv_eq_ediv_of_nonneg (by omega)]; rfl
    rw [h1, h2]
    clear h1 h2
    rw [wrap_id (by omega)]
  · exact .inr hl
/-- The set with one text more, as a list of texts. -/
def putB (l : List ByteArray) (t : ByteArray) : List ByteArray := txts (putT (keysOf l) t.data.toList)
theorem keys_putB (l : List ByteArray) (t : ByteArray) : keysOf (putB l t) = putT (keysOf l) t.data.toList := keys_txts _
theorem keysOf_at' {l : List ByteArray} {i : Nat} (h : i < l.length) : (keysOf l)[i]'(by rw [keys_length]; exact h) = l[i].data.toList := by
  unfold keysOf pack_set_string.keys
  rw [List.getElem_map]
theorem less_iff' (a b : ByteArray) : Op.bytesLess a.toList b.toList = true ↔ a.data.toList < b.data.toList := by
  rw [Go.Proofs.bytesLess_eq, Lib.toList_data, Lib.toList_data, decide_eq_true_iff]
theorem put_l0 (l : List ByteArray) (t : ByteArray) (hr : Rises (keysOf l)) (hl : l.length ≤ 1000000000000) : ∀ (d lo hi : Nat), hi - lo = d → lo ≤ lower (keysOf l) t.data.toList → lower (keysOf l) t.data.toList ≤ hi → hi ≤ l.length →
    Ev (fun k => gramaryeref13_Put.l0 k l t lo hi) (putB l t) := by
  have hk := keys_length l
  intro d
  induction d using Nat.strongRecOn with
  | _ d ih =>
    intro lo hi hd h1 h2 h3
    by_cases hlt : lo < hi
    · have hm : wrap64 (Int.tdiv (wrap64 ((lo : Int) + (hi : Int))) 2) = (((lo + hi) / 2 : Nat) : Int) := (rmid_eq lo hi l.length h3 hl).resolve_right (fun h => h (Nat.le_of_lt hlt))
      obtain ⟨m, hme⟩ : ∃ m, m = (lo + hi) / 2 := ⟨_, rfl⟩
      have hm1 : lo ≤ m ∧ m < hi := by clear hm; omega
      rw [← hme] at hm
      have hw : wrap64 ((m : Int) + 1) = ((m + 1 : Nat) : Int) := by clear hm; rw [wrap_id (by omega)]; rfl
      have q1 : (lo : Int) < (hi : Int) := by clear hm hw; omega
      have q2 : (0 : Int) ≤ (m : Int) := Int.natCast_nonneg m
      have q3 : m < l.length := by clear hm hw; omega
      have q4 : (m : Int) < (l.length : Int) := Int.ofNat_lt.2 q3
      refine Ev.step (fun k => by rw [gramaryeref13_Put.l0, if_pos q1, hm, hw, if_pos q2, if_pos q4, rd_nat q3]) ?_
      have hi' := lower_iff hr t.data.toList m (by clear hm hw; omega)
      rw [keysOf_at' q3] at hi'
      by_cases hc : l[m].data.toList < t.data.toList
      · refine Ev.ite_pos ((less_iff' _ _).2 hc) ?_
        exact ih (hi - (m + 1)) (by clear hm hw; omega) (m + 1) hi rfl (by have := hi'.1 hc; clear hm hw; omega) h2 h3
      · refine Ev.ite_neg (fun h => hc ((less_iff' _ _).1 h)) ?_
        exact ih (m - lo) (by clear hm hw; omega) lo m rfl h1 (by have : ¬ m < lower (keysOf l) t.data.toList := fun h => hc (hi'.2 h); clear hm hw; omega) (by clear hm hw; omega)
    · have e : lo = lower (keysOf l) t.data.toList := by omega
      have hlo : lo ≤ l.length := by omega
      have hput : ¬ (keysOf l)[lo]? = some t.data.toList → putB l t = l.take lo ++ [t] ++ l.drop lo := fun h => by
        unfold putB putT
        rw [← e, if_neg h]
        unfold txts keysOf pack_set_string.keys pack_set_string.texts
        simp [List.map_take, List.map_drop, Function.comp_def]
      have hsame : (keysOf l)[lo]? = some t.data.toList → putB l t = l := fun h => by
        unfold putB putT
        rw [← e, if_pos h, txts_keys]
      have z0 : ((lo : Nat) : Int).toNat = lo := Int.toNat_natCast lo
      have s1 : (([] : List ByteArray)).length + (l.take lo).length < 8796093022208 := by simp; omega
      have s2 : (([] : List ByteArray) ++ l.take lo).length + [t].length < 8796093022208 := by simp; omega
      have s3 : (([] : List ByteArray) ++ l.take lo ++ [t]).length + (l.drop lo).length < 8796093022208 := by simp; omega
      clear h1 h2
      by_cases hend : lo < l.length
      · have hg : (keysOf l)[lo]? = some (l[lo].data.toList) := by
          rw [List.getElem?_eq_getElem (by omega), keysOf_at' hend]
        by_cases hc : l[lo].toList = t.toList
        · have hc' := hc
          rw [Lib.toList_data, Lib.toList_data] at hc'
          rw [hsame (by rw [hg, hc'])]
          exact Ev.step (fun k => by rw [gramaryeref13_Put.l0, if_neg (by omega), if_pos (by omega), if_pos (by omega), rd_nat hend, if_pos hc]) (Ev.now _)
        · have hc' := hc
          rw [Lib.toList_data, Lib.toList_data] at hc'
          rw [hput (fun h => hc' (by rw [hg] at h; exact Option.some.inj h))]
          refine Ev.step (fun k => by rw [gramaryeref13_Put.l0, if_neg (by omega), if_pos (by omega), if_pos (by omega), rd_nat hend, if_neg hc]) (Ev.const ?_)
          simp only [Option.bind_some, z0]
          rw [if_pos (by omega), if_pos s1, if_pos s2, if_pos s3, List.nil_append]
      · rw [hput (fun h => by rw [List.getElem?_eq_none (by omega)] at h; cases h)]
        refine Ev.step (fun k => by rw [gramaryeref13_Put.l0, if_neg (by omega), if_neg (by omega)]) (Ev.const ?_)
        simp only [Option.bind_some, z0]
        rw [if_pos (by omega), if_pos (by omega), if_pos s1, if_pos s2, if_pos s3, List.nil_append]
theorem put_ev (l : List ByteArray) (t : ByteArray) (hr : Rises (keysOf l)) (hl : l.length ≤ 1000000000000) : Ev (fun k => gramaryeref13_Put.f k l t) (putB l t) := by
  unfold gramaryeref13_Put.f
  have h := lower_le (keysOf l) t.data.toList
  rw [keys_length] at h
  exact put_l0 l t hr hl _ 0 l.length rfl (Nat.zero_le _) h (Nat.le_refl _)
theorem putB_setT (L : List ByteArray) (t : ByteArray) : putB (setT L) t = setT (L ++ [t]) := by
  unfold putB
  rw [keys_setT]
  unfold setT
  rw [keys_append]
  exact congrArg txts (putAll_tset (keysOf L) [t.data.toList])
theorem rcat_some (x y : ByteArray) (k : Int) (hx : x.size ≤ 1000000000000) (hy : y.size ≤ 1000000000000) : gramaryeref12_Cat.f x y k = some (tc (mx k 0).toNat x y) := by
  unfold gramaryeref12_Cat.f
  have hs : (x ++ y).size = x.size + y.size := ByteArray.size_append
  have hm : 0 ≤ mx (mn ((x ++ y).size : Int) k) 0 ∧ mx (mn ((x ++ y).size : Int) k) 0 ≤ ((x ++ y).size : Int) := by
    unfold mx mn; split <;> split <;> omega
  rw [if_pos (by omega), if_pos hm.1, if_pos hm.2]
  refine congrArg some (ext_list ?_)
  have he : (((x ++ y).extract 0 (mx (mn ((x ++ y).size : Int) k) 0).toNat).data.toList) = (x.data.toList ++ y.data.toList).take (mx (mn ((x ++ y).size : Int) k) 0).toNat := by
    rw [ByteArray.data_extract, Array.toList_extract, data_append0]
    simp [List.extract]
  rw [he]
  unfold tc
  have hl : (x.data.toList ++ y.data.toList).length = (x ++ y).size := by
    rw [← data_append0]; simp
  by_cases h : k < ((x ++ y).size : Int)
  · have : mn ((x ++ y).size : Int) k = k := by unfold mn; rw [if_pos h]
    rw [this]
  · have e1 : mn ((x ++ y).size : Int) k = ((x ++ y).size : Int) := by unfold mn; rw [if_neg h]
    have e2 : mx k 0 = k := by unfold mx; rw [if_neg (by omega)]
    have e3 : mx ((x ++ y).size : Int) 0 = ((x ++ y).size : Int) := by unfold mx; rw [if_neg (by omega)]
    rw [e1, e2, e3, List.take_of_length_le (by omega), List.take_of_length_le (by omega)]
theorem rcat_l1 (a b : List ByteArray) (k : Int) (hal : a.length ≤ 100000) (hbl : b.length ≤ 100000) (has : ∀ x ∈ a, x.size ≤ 1000000000000) (hbs : ∀ y ∈ b, y.size ≤ 1000000000000) (i : Nat) (hi : i < a.length) (r : List ByteArray) :
    ∀ (d j : Nat) (L : List ByteArray), j + d = b.length → L.length + d ≤ 100000000000 → Ev (fun n => gramaryeref13_Cat.l0 n a b k (setT (L ++ (b.drop j).map (tc (mx k 0).toNat a[i]))) ((i + 1 : Nat) : Int)) r →
      Ev (fun n => gramaryeref13_Cat.l1 n a b k (setT L) i j) r := by
  intro d
  induction d with
  | zero =>
    intro j L hj hL h
    have hw : wrap64 ((i : Int) + 1) = ((i + 1 : Nat) : Int) := by rw [wrap_id (by omega)]; rfl
    rw [List.drop_of_length_le (by clear hw; omega), List.map_nil, List.append_nil] at h
    exact Ev.step (fun n => by rw [gramaryeref13_Cat.l1, if_neg (by clear hw; omega), hw]) h
  | succ d ih =>
    intro j L hj hL h
    have hlt : j < b.length := by omega
    have hw : wrap64 ((j : Int) + 1) = ((j + 1 : Nat) : Int) := by rw [wrap_id (by omega)]; rfl
    have hsl := setT_length L
    refine Ev.step (fun n => by rw [gramaryeref13_Cat.l1, if_pos (by clear hw; omega), if_pos (by clear hw; omega), if_pos (by clear hw; omega), if_pos (by clear hw; omega), rd_nat hi, rd_nat hlt, rcat_some a[i] b[j] k (has _ (List.getElem_mem _)) (hbs _ (List.getElem_mem _)), Option.bind_some, hw]) ?_
    have hp := put_ev (setT L) (tc (mx k 0).toNat a[i] b[j]) (by rw [keys_setT]; exact (tset_rises _).1) (by clear hw; omega)
    rw [putB_setT] at hp
    refine Ev.bind hp (ih (j + 1) _ (by clear hw; omega) (by rw [List.length_append, List.length_singleton]; clear hw; omega) ?_)
    rw [List.append_assoc, List.singleton_append]
    rw [List.drop_eq_getElem_cons hlt, List.map_cons] at h
    exact h
theorem rcat_l0 (a b : List ByteArray) (k : Int) (hal : a.length ≤ 100000) (hbl : b.length ≤ 100000) (has : ∀ x ∈ a, x.size ≤ 1000000000000) (hbs : ∀ y ∈ b, y.size ≤ 1000000000000) :
    ∀ (d i : Nat) (L : List ByteArray), i + d = a.length → L.length + d * b.length ≤ 10000000000 → Ev (fun n => gramaryeref13_Cat.l0 n a b k (setT L) i) (setT (L ++ (a.drop i).flatMap fun x => b.map (tc (mx k 0).toNat x))) := by
  intro d
  induction d with
  | zero =>
    intro i L hi hL
    rw [List.drop_of_length_le (by omega), List.flatMap_nil, List.append_nil]
    exact Ev.step (fun n => by rw [gramaryeref13_Cat.l0, if_neg (by omega)]) (Ev.now _)
  | succ d ih =>
    intro i L hi hL
    have hlt : i < a.length := by omega
    rw [Nat.succ_mul] at hL
    refine Ev.step (fun n => by rw [gramaryeref13_Cat.l0, if_pos (by omega)]) ?_
    refine rcat_l1 a b k hal hbl has hbs i hlt _ b.length 0 L (by omega) (by omega) ?_
    have h := ih (i + 1) (L ++ b.map (tc (mx k 0).toNat a[i])) (by omega) (by rw [List.length_append, List.length_map]; omega)
    rw [List.append_assoc] at h
    rw [List.drop_eq_getElem_cons hlt, List.flatMap_cons, List.drop_zero]
    exact h
theorem rcat_ev (a b : List ByteArray) (k : Int) (hal : a.length ≤ 10000) (hbl : b.length ≤ 10000) (has : ∀ x ∈ a, x.size ≤ 1000000000000) (hbs : ∀ y ∈ b, y.size ≤ 1000000000000) :
    Ev (fun n => gramaryeref13_Cat.f n a b k) (setT (a.flatMap fun x => b.map (tc (mx k 0).toNat x))) := by
  unfold gramaryeref13_Cat.f
  have h := rcat_l0 a b k (by omega) (by omega) has hbs a.length 0 [] (by omega) (by
    have := Nat.mul_le_mul hal hbl
    rw [List.length_nil]; omega)
  rw [show setT [] = [] from by unfold setT; rw [show keysOf [] = [] from rfl, tset_of_rises rises_nil]; rfl, List.drop_zero, List.nil_append] at h
  exact h
theorem rd_int {l : List Int} {i : Nat} (h : i < l.length) : rd l (i : Int) = l[i] := by
  unfold rd
  simp [List.getD_eq_getElem?_getD, h]
theorem same_ints (l : List Int) (hl : l.length ≤ 1000000000000) : Ev (fun k => gramaryebase_SameInts.f k l l) true := by
  have : ∀ (d i : Nat), i + d = l.length → Ev (fun k => gramaryebase_SameInts.l0 k l l i) true := by
    intro d
    induction d with
    | zero => intro i hi; exact Ev.step (fun k => by rw [gramaryebase_SameInts.l0, if_neg (by omega)]) (Ev.now _)
    | succ d ih =>
      intro i hi
      have hw : wrap64 ((i : Int) + 1) = ((i + 1 : Nat) : Int) := by rw [wrap_id (by omega)]; rfl
      exact Ev.step (fun k => by rw [gramaryebase_SameInts.l0, if_pos (by clear hw; omega), if_pos (by clear hw; omega), if_pos (by clear hw; omega), if_pos rfl, hw]) (ih (i + 1) (by clear hw; omega))
  unfold gramaryebase_SameInts.f
  exact Ev.ite_pos rfl (this l.length 0 (by omega))
theorem same_texts (l : List ByteArray) (hl : l.length ≤ 1000000000000) : Ev (fun k => gramaryebase_SameTexts.f k l l) true := by
  have : ∀ (d i : Nat), i + d = l.length → Ev (fun k => gramaryebase_SameTexts.l0 k l l i) true := by
    intro d
    induction d with
    | zero => intro i hi; exact Ev.step (fun k => by rw [gramaryebase_SameTexts.l0, if_neg (by omega)]) (Ev.now _)
    | succ d ih =>
      intro i hi
      have hw : wrap64 ((i : Int) + 1) = ((i + 1 : Nat) : Int) := by rw [wrap_id (by omega)]; rfl
      exact Ev.step (fun k => by rw [gramaryebase_SameTexts.l0, if_pos (by clear hw; omega), if_pos (by clear hw; omega), if_pos (by clear hw; omega), if_pos rfl, hw]) (ih (i + 1) (by clear hw; omega))
  unfold gramaryebase_SameTexts.f
  exact Ev.ite_pos rfl (this l.length 0 (by omega))
theorem has_int (l : List Int) (n : Int) (hl : l.length ≤ 1000000000000) : Ev (fun k => gramaryebase_HasInt.f k l n) (decide (n ∈ l)) := by
  have : ∀ (d i : Nat), i + d = l.length → Ev (fun k => gramaryebase_HasInt.l0 k l n i) (decide (n ∈ l.drop i)) := by
    intro d
    induction d with
    | zero => intro i hi; rw [List.drop_of_length_le (by omega), decide_eq_false (by simp)]; exact Ev.step (fun k => by rw [gramaryebase_HasInt.l0, if_neg (by omega)]) (Ev.now _)
    | succ d ih =>
      intro i hi
      have hlt : i < l.length := by omega
      have hw : wrap64 ((i : Int) + 1) = ((i + 1 : Nat) : Int) := by rw [wrap_id (by omega)]; rfl
      refine Ev.step (fun k => by rw [gramaryebase_HasInt.l0, if_pos (by clear hw; omega), if_pos (by clear hw; omega), rd_int hlt, hw]) ?_
      rw [List.drop_eq_getElem_cons hlt]
      by_cases e : l[i] = n
      · rw [decide_eq_true (by simp [e])]
        exact Ev.ite_pos e (Ev.now _)
      · rw [show decide (n ∈ l[i] :: l.drop (i + 1)) = decide (n ∈ l.drop (i + 1)) from decide_eq_decide.2 (by rw [List.mem_cons]; exact ⟨fun h => h.resolve_left (fun h => e h.symm), .inr⟩)]
        exact Ev.ite_neg e (ih (i + 1) (by clear hw; omega))
  unfold gramaryebase_HasInt.f
  exact this l.length 0 (by omega)
/-- The first bytes of the texts that have one. -/
def hds (l : List ByteArray) : List Int := l.filterMap fun t => if t.size = 0 then none else some (bt t 0)
theorem hds_cons (t : ByteArray) (l : List ByteArray) : hds (t :: l) = if t.size = 0 then hds l else bt t 0 :: hds l := by
  unfold hds
  rw [List.filterMap_cons]
  by_cases h : t.size = 0
  · simp [h]
  · simp [h]
theorem hds_length (l : List ByteArray) : (hds l).length ≤ l.length := List.length_filterMap_le ..
theorem toList_nil {t : ByteArray} : t.toList = [] ↔ t.size = 0 := by
  rw [Lib.toList_data, ← size_list]
  exact List.length_eq_zero_iff.symm
theorem heads_l0 (l : List ByteArray) (hl : l.length ≤ 1000000) : ∀ (d i : Nat) (acc : List Int), i + d = l.length → acc.length ≤ i → Ev (fun k => pack_Heads.l0 k acc l l.length i) (pack_set_int.iset (acc ++ hds (l.drop i))) := by
  intro d
  induction d with
  | zero =>
    intro i acc hi ha
    rw [List.drop_of_length_le (by omega), show hds [] = [] from rfl, List.append_nil]
    refine Ev.step (fun k => by rw [pack_Heads.l0, if_neg (by omega)]) (Ev.bind0 (a := pack_set_int.iset acc) ?_ (Ev.now _))
    unfold pack_set_int.f
    rw [if_pos (by omega)]
  | succ d ih =>
    intro i acc hi ha
    have hlt : i < l.length := by omega
    have hw : wrap64 ((i : Int) + 1) = ((i + 1 : Nat) : Int) := by rw [wrap_id (by omega)]; rfl
    have hb := bt_lt l[i] 0
    have hwb : wrap64 (bt l[i] 0) = bt l[i] 0 := wrap_id (by clear hw; omega)
    refine Ev.step (fun k => by rw [pack_Heads.l0, if_pos (by clear hw hwb; omega), if_pos (by clear hw hwb; omega), if_pos (by clear hw hwb; omega), rd_nat hlt, hw, hwb]) ?_
    rw [List.drop_eq_getElem_cons hlt, hds_cons]
    by_cases h0 : l[i].size = 0
    · rw [if_pos h0]
      exact Ev.ite_pos (toList_nil.2 h0) (ih (i + 1) acc (by clear hw hwb; omega) (by clear hw hwb; omega))
    · rw [if_neg h0]
      have := ih (i + 1) (acc ++ [bt l[i] 0]) (by clear hw hwb; omega) (by rw [List.length_append, List.length_singleton]; clear hw hwb; omega)
      rw [List.append_assoc, List.singleton_append] at this
      exact Ev.ite_neg (fun h => h0 (toList_nil.1 h)) (Ev.ite_pos (by clear hw hwb; omega) (Ev.ite_pos (by clear hw hwb; omega) this))
theorem heads_ev (l : List ByteArray) (hl : l.length ≤ 1000000) : Ev (fun k => pack_Heads.f k l) (pack_set_int.iset (hds l)) := by
  have := heads_l0 l hl l.length 0 [] (by omega) (by simp)
  rw [List.drop_zero, List.nil_append] at this
  exact this
/-- The numbers below n that are among others. -/
def upTo (n : Nat) (h : List Int) : List Int := ((List.range n).map Int.ofNat).filter fun x => decide (x ∈ h)
theorem upTo_succ (n : Nat) (h : List Int) : upTo (n + 1) h = upTo n h ++ if (n : Int) ∈ h then [(n : Int)] else [] := by
  unfold upTo
  rw [List.range_succ, List.map_append, List.filter_append]
  congr 1
  by_cases e : (n : Int) ∈ h
  · simp [e]
  · simp [e]
theorem upTo_length (n : Nat) (h : List Int) : (upTo n h).length ≤ n := by
  unfold upTo
  refine Nat.le_trans (List.length_filter_le _ _) ?_
  simp
theorem upTo_lt {n : Nat} {h : List Int} : ∀ x ∈ upTo n h, x < (n : Int) := by
  intro x hx
  unfold upTo at hx
  rw [List.mem_filter, List.mem_map] at hx
  obtain ⟨⟨m, hm, rfl⟩, _⟩ := hx
  rw [List.mem_range] at hm
  show (m : Int) < n
  omega
theorem upTo_rises (n : Nat) (h : List Int) : (upTo n h).Pairwise (· < ·) := by
  unfold upTo
  refine List.Pairwise.filter _ (List.pairwise_map.2 ?_)
  exact List.pairwise_lt_range.imp fun {a b} hab => by show (a : Int) < (b : Int); omega
theorem rheads_l1 (l : List ByteArray) (hl : l.length ≤ 1000000) (n : Nat) (hn : n < 256) (r : List Int) : ∀ (d i : Nat) (acc : List Int), i + d = l.length → acc.length + d ≤ 100000000 → Ev (fun k => gramaryeref13_Heads.l0 k l (acc ++ if (n : Int) ∈ hds (l.drop i) ∧ (n : Int) ∉ acc then [(n : Int)] else []) ((n + 1 : Nat) : Int)) r →
    Ev (fun k => gramaryeref13_Heads.l1 k l acc n i) r := by
  intro d
  induction d with
  | zero =>
    intro i acc hi ha h
    have hw : wrap64 ((n : Int) + 1) = ((n + 1 : Nat) : Int) := by rw [wrap_id (by omega)]; rfl
    rw [List.drop_of_length_le (by clear hw; omega), if_neg (by rintro ⟨h, _⟩; exact absurd h (by simp [hds])), List.append_nil] at h
    exact Ev.step (fun k => by rw [gramaryeref13_Heads.l1, if_neg (by clear hw; omega), hw]) h
  | succ d ih =>
    intro i acc hi ha h
    have hlt : i < l.length := by omega
    have hw : wrap64 ((i : Int) + 1) = ((i + 1 : Nat) : Int) := by rw [wrap_id (by omega)]; rfl
    have hb := bt_lt l[i] 0
    have hwb : wrap64 (bt l[i] 0) = bt l[i] 0 := wrap_id (by clear hw; omega)
    refine Ev.step (fun k => by rw [gramaryeref13_Heads.l1, if_pos (by clear hw hwb; omega), if_pos (by clear hw hwb; omega), rd_nat hlt, hw, hwb]) ?_
    rw [List.drop_eq_getElem_cons hlt, hds_cons] at h
    by_cases h0 : l[i].size = 0
    · rw [if_pos h0] at h
      exact Ev.ite_neg (by clear hw hwb; omega) (ih (i + 1) acc (by clear hw hwb; omega) (by clear hw hwb; omega) h)
    · rw [if_neg h0] at h
      refine Ev.ite_pos (by clear hw hwb; omega) (Ev.ite_pos (by clear hw hwb; omega) ?_)
      by_cases e : bt l[i] 0 = (n : Int)
      · refine Ev.ite_pos e (Ev.bind (has_int acc n (by clear hw hwb; omega)) ?_)
        by_cases hm : (n : Int) ∈ acc
        · refine Ev.ite_pos (decide_eq_true hm) (ih (i + 1) acc (by clear hw hwb; omega) (by clear hw hwb; omega) ?_)
          rw [if_neg (fun h => h.2 hm)] at h ⊢
          exact h
        · refine Ev.ite_neg (by simp [hm]) (Ev.ite_pos (by clear hw hwb; omega) ?_)
          rw [if_pos ⟨by rw [e]; exact List.mem_cons_self .., hm⟩] at h
          refine ih (i + 1) (acc ++ [(n : Int)]) (by clear hw hwb; omega) (by rw [List.length_append, List.length_singleton]; clear hw hwb; omega) ?_
          rw [if_neg (fun h => h.2 (by simp)), List.append_nil]
          exact h
      · refine Ev.ite_neg e (ih (i + 1) acc (by clear hw hwb; omega) (by clear hw hwb; omega) ?_)
        simp only [show ((n : Int) ∈ bt l[i] 0 :: hds (l.drop (i + 1)) ∧ (n : Int) ∉ acc) = ((n : Int) ∈ hds (l.drop (i + 1)) ∧ (n : Int) ∉ acc) from by
          rw [List.mem_cons]
          exact propext ⟨fun h => ⟨h.1.resolve_left (fun h => e h.symm), h.2⟩, fun h => ⟨.inr h.1, h.2⟩⟩] at h
        exact h
theorem rheads_l0 (l : List ByteArray) (hl : l.length ≤ 1000000) : ∀ (d n : Nat), n + d = 256 → Ev (fun k => gramaryeref13_Heads.l0 k l (upTo n (hds l)) n) (upTo 256 (hds l)) := by
  intro d
  induction d with
  | zero =>
    intro n hn
    obtain rfl : n = 256 := by omega
    exact Ev.step (fun k => by rw [gramaryeref13_Heads.l0, if_neg (by omega)]) (Ev.now _)
  | succ d ih =>
    intro n hn
    have hlen := upTo_length n (hds l)
    refine Ev.step (fun k => by rw [gramaryeref13_Heads.l0, if_pos (by omega)]; rfl) (rheads_l1 l hl n (by omega) _ l.length 0 (upTo n (hds l)) (by omega) (by omega) ?_)
    have h := ih (n + 1) (by omega)
    rw [upTo_succ] at h
    rw [List.drop_zero]
    have hno : (n : Int) ∉ upTo n (hds l) := fun hm => by have := upTo_lt _ hm; omega
    by_cases e : (n : Int) ∈ hds l
    · rw [if_pos e] at h
      rw [if_pos ⟨e, hno⟩]
      exact h
    · rw [if_neg e] at h
      rw [if_neg (fun h => e h.1)]
      exact h
theorem rheads_ev (l : List ByteArray) (hl : l.length ≤ 1000000) : Ev (fun k => gramaryeref13_Heads.f k l) (upTo 256 (hds l)) := rheads_l0 l hl 256 0 (by omega)
theorem heads_same (l : List ByteArray) : pack_set_int.iset (hds l) = upTo 256 (hds l) := by
  refine rises_ext (s := fun x y : Int => x < y) (fun x => by omega) (fun x y z => Int.lt_trans) _ _ (pack_set_int.iset_rises _).1 (upTo_rises _ _) fun x => ?_
  rw [(pack_set_int.iset_rises _).2]
  unfold upTo
  rw [List.mem_filter, List.mem_map, decide_eq_true_iff]
  constructor
  · intro h
    refine ⟨?_, h⟩
    unfold hds at h
    rw [List.mem_filterMap] at h
    obtain ⟨t, _, ht⟩ := h
    split at ht
    · cases ht
    · have := bt_lt t 0
      rw [← Option.some.inj ht]
      exact ⟨(bt t 0).toNat, by rw [List.mem_range]; omega, by show ((bt t 0).toNat : Int) = _; omega⟩
  · exact fun h => h.2
theorem PackCats : gramaryelaw13_PackCats.Pure := by
  intro l0 l1 a2 h0 k0 h1 k1 h2
  refine Ev.rounds (g := fun k => gramaryelaw13_PackCats.f k l0 l1 a2) ?_
  unfold gramaryelaw13_PackCats.f
  obtain ⟨a, fa, la, sa⟩ := few_ev l0 (by clear h1 h2; omega)
  obtain ⟨b, fb, lb, sb⟩ := few_ev l1 (by clear h0 h2; omega)
  have h2' := wf_i64 h2
  clear h0 h1 h2 k0 k1
  have has : ∀ x ∈ a, x.size ≤ 1000000000000 := fun x hx => by have := sa x hx; omega
  have hbs : ∀ x ∈ b, x.size ≤ 1000000000000 := fun x hx => by have := sb x hx; omega
  refine Ev.bind fa (Ev.bind fb (Ev.bind (few_id a la sa) (Ev.bind (few_id b lb sb) ?_)))
  have c0 := cat_ev b a2 h2' (by omega) hbs a (by omega) has
  have c1 := rcat_ev a b a2 (by omega) (by omega) has hbs
  have e : setT (a.flatMap fun x => b.map (tc (mx a2 0).toNat x)) = setT (a.flatMap (rowOf (mx a2 0).toNat b)) := setT_congr fun z => by
    rw [← mem_keys (l := a.flatMap (rowOf _ b)), mem_row]
    simp only [List.mem_flatMap, List.mem_map]
    constructor
    · rintro ⟨x, hx, y, hy, rfl⟩; exact ⟨x, hx, y, hy, rfl⟩
    · rintro ⟨x, hx, y, hy, h⟩; exact ⟨x, hx, y, hy, (ext_list h).symm⟩
  rw [e] at c1
  have hlen : (setT (a.flatMap (rowOf (mx a2 0).toNat b))).length ≤ 1000000000000 := by
    refine Nat.le_trans (setT_length _) ?_
    have : ∀ a : List ByteArray, (a.flatMap (rowOf (mx a2 0).toNat b)).length ≤ a.length * b.length := by
      intro a
      induction a with
      | nil => simp
      | cons x a ih =>
        rw [List.flatMap_cons, List.length_append, List.length_cons, Nat.succ_mul]
        have := rowOf_length (mx a2 0).toNat b x
        omega
    have h1 := this a
    have h2 := Nat.mul_le_mul la lb
    omega
  refine Ev.bind c0 (Ev.bind c1 (Ev.bind (same_texts _ hlen) (Ev.ite_pos rfl (Ev.bind (few_id a la sa) (Ev.bind (heads_ev a (by omega)) (Ev.bind (rheads_ev a (by omega)) ?_))))))
  rw [← heads_same]
  refine Ev.bind (same_ints _ ?_) (Ev.ite_pos rfl (Ev.bind works_ev (Ev.now _)))
  have := pack_set_int.iset_length_le (hds a)
  have := hds_length a
  omega

end Go.Proofs.Ytmmhaedehkogmaa.Pure
