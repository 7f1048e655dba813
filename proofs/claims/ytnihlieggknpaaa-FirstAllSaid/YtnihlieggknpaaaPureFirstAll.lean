/- For all plain rules (cut to eight nonterminals, fourteen productions of four symbols, as the statement has it): each word's first Look tokens are beginnings, and each beginning of less than Look tokens is a word, where Look is at most three. No other condition. -/
-- Written by pure.py for this claim.
import Derived.Test.YtnihlieggknpaaaHFirstAllx
import Derived.Test.YtnihlieggknpaaaSFirstAllVPure
import Derived.Sort.Walk0
namespace Go.Proofs.Ytnihlieggknpaaa.Pure
open Go.RowKit Go.Plus Go.Proofs.Ytnihlieggknpaaa.HFirstAll Go.Proofs.YtnihlieggknpaaaW.PrintWords Go.Proofs.YtnihlieggknpaaaW.PrintLast Go.Proofs.YtnihlieggknpaaaW.PrintMore
set_option linter.unusedVariables false
set_option linter.unusedSimpArgs false
abbrev Sym := S71
abbrev Prod' := S61
theorem rdS {l : List Sym} {i : Nat} (h : i < l.length) : rd_T71 l (i : Int) = l[i] := by
 unfold rd_T71
 simp [List.getD_eq_getElem?_getD, h]
theorem rdP {l : List Prod'} {i : Nat} (h : i < l.length) : rd_T61 l (i : Int) = l[i] := by
 unfold rd_T61
 simp [List.getD_eq_getElem?_getD, h]
def symBad (toks : Int) (n : Nat) (s : Sym) : Bool := if s.f0 = true then !(decide (1 ≤ s.f1) && decide (s.f1 ≤ toks)) else !(decide (0 ≤ s.f1) && decide (s.f1 < (n : Int)))
def prodBad (toks : Int) (n : Nat) (p : Prod') : Bool := !(decide (0 ≤ p.f0) && decide (p.f0 < (n : Int))) || p.f1.any (symBad toks n)
def mayE (toks look : Int) (n : Nat) (L : List Prod') : Int :=
 if toks < 1 ∨ 60 < toks ∨ n < 1 ∨ 500 < n ∨ L.length < 1 ∨ 2000 < L.length ∨ (L.any fun p => decide (500 < p.f1.length)) = true then 8 else if look < 1 ∨ 4 < look then 11 else if L.any (prodBad toks n) = true then 4 else 0
theorem sym_some (toks look : Int) (of : List Int) (L : List Prod') (b : Bool) (n : Int) : bnf_sym.f toks look of L b n = some (!symBad toks of.length ⟨b, n⟩) := by
 unfold bnf_sym.f bnf_from1.f symBad
 cases b
 ·by_cases h : n ≥ 0
  ·simp [h]
  ·simp [h]
 ·by_cases h : n ≥ 1
  ·simp [h]
  ·simp [h]
theorem drop_any {α : Type} {l : List α} {i : Nat} (h : i < l.length) (f : α → Bool) : (l.drop i).any f = (f l[i] || (l.drop (i + 1)).any f) := by
 rw [List.drop_eq_getElem_cons h, List.any_cons]
theorem idxSym (toks look : Int) (of : List Int) (L : List Prod') (l : List Sym) (hl : l.length ≤ 1000000000) : ∀ (d i : Nat), i + d = l.length → ∃ z : Int, decide (z ≥ 0) = (l.drop i).any (symBad toks of.length) ∧ Ev (fun k => slices_IndexFunc_api_Sym__bnf_prod_1.l0 k l l.length i toks look of L) (z, toks, look) := by
 intro d
 induction d with
 | zero =>
  intro i hi
  exact ⟨-1, by rw [List.drop_of_length_le (by omega)]; rfl, Ev.step (fun k => by rw [slices_IndexFunc_api_Sym__bnf_prod_1.l0, if_neg (by omega)]) (Ev.now _)⟩
 | succ d ih =>
  intro i hi
  have hlt : i < l.length := by omega
  have hw : wrap64 ((i : Int) + 1) = ((i + 1 : Nat) : Int) := by rw [wrap_id (by omega)]; rfl
  have e : bnf_prod_1.f l[i].f0 l[i].f1 toks look of L = some (symBad toks of.length l[i], toks, look) := by
   unfold bnf_prod_1.f
   rw [sym_some, Option.bind_some, Bool.not_not]
  rw [drop_any hlt]
  cases hb : symBad toks of.length l[i]
  ·obtain ⟨z, h0, hz⟩ := ih (i + 1) (by omega)
   refine ⟨z, by rw [h0]; rfl, Ev.step (fun k => by rw [slices_IndexFunc_api_Sym__bnf_prod_1.l0, if_pos (by clear hw; omega), if_pos (by clear hw; omega), if_pos (by clear hw; omega), rdS hlt, e, Option.bind_some, hw]) (Ev.ite_neg (by rw [hb]; simp) hz)⟩
  ·refine ⟨i, by simp, Ev.step (fun k => by rw [slices_IndexFunc_api_Sym__bnf_prod_1.l0, if_pos (by clear hw; omega), if_pos (by clear hw; omega), if_pos (by clear hw; omega), rdS hlt, e, Option.bind_some]) (Ev.ite_pos hb (Ev.now _))⟩
theorem prod_ev (toks look : Int) (of : List Int) (L : List Prod') (n : Int) (r : List Sym) (hr : r.length ≤ 1000000000) : Ev (fun k => bnf_prod.f k toks look of L n r) (!prodBad toks of.length ⟨n, r⟩) := by
 unfold bnf_prod.f prodBad
 by_cases h1 : n ≥ 0
 ·refine Ev.ite_pos h1 ?_
  by_cases h2 : n < (of.length : Int)
  ·refine Ev.ite_pos h2 ?_
   obtain ⟨z, h0, hz⟩ := idxSym toks look of L r hr r.length 0 (by omega)
   rw [List.drop_zero] at h0
   unfold slices_ContainsFunc_api_Sym__bnf_prod_1.f slices_IndexFunc_api_Sym__bnf_prod_1.f
   refine Ev.bind (Ev.bind hz (Ev.now _)) (Ev.some ?_)
   rw [h0]
   simp [h1, h2]
  ·refine Ev.ite_neg h2 (Ev.some ?_)
   simp [h2]
 ·refine Ev.ite_neg h1 (Ev.some ?_)
  have : ¬ 0 ≤ n := h1
  simp [this]
theorem idxProd (toks look : Int) (of : List Int) (L l : List Prod') (hl : l.length ≤ 1000000000) (hr : ∀ p ∈ l, p.f1.length ≤ 1000000000) : ∀ (d i : Nat), i + d = l.length → ∃ z : Int, decide (z ≥ 0) = (l.drop i).any (prodBad toks of.length) ∧ Ev (fun k => slices_IndexFunc_api_Prod__bnf_May_1.l0 k l l.length i toks look of L) (z, toks, look) := by
 intro d
 induction d with
 | zero =>
  intro i hi
  exact ⟨-1, by rw [List.drop_of_length_le (by omega)]; rfl, Ev.step (fun k => by rw [slices_IndexFunc_api_Prod__bnf_May_1.l0, if_neg (by omega)]) (Ev.now _)⟩
 | succ d ih =>
  intro i hi
  have hlt : i < l.length := by omega
  have hw : wrap64 ((i : Int) + 1) = ((i + 1 : Nat) : Int) := by rw [wrap_id (by omega)]; rfl
  have e : Ev (fun k => bnf_May_1.f k l[i].f0 l[i].f1 toks look of L) (prodBad toks of.length l[i], toks, look) := by
   unfold bnf_May_1.f
   exact Ev.bind (prod_ev toks look of L l[i].f0 l[i].f1 (hr _ (List.getElem_mem _))) (Ev.some (by rw [Bool.not_not]))
  rw [drop_any hlt]
  cases hb : prodBad toks of.length l[i]
  ·rw [hb] at e
   obtain ⟨z, h0, hz⟩ := ih (i + 1) (by omega)
   refine ⟨z, by rw [h0]; rfl, Ev.step (fun k => by rw [slices_IndexFunc_api_Prod__bnf_May_1.l0, if_pos (by clear hw; omega), if_pos (by clear hw; omega), if_pos (by clear hw; omega), rdP hlt, hw]) (Ev.bind e (Ev.ite_neg (show ¬ ((false, toks, look) : Bool × Int × Int).1 = true from Bool.false_ne_true) hz))⟩
  ·rw [hb] at e
   refine ⟨i, by simp, Ev.step (fun k => by rw [slices_IndexFunc_api_Prod__bnf_May_1.l0, if_pos (by clear hw; omega), if_pos (by clear hw; omega), if_pos (by clear hw; omega), rdP hlt]) (Ev.bind e (Ev.ite_pos rfl (Ev.now _)))⟩
theorem idxLong (l : List Prod') (hl : l.length ≤ 1000000000) : ∀ (d i : Nat), i + d = l.length → ∃ z : Int, decide (z ≥ 0) = (l.drop i).any (fun p => decide (500 < p.f1.length)) ∧ Ev (fun k => slices_IndexFunc_api_Prod__bnf_long.l0 k l l.length i) z := by
 intro d
 induction d with
 | zero =>
  intro i hi
  exact ⟨-1, by rw [List.drop_of_length_le (by omega)]; rfl, Ev.step (fun k => by rw [slices_IndexFunc_api_Prod__bnf_long.l0, if_neg (by omega)]) (Ev.now _)⟩
 | succ d ih =>
  intro i hi
  have hlt : i < l.length := by omega
  have hw : wrap64 ((i : Int) + 1) = ((i + 1 : Nat) : Int) := by rw [wrap_id (by omega)]; rfl
  have e : bnf_long.f l[i].f0 l[i].f1 = some (decide (500 < l[i].f1.length)) := by
   unfold bnf_long.f
   refine congrArg some (decide_eq_decide.2 ?_)
   omega
  rw [drop_any hlt]
  cases hb : decide (500 < l[i].f1.length)
  ·obtain ⟨z, h0, hz⟩ := ih (i + 1) (by omega)
   refine ⟨z, by rw [h0]; rfl, Ev.step (fun k => by rw [slices_IndexFunc_api_Prod__bnf_long.l0, if_pos (by clear hw; omega), if_pos (by clear hw; omega), if_pos (by clear hw; omega), rdP hlt, e, Option.bind_some, hw]) (Ev.ite_neg (by rw [hb]; simp) hz)⟩
  ·refine ⟨i, by simp, Ev.step (fun k => by rw [slices_IndexFunc_api_Prod__bnf_long.l0, if_pos (by clear hw; omega), if_pos (by clear hw; omega), if_pos (by clear hw; omega), rdP hlt, e, Option.bind_some]) (Ev.ite_pos hb (Ev.now _))⟩
theorem from1_some (a b : Int) : bnf_from1.f a b = some (decide (1 ≤ a ∧ a ≤ b)) := by
 unfold bnf_from1.f
 by_cases h : a ≥ 1
 ·rw [if_pos h]; simp [show 1 ≤ a from h]
 ·rw [if_neg h]; simp [show ¬ 1 ≤ a from h]
theorem may_j0 (toks look : Int) (of : List Int) (L : List Prod') (hl : L.length ≤ 1000000000) (hr : ∀ p ∈ L, p.f1.length ≤ 1000000000) (b : Bool) : Ev (fun k => bnf_May.j0 k b toks look of L) (if b = true then 8 else if look < 1 ∨ 4 < look then 11 else if L.any (prodBad toks of.length) = true then 4 else 0) := by
 refine Ev.step (fun k => by rw [bnf_May.j0]) ?_
 cases b
 ·refine Ev.ite_neg (by simp) (Ev.bind0 (from1_some _ _) ?_)
  rw [if_neg (by simp)]
  by_cases h : 1 ≤ look ∧ look ≤ 4
  ·rw [if_neg (by omega)]
   refine Ev.ite_pos (decide_eq_true h) ?_
   obtain ⟨z, h0, hz⟩ := idxProd toks look of L L hl hr L.length 0 (by omega)
   rw [List.drop_zero] at h0
   unfold slices_ContainsFunc_api_Prod__bnf_May_1.f slices_IndexFunc_api_Prod__bnf_May_1.f
   refine Ev.bind (Ev.bind hz (Ev.now _)) ?_
   rw [← h0]
   refine Ev.congr (f := fun k => some (if decide (z ≥ 0) = true then (4 : Int) else 0)) (fun k => ?_) (Ev.now _)
   by_cases hz0 : z ≥ 0
   ·simp [hz0]
   ·simp [hz0]
  ·rw [if_pos (by omega)]
   exact Ev.ite_neg (by simpa using h) (Ev.now _)
 ·rw [if_pos rfl]; exact Ev.ite_pos rfl (Ev.now _)
theorem may_ev (toks look : Int) (of : List Int) (L : List Prod') (hl : L.length ≤ 1000000000) (hr : ∀ p ∈ L, p.f1.length ≤ 1000000000) : Ev (fun k => bnf_May.f k toks look of L) (mayE toks look of.length L) := by
 unfold bnf_May.f mayE
 have ht := may_j0 toks look of L hl hr true
 rw [if_pos rfl] at ht
 refine Ev.bind0 (from1_some _ _) ?_
 by_cases h1 : 1 ≤ toks ∧ toks ≤ 60
 ·refine Ev.ite_pos (decide_eq_true h1) (Ev.bind0 (from1_some _ _) ?_)
  by_cases h2 : 1 ≤ (of.length : Int) ∧ (of.length : Int) ≤ 500
  ·refine Ev.ite_pos (decide_eq_true h2) (Ev.bind0 (from1_some _ _) ?_)
   by_cases h3 : 1 ≤ (L.length : Int) ∧ (L.length : Int) ≤ 2000
   ·refine Ev.ite_pos (decide_eq_true h3) ?_
    obtain ⟨z, h0, hz⟩ := idxLong L hl L.length 0 (by omega)
    rw [List.drop_zero] at h0
    unfold slices_ContainsFunc_api_Prod__bnf_long.f slices_IndexFunc_api_Prod__bnf_long.f
    refine Ev.bind (Ev.bind hz (Ev.now _)) ?_
    have hj := may_j0 toks look of L hl hr (decide (z ≥ 0))
    rw [h0] at hj ⊢
    by_cases h4 : (L.any fun p => decide (500 < p.f1.length)) = true
    ·rw [if_pos h4] at hj
     rw [if_pos (by simp only [h4, or_true])]
     exact hj
    ·rw [if_neg h4] at hj
     rw [if_neg (by rintro (h|h|h|h|h|h|h) <;> first | omega | exact h4 h)]
     exact hj
   ·rw [if_pos (by omega)]
    exact Ev.ite_neg (by simpa using h3) ht
  ·rw [if_pos (by omega)]
   exact Ev.ite_neg (by simpa using h2) ht
 ·rw [if_pos (by omega)]
  exact Ev.ite_neg (by simpa using h1) ht
instance riseDec (l : List Txt) : Decidable (Rises l) := inferInstanceAs (Decidable (l.Pairwise (· < ·)))
abbrev keysOf := pack_set_string.keys
abbrev txts := pack_set_string.texts
theorem keys_txts (l : List Txt) : keysOf (txts l) = l := by
 unfold keysOf txts pack_set_string.keys pack_set_string.texts
 rw [List.map_map]
 conv => rhs; rw [← List.map_id l]
 exact List.map_congr_left fun x _ => by simp
theorem txts_keys (l : List ByteArray) : txts (keysOf l) = l := by
 unfold keysOf txts pack_set_string.keys pack_set_string.texts
 rw [List.map_map]
 conv => rhs; rw [← List.map_id l]
 exact List.map_congr_left fun x _ => by
  apply ByteArray.ext
  simp
theorem keys_length (a : List ByteArray) : (keysOf a).length = a.length := List.length_map ..
def setT (l : List ByteArray) : List ByteArray := txts (tset (keysOf l))
theorem keys_setT (l : List ByteArray) : keysOf (setT l) = tset (keysOf l) := keys_txts _
theorem set_some (l : List ByteArray) (h : l.length ≤ 1000000000000) : pack_set_string.f l = some (setT l) := by
 unfold pack_set_string.f
 rw [if_pos (by omega)]
 rfl
theorem join_some (a b : List ByteArray) (ha : a.length ≤ 100000000000) (hb : b.length ≤ 100000000000) : pack_Join.f a b = some (setT (a ++ b)) := by
 unfold pack_Join.f
 rw [if_pos (by omega), set_some _ (by rw [List.length_append]; omega)]
theorem rd_nat {l : List ByteArray} {i : Nat} (h : i < l.length) : rdOf ByteArray.empty l (i : Int) = l[i] := by
 unfold rdOf
 simp [List.getD_eq_getElem?_getD, h]
theorem data_append0 (a b : ByteArray) : (a ++ b).data.toList = a.data.toList ++ b.data.toList := by simp
def tc (K : Nat) (x y : ByteArray) : ByteArray := ⟨((x.data.toList ++ y.data.toList).take K).toArray⟩
theorem ext_list {a b : ByteArray} (h : a.data.toList = b.data.toList) : a = b := by
 apply ByteArray.ext
 apply Array.toList_inj.1 h
theorem tcat_some (x y : ByteArray) (k : Int) (hx : x.size ≤ 1000000000000) (hy : y.size ≤ 1000000000000) (hk : -9223372036854775808 ≤ k ∧ k ≤ 9223372036854775807) : tuple_Cat.f x y k = some (tc (mx k 0).toNat x y) := by
 have hsx := size_list x
 have hsy := size_list y
 unfold tuple_Cat.f
 by_cases h : (x.size : Int) ≥ k
 ·have hm : 0 ≤ mx k 0 ∧ mx k 0 ≤ x.size := by unfold mx; split <;> omega
  rw [if_pos h, if_pos hm.1, if_pos hm.2]
  congr 1
  apply ext_list
  rw [extract_list]
  unfold tc
  simp only [List.drop_zero]
  rw [List.take_append_of_le_length (by omega)]
 ·have hm : mx k 0 = k := by unfold mx; split <;> omega
  by_cases hb : k ≤ 9223372036854775807 - 0 ∧ 0 ≤ k - x.size ∧ k - (x.size : Int) ≤ 9223372036854775807
  ·have hw : wrap64 (k - (x.size : Int)) = k - (x.size : Int) := wrap_id (by omega)
   have hn : 0 ≤ mn (k - (x.size : Int)) (y.size : Int) ∧ mn (k - (x.size : Int)) (y.size : Int) ≤ y.size := by unfold mn; split <;> omega
   rw [if_neg h, hw, if_pos hn.1, if_pos hn.2, if_pos (by rw [ByteArray.size_extract]; clear hw; omega)]
   congr 1
   apply ext_list
   rw [data_append0, extract_list]
   unfold tc
   simp only [List.drop_zero]
   rw [hm, List.take_append]
   rw [List.take_of_length_le (show x.data.toList.length ≤ k.toNat by clear hw; omega)]
   congr 1
   have e : (mn (k - (x.size : Int)) (y.size : Int)).toNat = min (k.toNat - x.data.toList.length) y.data.toList.length := by
    rw [hsx, hsy]
    unfold mn
    clear hw
    split <;> omega
   rw [e, List.take_eq_take_iff]
   omega
  ·exact absurd ⟨by omega, by omega, by omega⟩ hb
def rowOf (K : Nat) (b : List ByteArray) (x : ByteArray) : List ByteArray := if K ≤ x.size ∧ 0 < b.length then [x.extract 0 K] else b.map (tc K x)
theorem rowOf_length (K : Nat) (b : List ByteArray) (x : ByteArray) : (rowOf K b x).length ≤ b.length := by
 unfold rowOf
 split
 ·rename_i h; exact h.2
 ·simp
section
variable (b : List ByteArray) (k : Int) (hk : -9223372036854775808 ≤ k ∧ k ≤ 9223372036854775807) (hb : b.length ≤ 1000000) (hbs : ∀ y ∈ b, y.size ≤ 1000000000000)
include hk hb hbs
theorem cat_l1 (x : ByteArray) (hx : x.size ≤ 1000000000000) (A : List ByteArray) (i : Int) (r : List ByteArray) : ∀ (d j : Nat) (acc : List ByteArray), j + d = b.length → acc.length + d ≤ 1000000000000 →
  Ev (fun n => pack_Cat.l0 n b k (acc ++ (b.drop j).map (tc (mx k 0).toNat x)) A A.length (wrap64 (i + 1))) r → Ev (fun n => pack_Cat.l1 n b k acc x A A.length i b b.length j) r := by
 intro d
 induction d with
 | zero =>
  intro j acc hj _ h
  rw [List.drop_of_length_le (by omega), List.map_nil, List.append_nil] at h
  exact Ev.step (fun n => by rw [pack_Cat.l1, if_neg (by omega)]) h
 | succ d ih =>
  intro j acc hj ha h
  have hlt : j < b.length := by omega
  have hw : wrap64 ((j : Int) + 1) = ((j + 1 : Nat) : Int) := by rw [wrap_id (by omega)]; rfl
  refine Ev.step (fun n => by rw [pack_Cat.l1, if_pos (by clear hw; omega), if_pos (by clear hw; omega), if_pos (by clear hw; omega), rd_nat hlt, hw]) ?_
  refine Ev.bind0 (tcat_some x b[j] k hx (hbs _ (List.getElem_mem _)) hk) (Ev.ite_pos (by clear hw; omega) ?_)
  refine ih (j + 1) _ (by omega) (by simp; omega) ?_
  rw [List.drop_eq_getElem_cons hlt, List.map_cons] at h
  simpa using h
theorem cat_l0 (a : List ByteArray) (hal : a.length ≤ 100000) (has : ∀ x ∈ a, x.size ≤ 1000000000000) : ∀ (d i : Nat) (acc : List ByteArray), i + d = a.length → acc.length + d * b.length ≤ 100000000000 →
  Ev (fun n => pack_Cat.l0 n b k acc a a.length i) (setT (acc ++ (a.drop i).flatMap (rowOf (mx k 0).toNat b))) := by
 intro d
 induction d with
 | zero =>
  intro i acc hi ha
  rw [List.drop_of_length_le (by omega), List.flatMap_nil, List.append_nil]
  exact Ev.step (fun n => by rw [pack_Cat.l0, if_neg (by omega)]) (Ev.bind0 (set_some acc (by omega)) (Ev.now _))
 | succ d ih =>
  intro i acc hi ha
  have hlt : i < a.length := by omega
  have hw : wrap64 ((i : Int) + 1) = ((i + 1 : Nat) : Int) := by rw [wrap_id (by omega)]; rfl
  have hsz := has _ (List.getElem_mem hlt)
  have hmx : 0 ≤ mx k 0 := by unfold mx; split <;> omega
  have hlen := rowOf_length (mx k 0).toNat b a[i]
  have hmul : (d + 1) * b.length = d * b.length + b.length := Nat.succ_mul _ _
  rw [List.drop_eq_getElem_cons hlt, List.flatMap_cons, ← List.append_assoc]
  have ih' := ih (i + 1) (acc ++ rowOf (mx k 0).toNat b a[i]) (by omega) (by rw [List.length_append]; omega)
  refine Ev.step (fun n => by rw [pack_Cat.l0, if_pos (by clear hw; omega), if_pos (by clear hw; omega), if_pos (by clear hw; omega), rd_nat hlt]) ?_
  have hj1t : ∀ (hc1 : mx k 0 ≤ (a[i].size : Int)) (hc2 : 0 < b.length), Ev (fun n => pack_Cat.j1 n b k acc a[i] a a.length i true) (setT (acc ++ rowOf (mx k 0).toNat b a[i] ++ (a.drop (i + 1)).flatMap (rowOf (mx k 0).toNat b))) := by
   intro hc1 hc2
   refine Ev.step (fun n => by rw [pack_Cat.j1, if_pos rfl, if_pos hmx, if_pos hc1, if_pos (by clear hw; omega), hw]) ?_
   have e : rowOf (mx k 0).toNat b a[i] = [a[i].extract 0 (mx k 0).toNat] := by unfold rowOf; rw [if_pos ⟨by clear hw; omega, hc2⟩]
   rw [e] at ih' ⊢
   exact ih'
  have hj1f : ¬ ((mx k 0).toNat ≤ a[i].size ∧ 0 < b.length) → Ev (fun n => pack_Cat.j1 n b k acc a[i] a a.length i false) (setT (acc ++ rowOf (mx k 0).toNat b a[i] ++ (a.drop (i + 1)).flatMap (rowOf (mx k 0).toNat b))) := by
   intro hc
   refine Ev.step (fun n => by rw [pack_Cat.j1, if_neg (by simp)]) ?_
   have e : rowOf (mx k 0).toNat b a[i] = b.map (tc (mx k 0).toNat a[i]) := by unfold rowOf; rw [if_neg hc]
   refine cat_l1 b k hk hb hbs a[i] hsz a i _ b.length 0 acc (by omega) (by clear hw; omega) ?_
   rw [List.drop_zero, hw, ← e]
   exact ih'
  by_cases hc1 : (a[i].size : Int) ≥ mx k 0
  ·refine Ev.ite_pos hc1 ?_
   by_cases hc2 : 0 < b.length
   ·rw [show decide ((b.length : Int) > 0) = true from decide_eq_true (by clear hw; omega)]
    exact hj1t hc1 hc2
   ·rw [show decide ((b.length : Int) > 0) = false from decide_eq_false (by clear hw; omega)]
    exact hj1f (fun h => hc2 h.2)
  ·refine Ev.ite_neg hc1 (hj1f (fun h => hc1 (by have := h.1; clear hw; omega)))
theorem cat_ev (a : List ByteArray) (hal : a.length ≤ 100000) (has : ∀ x ∈ a, x.size ≤ 1000000000000) : Ev (fun n => pack_Cat.f n a b k) (setT (a.flatMap (rowOf (mx k 0).toNat b))) := by
 unfold pack_Cat.f
 have h := cat_l0 b k hk hb hbs a hal has a.length 0 [] (by omega) (by
  have : a.length * b.length ≤ 100000 * 1000000 := Nat.mul_le_mul hal hb
  simp; omega)
 simpa using h
end
theorem mem_row (K : Nat) (a b : List ByteArray) (t : Txt) : t ∈ keysOf (a.flatMap (rowOf K b)) ↔ ∃ x ∈ a, ∃ y ∈ b, t = (x.data.toList ++ y.data.toList).take K := by
 unfold keysOf pack_set_string.keys
 simp only [List.mem_map, List.mem_flatMap]
 constructor
 ·rintro ⟨z, ⟨x, hx, hz⟩, rfl⟩
  refine ⟨x, hx, ?_⟩
  unfold rowOf at hz
  split at hz
  ·rename_i hc
   obtain ⟨y, hy⟩ := List.exists_mem_of_length_pos hc.2
   refine ⟨y, hy, ?_⟩
   rw [List.mem_singleton.1 hz, extract_list]
   simp only [List.drop_zero]
   rw [List.take_append_of_le_length (by have := size_list x; omega)]
  ·obtain ⟨y, hy, rfl⟩ := List.mem_map.1 hz
   exact ⟨y, hy, rfl⟩
 ·rintro ⟨x, hx, y, hy, rfl⟩
  unfold rowOf
  by_cases hc : K ≤ x.size ∧ 0 < b.length
  ·refine ⟨x.extract 0 K, ⟨x, hx, by rw [if_pos hc]; simp⟩, ?_⟩
   rw [extract_list]
   simp only [List.drop_zero]
   rw [List.take_append_of_le_length (by have := size_list x; omega)]
  ·exact ⟨tc K x y, ⟨x, hx, by rw [if_neg hc]; exact List.mem_map.2 ⟨y, hy, rfl⟩⟩, rfl⟩
theorem mem_keys {l : List ByteArray} {x : ByteArray} : x.data.toList ∈ keysOf l ↔ x ∈ l := by
 unfold keysOf pack_set_string.keys
 rw [List.mem_map]
 constructor
 ·rintro ⟨y, hy, e⟩
  rw [← ext_list e]; exact hy
 ·exact fun h => ⟨x, h, rfl⟩
theorem mem_setT {l : List ByteArray} {x : ByteArray} : x ∈ setT l ↔ x ∈ l := by
 rw [← mem_keys, keys_setT, (tset_rises _).2, mem_keys]
theorem setT_congr {a b : List ByteArray} (h : ∀ x, x ∈ a ↔ x ∈ b) : setT a = setT b := by
 unfold setT
 rw [tset_congr (a := keysOf a) (b := keysOf b) fun t => ?_]
 unfold keysOf pack_set_string.keys
 simp only [List.mem_map, h]
theorem rmid_eq (lo hi n : Nat) (h : hi ≤ n) (hn : n ≤ 1000000000000) : wrap64 (Int.tdiv (wrap64 ((lo : Int) + (hi : Int))) 2) = (((lo + hi) / 2 : Nat) : Int) ∨ ¬ lo ≤ hi := by
 by_cases hl : lo ≤ hi
 ·left
  have h1 : wrap64 ((lo : Int) + (hi : Int)) = ((lo + hi : Nat) : Int) := by rw [wrap_id (by omega)]; rfl
  have h2 : Int.tdiv ((lo + hi : Nat) : Int) 2 = (((lo + hi) / 2 : Nat) : Int) := by
   rw [Int.tdiv_eq_ediv_of_nonneg (by omega)]; rfl
  rw [h1, h2]
  clear h1 h2
  rw [wrap_id (by omega)]
 ·exact .inr hl
theorem keysOf_at' {l : List ByteArray} {i : Nat} (h : i < l.length) : (keysOf l)[i]'(by rw [keys_length]; exact h) = l[i].data.toList := by
 unfold keysOf pack_set_string.keys
 rw [List.getElem_map]
theorem less_iff' (a b : ByteArray) : Op.bytesLess a.toList b.toList = true ↔ a.data.toList < b.data.toList := by
 rw [Go.Proofs.bytesLess_eq, Lib.toList_data, Lib.toList_data, decide_eq_true_iff]
instance memDec (x : ByteArray) (l : List ByteArray) : Decidable (x ∈ l) := decidable_of_iff (∃ y ∈ l, y = x) ⟨fun ⟨_, h, e⟩ => e ▸ h, fun h => ⟨x, h, rfl⟩⟩
theorem key_inj {a b : ByteArray} : a.toList = b.toList ↔ a = b := by
 rw [Lib.toList_data, Lib.toList_data]
 exact ⟨ext_list, fun h => h ▸ rfl⟩
theorem same_dec (a b : List ByteArray) (hl : a.length ≤ 1000000000000) : Ev (fun k => gramaryebase_SameTexts.f k a b) (decide (a = b)) := by
 unfold gramaryebase_SameTexts.f
 by_cases hab : a.length = b.length
 ·refine Ev.ite_pos (by omega) ?_
  have : ∀ (d i : Nat), i + d = a.length → Ev (fun k => gramaryebase_SameTexts.l0 k a b i) (decide (a.drop i = b.drop i)) := by
   intro d
   induction d with
   | zero =>
    intro i hi
    rw [List.drop_of_length_le (by omega), List.drop_of_length_le (by omega)]
    exact Ev.step (fun k => by rw [gramaryebase_SameTexts.l0, if_neg (by omega)]; rfl) (Ev.now _)
   | succ d ih =>
    intro i hi
    have h1 : i < a.length := by omega
    have h2 : i < b.length := by omega
    have hw : wrap64 ((i : Int) + 1) = ((i + 1 : Nat) : Int) := by rw [wrap_id (by omega)]; rfl
    refine Ev.step (fun k => by rw [gramaryebase_SameTexts.l0, if_pos (by clear hw; omega), if_pos (by clear hw; omega), if_pos (by clear hw; omega), rd_nat h1, rd_nat h2, hw]) ?_
    rw [List.drop_eq_getElem_cons h1, List.drop_eq_getElem_cons h2]
    by_cases e : a[i] = b[i]
    ·refine Ev.ite_pos (key_inj.2 e) ?_
     rw [show decide (a[i] :: a.drop (i + 1) = b[i] :: b.drop (i + 1)) = decide (a.drop (i + 1) = b.drop (i + 1)) from decide_eq_decide.2 (by rw [List.cons.injEq]; exact ⟨fun h => h.2, fun h => ⟨e, h⟩⟩)]
     exact ih (i + 1) (by clear hw; omega)
    ·refine Ev.ite_neg (fun h => e (key_inj.1 h)) ?_
     rw [decide_eq_false (by rw [List.cons.injEq]; exact fun h => e h.1)]
     exact Ev.now _
  have h := this a.length 0 (by omega)
  rw [List.drop_zero, List.drop_zero] at h
  exact h
 ·rw [decide_eq_false (fun h => hab (by rw [h]))]
  exact Ev.ite_neg (by omega) (Ev.now _)
theorem setT_nil : setT [] = [] := by unfold setT; rw [show keysOf [] = [] from rfl, tset_of_rises rises_nil]; rfl
abbrev Sets := List (List ByteArray)
def setP (l : List ByteArray) : List ByteArray := txts (putAll [] (keysOf l))
theorem setP_eq (l : List ByteArray) : setP l = setT l := congrArg txts (putAll_nil _)
abbrev CatF := List ByteArray → List ByteArray → List ByteArray
def rowG (C : CatF) (M : Nat) (sets : Sets) : List Sym → List ByteArray → List ByteArray × Bool
 | [], out => (out, true)
 | s :: l, out => if M < (C out (if s.f0 = true then [strOfNums [s.f1 % 256]] else rd_L6 sets s.f1)).length then ([], false) else rowG C M sets l (C out (if s.f0 = true then [strOfNums [s.f1 % 256]] else rd_L6 sets s.f1))
def roundG (C : CatF) (M : Nat) : List Prod' → Sets → Bool → Sets × Bool × Bool
 | [], sets, more => (sets, more, true)
 | p :: ps, sets, more => if (rowG C M sets p.f1 [(⟨#[]⟩ : ByteArray)]).2 = false then (sets, false, false) else if M < (setP (rd_L6 sets p.f0 ++ (rowG C M sets p.f1 [(⟨#[]⟩ : ByteArray)]).1)).length then (sets, false, false) else roundG C M ps (sets.set p.f0.toNat (setP (rd_L6 sets p.f0 ++ (rowG C M sets p.f1 [(⟨#[]⟩ : ByteArray)]).1))) (more || decide ((rd_L6 sets p.f0).length < (setP (rd_L6 sets p.f0 ++ (rowG C M sets p.f1 [(⟨#[]⟩ : ByteArray)]).1)).length))
def loopG (C : CatF) (M : Nat) (ps : List Prod') : Nat → Sets → Option Sets
 | 0, _ => none
 | m + 1, sets => if (roundG C M ps sets false).2.2 = false then none else if (roundG C M ps sets false).2.1 = false then some (roundG C M ps sets false).1 else loopG C M ps m (roundG C M ps sets false).1
def GoodM (M : Nat) (a : List ByteArray) : Prop := a.length ≤ M ∧ ∀ x ∈ a, x.size ≤ 4
def GoodSM (M : Nat) (sets : Sets) : Prop := ∀ a ∈ sets, GoodM M a ∧ setT a = a
theorem rd_sets {sets : Sets} {i : Int} (h : 0 ≤ i ∧ i < sets.length) : rd_L6 sets i ∈ sets := by
 unfold rd_L6
 rw [List.getD_eq_getElem?_getD, List.getElem?_eq_getElem (by omega)]
 exact List.getElem_mem _
theorem strOfNums_size (n : Int) : (strOfNums [n]).size = 1 := rfl
theorem tok_good {M : Nat} (hM : 1 ≤ M) (n : Int) : GoodM M [strOfNums [n]] := ⟨by simpa using hM, fun x hx => by rw [List.mem_singleton.1 hx, strOfNums_size]; omega⟩
theorem empty_good {M : Nat} (hM : 1 ≤ M) : GoodM M [(⟨#[]⟩ : ByteArray)] := ⟨by simpa using hM, fun x hx => by rw [List.mem_singleton.1 hx]; decide⟩
theorem sym_good {M : Nat} (hM : 1 ≤ M) {toks : Int} {sets : Sets} (hS : GoodSM M sets) {s : Sym} (hs : symBad toks sets.length s = false) : GoodM M (if s.f0 = true then [strOfNums [s.f1 % 256]] else rd_L6 sets s.f1) ∧ (s.f0 = false → 0 ≤ s.f1 ∧ s.f1 < sets.length) := by
 unfold symBad at hs
 cases h : s.f0
 ·rw [h] at hs
  have h2 : 0 ≤ s.f1 ∧ s.f1 < sets.length := by simpa using hs
  exact ⟨(hS _ (rd_sets h2)).1, fun _ => h2⟩
 ·exact ⟨tok_good hM _, fun h => by cases h⟩
theorem rowG_good {C : CatF} {M : Nat} (hC : ∀ a b, ∀ x ∈ C a b, x.size ≤ 4) (sets : Sets) : ∀ (l : List Sym) (out : List ByteArray), GoodM M out → GoodM M (rowG C M sets l out).1 := by
 intro l
 induction l with
 | nil => intro out h; exact h
 | cons s l ih =>
  intro out h
  unfold rowG
  by_cases h6 : M < (C out (if s.f0 = true then [strOfNums [s.f1 % 256]] else rd_L6 sets s.f1)).length
  ·rw [if_pos h6]; exact ⟨Nat.zero_le _, fun x hx => nomatch hx⟩
  ·rw [if_neg h6]; exact ih _ ⟨Nat.not_lt.1 h6, hC _ _⟩
theorem setT_idem (l : List ByteArray) : setT (setT l) = setT l := setT_congr fun x => mem_setT
theorem setT_inj {a b : List ByteArray} (ha : setT a = a) (hb : setT b = b) (hs : ∀ x ∈ a, x ∈ b) (hl : b.length ≤ a.length) : a = b := by
 have hra : Rises (keysOf a) := by rw [← ha, keys_setT]; exact (tset_rises _).1
 have hrb : Rises (keysOf b) := by rw [← hb, keys_setT]; exact (tset_rises _).1
 have hk : keysOf a = keysOf b := by
  refine rises_eq hra hrb fun x => ⟨fun hx => ?_, fun hx => ?_⟩
  ·obtain ⟨y, hy, rfl⟩ := List.mem_map.1 hx
   exact mem_keys.2 (hs y hy)
  ·refine Classical.byContradiction fun hn => ?_
   have h : (x :: keysOf a).length ≤ (keysOf b).length := short_of_subset _ _ (List.pairwise_cons.2 ⟨fun y hy e => hn (e ▸ hy), hra.imp fun h => (txt_lt_iff _ _).1 h |>.2⟩) (fun y hy => by
    rcases List.mem_cons.1 hy with e | h
    ·exact e ▸ hx
    ·obtain ⟨z, hz, rfl⟩ := List.mem_map.1 h
     exact mem_keys.2 (hs z hz))
   rw [List.length_cons, keys_length, keys_length] at h
   omega
 rw [← txts_keys a, hk, txts_keys]
def total (sets : Sets) : Nat := (sets.map List.length).sum
theorem total_le {M : Nat} : ∀ {sets : Sets}, GoodSM M sets → total sets ≤ M * sets.length := by
 intro sets
 induction sets with
 | nil => intro _; exact Nat.le_refl _
 | cons a sets ih =>
  intro h
  have h1 := (h a List.mem_cons_self).1.1
  have h2 := ih fun x hx => h x (List.mem_cons_of_mem _ hx)
  unfold total at h2 ⊢
  rw [List.map_cons, List.sum_cons, List.length_cons, Nat.mul_succ]
  omega
theorem total_set : ∀ (sets : Sets) (i : Nat) (h : i < sets.length) (j : List ByteArray), total (sets.set i j) + (sets[i]).length = total sets + j.length := by
 intro sets
 induction sets with
 | nil => intro i h; simp at h
 | cons a sets ih =>
  intro i h j
  cases i with
  | zero =>
   unfold total
   simp only [List.set_cons_zero, List.map_cons, List.sum_cons, List.getElem_cons_zero]
   omega
  | succ i =>
   have := ih i (by simpa using h) j
   unfold total at this ⊢
   simp only [List.set_cons_succ, List.map_cons, List.sum_cons, List.getElem_cons_succ]
   omega
theorem rd_at {sets : Sets} {i : Int} (h : 0 ≤ i ∧ i < sets.length) : rd_L6 sets i = sets[i.toNat]'(by omega) := by
 unfold rd_L6
 rw [List.getD_eq_getElem?_getD, List.getElem?_eq_getElem (by omega)]
 rfl
theorem goodS_set {M : Nat} {sets : Sets} (hS : GoodSM M sets) (i : Nat) {j : List ByteArray} (hj : GoodM M j) (hf : setT j = j) : GoodSM M (sets.set i j) := by
 intro a ha
 rcases List.mem_or_eq_of_mem_set ha with h | h
 ·exact hS a h
 ·exact h ▸ ⟨hj, hf⟩
theorem prod_bad {toks : Int} {n : Nat} {p : Prod'} (h : prodBad toks n p = false) : (0 ≤ p.f0 ∧ p.f0 < n) ∧ p.f1.any (symBad toks n) = false := by
 unfold prodBad at h
 rw [Bool.or_eq_false_iff] at h
 exact ⟨by simpa using h.1, h.2⟩
theorem join_good {M : Nat} {sets : Sets} {i : Int} (hS : GoodSM M sets) (h : 0 ≤ i ∧ i < sets.length) {x : List ByteArray} (hx : GoodM M x) (hl : (setP (rd_L6 sets i ++ x)).length ≤ M) : GoodM M (setP (rd_L6 sets i ++ x)) ∧ setT (setP (rd_L6 sets i ++ x)) = setP (rd_L6 sets i ++ x) := by
 refine ⟨⟨hl, fun y hy => ?_⟩, by rw [setP_eq, setT_idem]⟩
 rw [setP_eq, mem_setT, List.mem_append] at hy
 rcases hy with hy | hy
 ·exact (hS _ (rd_sets h)).1.2 y hy
 ·exact hx.2 y hy
theorem join_grows {M : Nat} {sets : Sets} {i : Int} (hS : GoodSM M sets) (h : 0 ≤ i ∧ i < sets.length) (x : List ByteArray) : (rd_L6 sets i).length ≤ (setP (rd_L6 sets i ++ x)).length ∧ ((setP (rd_L6 sets i ++ x)).length ≤ (rd_L6 sets i).length → rd_L6 sets i = setP (rd_L6 sets i ++ x)) := by
 have hf := (hS _ (rd_sets h)).2
 have hsub : ∀ y ∈ rd_L6 sets i, y ∈ setP (rd_L6 sets i ++ x) := fun y hy => by
  rw [setP_eq, mem_setT]; exact List.mem_append_left _ hy
 refine ⟨?_, fun hl => setT_inj hf (by rw [setP_eq, setT_idem]) hsub hl⟩
 have hr : Rises (keysOf (rd_L6 sets i)) := by rw [← hf, keys_setT]; exact (tset_rises _).1
 have hh := rises_short hr (b := keysOf (setP (rd_L6 sets i ++ x))) fun y hy => by
  obtain ⟨z, hz, rfl⟩ := List.mem_map.1 hy
  exact mem_keys.2 (hsub z hz)
 rwa [keys_length, keys_length] at hh
theorem roundG_spec {C : CatF} {M : Nat} (hC : ∀ a b, ∀ x ∈ C a b, x.size ≤ 4) (hM : 1 ≤ M) {toks : Int} {n : Nat} : ∀ (ps : List Prod') (sets : Sets) (more : Bool), GoodSM M sets → sets.length = n → ps.any (prodBad toks n) = false →
  GoodSM M (roundG C M ps sets more).1 ∧ (roundG C M ps sets more).1.length = n ∧ total sets ≤ total (roundG C M ps sets more).1 ∧ (more = false → (roundG C M ps sets more).2.1 = true → total sets < total (roundG C M ps sets more).1) := by
 intro ps
 induction ps with
 | nil => intro sets more hS hn _; exact ⟨hS, hn, Nat.le_refl _, fun h1 h2 => by rw [show (roundG C M [] sets more).2.1 = more from rfl, h1] at h2; cases h2⟩
 | cons p ps ih =>
  intro sets more hS hn hb
  rw [List.any_cons, Bool.or_eq_false_iff] at hb
  obtain ⟨hp, hr⟩ := prod_bad hb.1
  rw [← hn] at hp
  unfold roundG
  have hx := rowG_good hC sets p.f1 _ (empty_good hM)
  generalize (rowG C M sets p.f1 [(⟨#[]⟩ : ByteArray)]) = x at hx ⊢
  by_cases h1 : x.2 = false
  ·rw [if_pos h1]; exact ⟨hS, hn, Nat.le_refl _, fun _ h2 => by cases h2⟩
  rw [if_neg h1]
  by_cases h2 : M < (setP (rd_L6 sets p.f0 ++ x.1)).length
  ·rw [if_pos h2]; exact ⟨hS, hn, Nat.le_refl _, fun _ h2 => by cases h2⟩
  rw [if_neg h2]
  obtain ⟨hj, hf⟩ := join_good hS hp hx (Nat.not_lt.1 h2)
  obtain ⟨hg, -⟩ := join_grows hS hp x.1
  have ht := total_set sets p.f0.toNat (by omega) (setP (rd_L6 sets p.f0 ++ x.1))
  rw [← rd_at hp] at ht
  obtain ⟨i1, i2, i3, i4⟩ := ih (sets.set p.f0.toNat (setP (rd_L6 sets p.f0 ++ x.1))) (more || decide ((rd_L6 sets p.f0).length < (setP (rd_L6 sets p.f0 ++ x.1)).length)) (goodS_set hS _ hj hf) (by rw [List.length_set]; exact hn) hb.2
  refine ⟨i1, i2, by omega, fun hm hm2 => ?_⟩
  by_cases h3 : (rd_L6 sets p.f0).length < (setP (rd_L6 sets p.f0 ++ x.1)).length
  ·omega
  ·have := i4 (by rw [hm, decide_eq_false h3]; rfl) hm2
   omega
set_option linter.unusedSectionVars false
section
variable {C : CatF} {M : Nat} (hC : ∀ a b, ∀ x ∈ C a b, x.size ≤ 4) (hM : 1 ≤ M) (cat : Nat → List ByteArray → List ByteArray → Option (List ByteArray)) (hcat : ∀ a b, GoodM M a → GoodM M b → Ev (fun k => cat k a b) (C a b)) (hM2 : M ≤ 1000000) (toks : Int) (of : List Int)
include hC hM hcat hM2
theorem row_ev {sets : Sets} (hS : GoodSM M sets) : ∀ (l : List Sym) (out : List ByteArray), GoodM M out → l.any (symBad toks sets.length) = false →
  Ev (fun k => first_Of.row (cat k) sets (M : Int) l out) (rowG C M sets l out) := by
 intro l
 induction l with
 | nil => intro out _ _; exact Ev.now _
 | cons s l ih =>
  intro out ho hb
  rw [List.any_cons, Bool.or_eq_false_iff] at hb
  obtain ⟨hg, hn⟩ := sym_good hM hS hb.1
  have hc := hcat _ _ ho hg
  unfold rowG
  refine Ev.congr (fun k => by rw [first_Of.row]) (Ev.bind0 (a := if s.f0 = true then [strOfNums [s.f1 % 256]] else rd_L6 sets s.f1) ?_ (Ev.bind hc ?_))
  ·cases h : s.f0
   ·rw [if_neg Bool.false_ne_true, if_neg Bool.false_ne_true, if_pos (hn h)]
   ·rw [if_pos rfl, if_pos rfl]; rfl
  ·by_cases h : M < (C out (if s.f0 = true then [strOfNums [s.f1 % 256]] else rd_L6 sets s.f1)).length
   ·rw [if_pos h]; exact Ev.ite_pos (by omega) (Ev.now _)
   ·rw [if_neg h]; exact Ev.ite_neg (by omega) (ih _ ⟨by omega, hC _ _⟩ hb.2)
theorem round_ev : ∀ (ps : List Prod') (sets : Sets) (more : Bool), GoodSM M sets → sets.length = of.length → ps.any (prodBad toks of.length) = false → (∀ p ∈ ps, p.f1.length ≤ 1000000) →
  Ev (fun k => first_Of.round (cat k) (M : Int) ps sets more) (roundG C M ps sets more) := by
 intro ps
 induction ps with
 | nil => intro sets more _ _ _ _; exact Ev.now _
 | cons p ps ih =>
  intro sets more hS hn hb hl
  rw [List.any_cons, Bool.or_eq_false_iff] at hb
  obtain ⟨hp, hr⟩ := prod_bad hb.1
  rw [← hn] at hp hr
  unfold roundG
  have hx := rowG_good hC sets p.f1 _ (empty_good hM)
  have hrow := row_ev hC hM cat hcat hM2 toks hS p.f1 _ (empty_good hM) hr
  generalize (rowG C M sets p.f1 [(⟨#[]⟩ : ByteArray)]) = x at hx hrow ⊢
  refine Ev.congr (fun k => by rw [first_Of.round]) (Ev.ite_pos (hl p List.mem_cons_self) (Ev.bind hrow ?_))
  by_cases h1 : x.2 = false
  ·rw [if_pos h1]; exact Ev.ite_pos h1 (Ev.now _)
  rw [if_neg h1]
  have hm := (hS _ (rd_sets hp)).1.1
  refine Ev.ite_neg h1 (Ev.ite_pos hp (Ev.bind0 (join_some _ _ (by omega) (by have := hx.1; omega)) ?_))
  rw [← setP_eq]
  by_cases h2 : M < (setP (rd_L6 sets p.f0 ++ x.1)).length
  ·rw [if_pos h2]; exact Ev.ite_pos (by omega) (Ev.now _)
  rw [if_neg h2]
  obtain ⟨hj, hf⟩ := join_good hS hp hx (Nat.not_lt.1 h2)
  have hi := ih (sets.set p.f0.toNat (setP (rd_L6 sets p.f0 ++ x.1))) (more || decide ((rd_L6 sets p.f0).length < (setP (rd_L6 sets p.f0 ++ x.1)).length)) (goodS_set hS _ hj hf) (by rw [List.length_set]; exact hn) hb.2 (fun q hq => hl q (List.mem_cons_of_mem _ hq))
  refine Ev.ite_neg (by omega) ?_
  rw [show decide ((((setP (rd_L6 sets p.f0 ++ x.1)).length : Nat) : Int) > ((rd_L6 sets p.f0).length : Int)) = decide ((rd_L6 sets p.f0).length < (setP (rd_L6 sets p.f0 ++ x.1)).length) from decide_eq_decide.2 (by omega)]
  exact hi
theorem loop_ev (L : List Prod') (hb : L.any (prodBad toks of.length) = false) (hl : ∀ p ∈ L, p.f1.length ≤ 1000000) : ∀ (m : Nat) (sets : Sets), GoodSM M sets → sets.length = of.length → M * of.length - total sets < m →
  (∃ N, ∀ k, N ≤ k → ∀ q, N ≤ q → first_Of.loop (cat k) (M : Int) L q sets = some (loopG C M L m sets)) ∧
  ∀ s, loopG C M L m sets = some s → GoodSM M s ∧ s.length = of.length := by
 intro m
 induction m with
 | zero => intro sets _ _ h; omega
 | succ m ih =>
  intro sets hS hn hm
  obtain ⟨g1, g2, g3, g4⟩ := roundG_spec hC hM L sets false hS hn hb
  obtain ⟨N, hN⟩ := round_ev hC hM cat hcat hM2 toks of L sets false hS hn hb hl
  replace hN : ∀ k, N ≤ k → first_Of.round (cat k) (M : Int) L sets false = some (roundG C M L sets false) := hN
  unfold loopG
  generalize roundG C M L sets false = x at g1 g2 g3 g4 hN ⊢
  by_cases h1 : x.2.2 = false
  ·rw [if_pos h1]
   refine ⟨⟨N + 1, fun k hk q hq => ?_⟩, fun s h => by cases h⟩
   obtain ⟨q, rfl⟩ : ∃ q', q = q' + 1 := ⟨q - 1, by omega⟩
   rw [first_Of.loop, hN k (by omega), Option.bind_some, if_pos h1]
  rw [if_neg h1]
  by_cases h2 : x.2.1 = false
  ·rw [if_pos h2]
   refine ⟨⟨N + 1, fun k hk q hq => ?_⟩, fun s h => by cases h; exact ⟨g1, g2⟩⟩
   obtain ⟨q, rfl⟩ : ∃ q', q = q' + 1 := ⟨q - 1, by omega⟩
   rw [first_Of.loop, hN k (by omega), Option.bind_some, if_neg h1, if_pos h2]
  rw [if_neg h2]
  have g5 := g4 rfl (by simpa using h2)
  have g6 := total_le g1
  rw [g2] at g6
  obtain ⟨⟨M', hM'⟩, i3⟩ := ih x.1 g1 g2 (by omega)
  refine ⟨⟨N + M' + 1, fun k hk q hq => ?_⟩, i3⟩
  obtain ⟨q, rfl⟩ : ∃ q', q = q' + 1 := ⟨q - 1, by omega⟩
  rw [first_Of.loop, hN k (by omega), Option.bind_some, if_neg h1, if_neg h2]
  exact hM' k (by omega) q (by omega)
end
theorem mayE_zero {toks look : Int} {n : Nat} {L : List Prod'} (h : mayE toks look n L = 0) : (1 ≤ n ∧ n ≤ 500) ∧ (1 ≤ L.length ∧ L.length ≤ 2000) ∧ (1 ≤ look ∧ look ≤ 4) ∧ L.any (prodBad toks n) = false := by
 unfold mayE at h
 by_cases h1 : toks < 1 ∨ 60 < toks ∨ n < 1 ∨ 500 < n ∨ L.length < 1 ∨ 2000 < L.length ∨ (L.any fun p => decide (500 < p.f1.length)) = true
 ·rw [if_pos h1] at h; cases h
 rw [if_neg h1] at h
 by_cases h2 : look < 1 ∨ 4 < look
 ·rw [if_pos h2] at h; cases h
 rw [if_neg h2] at h
 by_cases h3 : L.any (prodBad toks n) = true
 ·rw [if_pos h3] at h; cases h
 exact ⟨by omega, by omega, by omega, by simpa using h3⟩
def cutP (m : Nat) (p : Prod') : Prod' := ⟨p.f0, p.f1.take m⟩
theorem gfew_l0 (t l : Int) (of : List Int) : ∀ (L : List Prod') (hL : L.length ≤ 1000000000) (d i : Nat), i + d = L.length →
  Ev (fun k => gramaryelaw14_few.l0 k i t l of L) (t, l, of, L.take i ++ (L.drop i).map (cutP 4)) := by
 intro L hL d
 induction d generalizing L with
 | zero =>
  intro i hi
  rw [List.drop_of_length_le (by omega), List.take_of_length_le (by omega), List.map_nil, List.append_nil]
  exact Ev.step (fun k => by rw [gramaryelaw14_few.l0, if_neg (by omega)]) (Ev.now _)
 | succ d ih =>
  intro i hi
  have hlt : i < L.length := by omega
  have hw : wrap64 ((i : Int) + 1) = ((i + 1 : Nat) : Int) := by rw [wrap_id (by omega)]; rfl
  have hm : 0 ≤ mn (L[i].f1.length : Int) 4 ∧ mn (L[i].f1.length : Int) 4 ≤ L[i].f1.length ∧ L[i].f1.take (mn (L[i].f1.length : Int) 4).toNat = L[i].f1.take 4 := by
   unfold mn
   split
   ·exact ⟨by clear hw; omega, by clear hw; omega, rfl⟩
   ·refine ⟨by clear hw; omega, by clear hw; omega, ?_⟩
    rw [Int.toNat_natCast, List.take_length, List.take_of_length_le (by clear hw; omega)]
  have h := ih (L.set i (cutP 4 L[i])) (by rw [List.length_set]; exact hL) (i + 1) (by rw [List.length_set]; clear hw; omega)
  have e : (L.set i (cutP 4 L[i])).take (i + 1) ++ ((L.set i (cutP 4 L[i])).drop (i + 1)).map (cutP 4) = L.take i ++ (L.drop i).map (cutP 4) := by
   rw [List.drop_set_of_lt (by omega), List.take_succ_eq_append_getElem (by rw [List.length_set]; exact hlt), List.getElem_set_self, List.take_set_of_le (Nat.le_refl _), List.append_assoc, List.drop_eq_getElem_cons hlt]
   rfl
  rw [e] at h
  refine Ev.step (fun k => by rw [gramaryelaw14_few.l0, if_pos (by clear hw; omega), if_pos (by clear hw; omega), rdP hlt, if_pos hm.1, if_pos hm.2.1, hm.2.2, hw]; rfl) h
theorem Few_l0 (t l t' l' : Int) (of of' : List Int) (L : List Prod') (m : Nat) (hm : m ≤ 1000) : ∀ (d i : Nat), m - i = d → i ≤ m →
  Ev (fun k => gramaryeref09_Few.l0 k m i t l of L t' l' of' ((L.take i).map (cutP 8))) (t', l', of', (L.take m).map (cutP 8)) := by
 intro d
 induction d with
 | zero =>
  intro i hi hi2
  rw [show i = m by omega]
  by_cases hlt : m < L.length
  ·exact Ev.step (fun k => by rw [gramaryeref09_Few.l0, if_pos (by omega), if_neg (by omega)]) (Ev.now _)
  ·exact Ev.step (fun k => by rw [gramaryeref09_Few.l0, if_neg (by omega)]) (Ev.now _)
 | succ d ih =>
  intro i hi hi2
  by_cases hlt : i < L.length
  ·have hw : wrap64 ((i : Int) + 1) = ((i + 1 : Nat) : Int) := by rw [wrap_id (by omega)]; rfl
   have hm : 0 ≤ mn (L[i].f1.length : Int) 8 ∧ mn (L[i].f1.length : Int) 8 ≤ L[i].f1.length ∧ L[i].f1.take (mn (L[i].f1.length : Int) 8).toNat = L[i].f1.take 8 := by
    unfold mn
    split
    ·exact ⟨by clear hw; omega, by clear hw; omega, rfl⟩
    ·refine ⟨by clear hw; omega, by clear hw; omega, ?_⟩
     rw [Int.toNat_natCast, List.take_length, List.take_of_length_le (by clear hw; omega)]
   have h := ih (i + 1) (by clear hw; omega) (by clear hw; omega)
   rw [List.take_succ_eq_append_getElem hlt, List.map_append] at h
   refine Ev.step (fun k => by rw [gramaryeref09_Few.l0, if_pos (by clear hw; omega), if_pos (by clear hw; omega), if_pos (by clear hw; omega), rdP hlt, Option.bind_some, if_pos hm.1, if_pos hm.2.1, hm.2.2, Option.bind_some, if_pos (by simp; clear hw; omega), if_pos (by simp; clear hw; omega), hw]; rfl) h
  ·rw [List.take_of_length_le (by omega), List.take_of_length_le (by omega)]
   exact Ev.step (fun k => by rw [gramaryeref09_Few.l0, if_neg (by omega)]) (Ev.now _)
def fewL (L : List Prod') : List Prod' := (L.take 14).map (cutP 4)
theorem take_mn {α : Type} (l : List α) (n : Nat) : (0 ≤ mn (l.length : Int) n ∧ mn (l.length : Int) n ≤ l.length) ∧ l.take (mn (l.length : Int) n).toNat = l.take n := by
 unfold mn
 split
 ·exact ⟨⟨by omega, by omega⟩, rfl⟩
 ·refine ⟨⟨by omega, by omega⟩, ?_⟩
  rw [Int.toNat_natCast, List.take_length, List.take_of_length_le (by omega)]
theorem gfew_ev (t l : Int) (of : List Int) (L : List Prod') : Ev (fun k => gramaryelaw14_few.f k t l of L) (t, l, of.take 8, fewL L) := by
 have h1 := Few_l0 t l t l of (of.take 8) L 14 (by omega) 14 0 rfl (by omega)
 have h2 := gfew_l0 t l (of.take 8) ((L.take 14).map (cutP 8)) (by simp; omega) _ 0 (Nat.zero_add _)
 rw [List.take_zero, List.drop_zero, List.nil_append, List.map_map] at h2
 rw [show cutP 4 ∘ cutP 8 = cutP 4 from funext fun p => by unfold cutP; simp [List.take_take]] at h2
 obtain ⟨hm, he⟩ := take_mn of 8
 unfold gramaryelaw14_few.f gramaryeref09_Few.f gramaryebase_Ints.f
 refine Ev.bind (Ev.ite_pos hm.1 (Ev.ite_pos hm.2 (Ev.bind0 (a := of.take 8) ?_ h1))) h2
 erw [he]
 rw [Option.bind_some, if_pos (by simp; omega)]
 rfl
theorem fewL_le (L : List Prod') : (fewL L).length ≤ 14 ∧ ∀ p ∈ fewL L, p.f1.length ≤ 4 := by
 unfold fewL
 refine ⟨by simp; omega, fun p hp => ?_⟩
 obtain ⟨q, -, rfl⟩ := List.mem_map.1 hp
 unfold cutP
 simp; omega
def catA (K : Nat) (a b : List ByteArray) : List ByteArray := setP (a.flatMap fun x => b.map (tc K x))
theorem tc_le (K : Nat) (x y : ByteArray) : (tc K x y).size ≤ K := by
 rw [← size_list]
 unfold tc
 simp only [List.toList_toArray, List.length_take]
 omega
theorem mem_catA {K : Nat} {a b : List ByteArray} {z : ByteArray} : z ∈ catA K a b ↔ ∃ x ∈ a, ∃ y ∈ b, tc K x y = z := by
 unfold catA
 rw [setP_eq, mem_setT, List.mem_flatMap]
 constructor
 ·rintro ⟨x, hx, h⟩
  obtain ⟨y, hy, h⟩ := List.mem_map.1 h
  exact ⟨x, hx, y, hy, h⟩
 ·rintro ⟨x, hx, y, hy, h⟩
  exact ⟨x, hx, List.mem_map.2 ⟨y, hy, h⟩⟩
theorem catA_size {K : Nat} (hK : K ≤ 4) (a b : List ByteArray) : ∀ x ∈ catA K a b, x.size ≤ 4 := by
 intro x hx
 obtain ⟨y, hy, z, hz, rfl⟩ := mem_catA.1 hx
 exact Nat.le_trans (tc_le _ _ _) hK
theorem K_le {look : Int} (hlook : 1 ≤ look ∧ look ≤ 4) : (mx look 0).toNat ≤ 4 := by unfold mx; split <;> omega
theorem pcat_ev {look : Int} (hlook : 1 ≤ look ∧ look ≤ 4) (a b : List ByteArray) (ha : GoodM 600 a) (hb : GoodM 600 b) : Ev (fun k => pack_Cat.f k a b look) (catA (mx look 0).toNat a b) := by
 have h := cat_ev b look (by omega) (by have := hb.1; omega) (fun y hy => by have := hb.2 y hy; omega) a (by have := ha.1; omega) (fun x hx => by have := ha.2 x hx; omega)
 unfold catA
 rw [setP_eq, setT_congr (b := a.flatMap (rowOf (mx look 0).toNat b)) fun z => ?_]
 ·exact h
 ·rw [← mem_keys (l := a.flatMap (rowOf _ b)), mem_row]
  simp only [List.mem_flatMap, List.mem_map]
  constructor
  ·rintro ⟨x, hx, y, hy, rfl⟩; exact ⟨x, hx, y, hy, rfl⟩
  ·rintro ⟨x, hx, y, hy, h⟩; exact ⟨x, hx, y, hy, (ext_list h).symm⟩
def ofA (toks look : Int) (n : Nat) (L : List Prod') : Sets × Int :=
 if mayE toks look n L = 0 then (match loopG (catA (mx look 0).toNat) 600 L (600 * n + 1) (List.replicate n []) with | none => ([], 15) | some s => (s, 0)) else ([], mayE toks look n L)
theorem empties_good (M n : Nat) : GoodSM M (List.replicate n []) := by
 intro a ha
 rw [(List.mem_replicate.1 ha).2]
 exact ⟨⟨Nat.zero_le _, fun x hx => nomatch hx⟩, setT_nil⟩
theorem of_loop (toks : Int) {look : Int} (h3 : 1 ≤ look ∧ look ≤ 4) (of : List Int) (L : List Prod') (h4 : L.any (prodBad toks of.length) = false) (hl : ∀ p ∈ L, p.f1.length ≤ 1000000) :
  (∃ N, ∀ k, N ≤ k → ∀ q, N ≤ q → first_Of.loop (fun a b => pack_Cat.f k a b look) 600 L q (List.replicate of.length []) = some (loopG (catA (mx look 0).toNat) 600 L (600 * of.length + 1) (List.replicate of.length []))) ∧
  ∀ s, loopG (catA (mx look 0).toNat) 600 L (600 * of.length + 1) (List.replicate of.length []) = some s → GoodSM 600 s ∧ s.length = of.length :=
 loop_ev (C := catA (mx look 0).toNat) (M := 600) (catA_size (K_le h3)) (by omega) (fun k a b => pack_Cat.f k a b look) (fun a b => pcat_ev h3 a b) (by omega) toks of L h4 hl (600 * of.length + 1) (List.replicate of.length []) (empties_good _ _) (List.length_replicate ..) (by omega)
theorem of_ev (toks look : Int) (of : List Int) (L : List Prod') (hl : ∀ p ∈ L, p.f1.length ≤ 1000000) (hL : L.length ≤ 1000000) : Ev (fun k => first_Of.f k toks look of L) (ofA toks look of.length L) := by
 unfold first_Of.f first_Of.grow ofA
 refine Ev.bind (may_ev toks look of L (by omega) (fun p hp => by have := hl p hp; omega)) ?_
 by_cases h0 : mayE toks look of.length L = 0
 ·obtain ⟨h1, h2, h3, h4⟩ := mayE_zero h0
  rw [if_pos h0]
  obtain ⟨⟨N, hN⟩, -⟩ := of_loop toks h3 of L h4 hl
  refine Ev.ite_pos h0 (Ev.ite_pos ⟨by omega, by omega, by omega⟩ (Ev.bind (a := loopG (catA (mx look 0).toNat) 600 L (600 * of.length + 1) (List.replicate of.length [])) ⟨N, fun k hk => hN k hk k hk⟩ ?_))
  cases loopG (catA (mx look 0).toNat) 600 L (600 * of.length + 1) (List.replicate of.length []) with
  | none => exact Ev.now _
  | some s => exact Ev.now _
 ·rw [if_neg h0]
  exact Ev.ite_neg h0 (Ev.now _)
def sampleL : List Prod' := [⟨0, [⟨true, 1⟩, ⟨false, 0⟩]⟩, ⟨0, [⟨true, 2⟩]⟩]
theorem sample_of : ofA 2 2 1 sampleL = ([[⟨#[1, 1]⟩, ⟨#[1, 2]⟩, ⟨#[2]⟩]], 0) := by kernel_rfl
theorem first_works : Ev (fun k => gramaryelaw14_works.f k) true := by
 unfold gramaryelaw14_works.f gramaryelaw14_sample.f
 refine Ev.bind0 rfl ?_
 have h := of_ev 2 2 [-1] sampleL (fun p hp => by
  unfold sampleL at hp
  rcases List.mem_cons.1 hp with rfl | hp
  ·simp
  ·rw [List.mem_singleton.1 hp]; simp) (by unfold sampleL; simp)
 rw [show ([-1] : List Int).length = 1 from rfl, sample_of] at h
 refine Ev.bind h (Ev.ite_pos rfl (Ev.ite_pos rfl (Ev.ite_pos (by decide) ?_)))
 have hs := same_dec [⟨#[1, 1]⟩, ⟨#[1, 2]⟩, ⟨#[2]⟩] [⟨#[1, 1]⟩, ⟨#[1, 2]⟩, ⟨#[2]⟩] (by simp)
 rw [decide_eq_true rfl] at hs
 exact Ev.bind hs (Ev.now _)
def wadd (kk : Int) (x : ByteArray) (b : List ByteArray) : List ByteArray := (b.filter fun y => decide (((x.size + y.size : Nat) : Int) ≤ kk)).map fun y => x ++ y
def catW (kk : Int) (a b : List ByteArray) : List ByteArray := setT (a.flatMap fun x => wadd kk x b)
theorem wadd_len (kk : Int) (x : ByteArray) (b : List ByteArray) : (wadd kk x b).length ≤ b.length := by
 unfold wadd
 rw [List.length_map]
 exact List.length_filter_le _ _
theorem mem_wadd {kk : Int} {x z : ByteArray} {b : List ByteArray} : z ∈ wadd kk x b ↔ ∃ y ∈ b, ((x.size + y.size : Nat) : Int) ≤ kk ∧ x ++ y = z := by
 unfold wadd
 simp only [List.mem_map, List.mem_filter, decide_eq_true_eq]
 constructor
 ·rintro ⟨y, ⟨h1, h2⟩, h3⟩; exact ⟨y, h1, h2, h3⟩
 ·rintro ⟨y, h1, h2, h3⟩; exact ⟨y, ⟨h1, h2⟩, h3⟩
theorem mem_catW {kk : Int} {a b : List ByteArray} {z : ByteArray} : z ∈ catW kk a b ↔ ∃ x ∈ a, ∃ y ∈ b, ((x.size + y.size : Nat) : Int) ≤ kk ∧ x ++ y = z := by
 unfold catW
 rw [mem_setT, List.mem_flatMap]
 constructor
 ·rintro ⟨x, hx, h⟩; exact ⟨x, hx, mem_wadd.1 h⟩
 ·rintro ⟨x, hx, h⟩; exact ⟨x, hx, mem_wadd.2 h⟩
theorem catW_size {kk : Int} (hk : kk ≤ 4) (a b : List ByteArray) : ∀ x ∈ catW kk a b, x.size ≤ 4 := by
 intro z hz
 obtain ⟨x, hx, y, hy, h, rfl⟩ := mem_catW.1 hz
 rw [ByteArray.size_append]
 omega
theorem wadd_cons (kk : Int) (x y : ByteArray) (b : List ByteArray) : wadd kk x (y :: b) = (if ((x.size + y.size : Nat) : Int) ≤ kk then [x ++ y] else []) ++ wadd kk x b := by
 unfold wadd
 rw [List.filter_cons]
 by_cases h : ((x.size + y.size : Nat) : Int) ≤ kk
 ·rw [if_pos h, if_pos (by simpa using h)]; rfl
 ·rw [if_neg h, if_neg (by simpa using h)]; rfl
theorem win_l1 (a b : List ByteArray) (hb : b.length ≤ 10000) (hbs : ∀ y ∈ b, y.size ≤ 4) (x : ByteArray) (hx : x.size ≤ 4) (kk n p : Int) (r : List ByteArray × Int) : ∀ (d i : Nat) (acc : List ByteArray), i + d = b.length → acc.length + d ≤ 1000000000 →
  Ev (fun k => first_within_1.l0 k b (acc ++ wadd kk x (b.drop i)) a n (wrap64 (p + 1)) kk) r → Ev (fun k => first_within_1.l1 k b acc x a n p b b.length i kk) r := by
 intro d
 induction d with
 | zero =>
  intro i acc hi _ h
  rw [List.drop_of_length_le (by omega), show wadd kk x [] = [] from rfl, List.append_nil] at h
  exact Ev.step (fun k => by rw [first_within_1.l1, if_neg (by omega)]) h
 | succ d ih =>
  intro i acc hi hl h
  have hlt : i < b.length := by omega
  have hy := hbs _ (List.getElem_mem hlt)
  have hw : wrap64 ((i : Int) + 1) = ((i + 1 : Nat) : Int) := by rw [wrap_id (by omega)]; rfl
  have hw2 : wrap64 ((x.size : Int) + (b[i].size : Int)) = ((x.size + b[i].size : Nat) : Int) := by rw [wrap_id (by omega)]; rfl
  rw [List.drop_eq_getElem_cons hlt, wadd_cons] at h
  refine Ev.step (fun k => by rw [first_within_1.l1, if_pos (by clear hw hw2; omega), if_pos (by clear hw hw2; omega), if_pos (by clear hw hw2; omega), rd_nat hlt, hw, hw2]) ?_
  by_cases hc : ((x.size + b[i].size : Nat) : Int) ≤ kk
  ·rw [if_pos hc, ← List.append_assoc] at h
   exact Ev.ite_pos hc (Ev.ite_pos (by clear hw hw2; omega) (Ev.ite_pos (by clear hw hw2; omega) (ih (i + 1) _ (by clear hw hw2; omega) (by rw [List.length_append]; simp; clear hw hw2; omega) h)))
  ·rw [if_neg hc, List.nil_append] at h
   exact Ev.ite_neg hc (ih (i + 1) _ (by clear hw hw2; omega) (by clear hw hw2; omega) h)
theorem win_l0 (a b : List ByteArray) (ha : a.length ≤ 10000) (has : ∀ y ∈ a, y.size ≤ 4) (hb : b.length ≤ 10000) (hbs : ∀ y ∈ b, y.size ≤ 4) (kk : Int) : ∀ (d p : Nat) (acc : List ByteArray), p + d = a.length → acc.length ≤ p * 10000 →
  Ev (fun k => first_within_1.l0 k b acc a a.length p kk) (setT (acc ++ (a.drop p).flatMap fun x => wadd kk x b), kk) := by
 intro d
 induction d with
 | zero =>
  intro p acc hp hl
  rw [List.drop_of_length_le (by omega), List.flatMap_nil, List.append_nil]
  refine Ev.step (fun k => by rw [first_within_1.l0, if_neg (by omega)]) (Ev.bind0 (a := setT acc) ?_ (Ev.now _))
  unfold pack_Make.f
  rw [set_some _ (by omega)]
  rfl
 | succ d ih =>
  intro p acc hp hl
  have hlt : p < a.length := by omega
  have hw : wrap64 ((p : Int) + 1) = ((p + 1 : Nat) : Int) := by rw [wrap_id (by omega)]; rfl
  rw [List.drop_eq_getElem_cons hlt, List.flatMap_cons, ← List.append_assoc]
  have hx := has _ (List.getElem_mem hlt)
  have hwl := wadd_len kk a[p] b
  have h := ih (p + 1) (acc ++ wadd kk a[p] b) (by clear hw; omega) (by rw [List.length_append]; clear hw; omega)
  refine Ev.step (fun k => by rw [first_within_1.l0, if_pos (by clear hw; omega), if_pos (by clear hw; omega), if_pos (by clear hw; omega), rd_nat hlt]) ?_
  refine win_l1 a b hb hbs a[p] hx kk _ _ _ b.length 0 acc (by clear hw; omega) (by clear hw; omega) ?_
  rw [List.drop_zero, hw]
  exact h
theorem wcat_ev {kk : Int} (a b : List ByteArray) (ha : GoodM 10000 a) (hb : GoodM 10000 b) : Ev (fun k => first_Words.cat k kk a b) (catW kk a b) := by
 have h := win_l0 a b ha.1 ha.2 hb.1 hb.2 kk a.length 0 [] (by omega) (by simp)
 rw [List.drop_zero, List.nil_append] at h
 exact Ev.bind h (Ev.now _)
def wordsA (toks look : Int) (n : Nat) (L : List Prod') (a1 a2 : Int) : List ByteArray × Int :=
 if mayE toks look n L = 0 then (if a1 < 0 then ([], 3) else if (n : Int) ≤ a1 then ([], 3) else match loopG (catW (mn (mx a2 0) 4)) 10000 L (10000 * n + 1) (List.replicate n []) with | none => ([], 15) | some s => (rd_L6 s a1, 0)) else ([], mayE toks look n L)
theorem kk_le (a2 : Int) : mn (mx a2 0) 4 ≤ 4 := by unfold mn; split <;> omega
theorem words_loop (toks : Int) (of : List Int) (L : List Prod') (a2 : Int) (h4 : L.any (prodBad toks of.length) = false) (hl : ∀ p ∈ L, p.f1.length ≤ 1000000) :
  (∃ N, ∀ k, N ≤ k → ∀ q, N ≤ q → first_Of.loop (first_Words.cat k (mn (mx a2 0) 4)) 10000 L q (List.replicate of.length []) = some (loopG (catW (mn (mx a2 0) 4)) 10000 L (10000 * of.length + 1) (List.replicate of.length []))) ∧
  ∀ s, loopG (catW (mn (mx a2 0) 4)) 10000 L (10000 * of.length + 1) (List.replicate of.length []) = some s → GoodSM 10000 s ∧ s.length = of.length :=
 loop_ev (C := catW (mn (mx a2 0) 4)) (M := 10000) (catW_size (kk_le a2)) (by omega) (fun k a b => first_Words.cat k (mn (mx a2 0) 4) a b) (fun a b => wcat_ev a b) (by omega) toks of L h4 hl (10000 * of.length + 1) (List.replicate of.length []) (empties_good _ _) (List.length_replicate ..) (by omega)
theorem words_ev (toks look : Int) (of : List Int) (L : List Prod') (a1 a2 : Int) (hl : ∀ p ∈ L, p.f1.length ≤ 1000000) (hL : L.length ≤ 1000000) : Ev (fun k => first_Words.f k toks look of L a1 a2) (wordsA toks look of.length L a1 a2) := by
 unfold first_Words.f first_Of.grow wordsA
 have hm := may_ev toks look of L (by omega) (fun p hp => by have := hl p hp; omega)
 refine Ev.bind hm ?_
 by_cases h0 : mayE toks look of.length L = 0
 ·obtain ⟨h1, h2, h3, h4⟩ := mayE_zero h0
  rw [if_pos h0]
  refine Ev.ite_pos h0 ?_
  by_cases c1 : a1 < 0
  ·rw [if_pos c1]; exact Ev.ite_pos c1 (Ev.now _)
  rw [if_neg c1]
  refine Ev.ite_neg c1 ?_
  by_cases c2 : (of.length : Int) ≤ a1
  ·rw [if_pos c2]; exact Ev.ite_pos c2 (Ev.now _)
  rw [if_neg c2]
  refine Ev.ite_neg c2 ?_
  obtain ⟨⟨N, hN⟩, hG⟩ := words_loop toks of L a2 h4 hl
  have hlp : Ev (fun k => first_Of.loop (first_Words.cat k (mn (mx a2 0) 4)) 10000 L k (List.replicate of.length [])) (loopG (catW (mn (mx a2 0) 4)) 10000 L (10000 * of.length + 1) (List.replicate of.length [])) := ⟨N, fun k hk => hN k hk k hk⟩
  generalize loopG (catW (mn (mx a2 0) 4)) 10000 L (10000 * of.length + 1) (List.replicate of.length []) = X at hlp hG ⊢
  cases X with
  | none => exact Ev.bind (Ev.bind hm (Ev.ite_pos h0 (Ev.ite_pos ⟨by omega, by omega, by omega⟩ (Ev.bind hlp (Ev.now _))))) (Ev.ite_neg (by simp) (Ev.now _))
  | some s => exact Ev.bind (Ev.bind hm (Ev.ite_pos h0 (Ev.ite_pos ⟨by omega, by omega, by omega⟩ (Ev.bind hlp (Ev.now _))))) (Ev.ite_pos rfl (Ev.ite_pos (by rw [(hG s rfl).2]; omega) (Ev.now _)))
 ·rw [if_neg h0]
  exact Ev.ite_neg h0 (Ev.now _)
def Sim (G : ByteArray → Prop) (g : ByteArray → ByteArray) (a b : List ByteArray) : Prop := ∀ x ∈ a, G x → g x ∈ b
theorem sim_nil (G : ByteArray → Prop) (g : ByteArray → ByteArray) (b : List ByteArray) : Sim G g [] b := fun x hx => nomatch hx
def symS (sets : Sets) (s : Sym) : List ByteArray := if s.f0 = true then [strOfNums [s.f1 % 256]] else rd_L6 sets s.f1
theorem row_sim {C C' : CatF} {M M' : Nat} {sets sets' : Sets} {G : ByteArray → Prop} {g : ByteArray → ByteArray} (hC : ∀ a a' x x', Sim G g a a' → Sim G g x x' → Sim G g (C a x) (C' a' x')) :
  ∀ (l : List Sym) (out out' : List ByteArray), (∀ s ∈ l, Sim G g (symS sets s) (symS sets' s)) → Sim G g out out' → (rowG C' M' sets' l out').2 = true → Sim G g (rowG C M sets l out).1 (rowG C' M' sets' l out').1 := by
 intro l
 induction l with
 | nil => intro out out' _ h _; exact h
 | cons s l ih =>
  intro out out' hs h h2
  have hx := hs s List.mem_cons_self
  unfold symS at hx
  unfold rowG at h2 ⊢
  have h3 := hC _ _ _ _ h hx
  generalize (C out (if s.f0 = true then [strOfNums [s.f1 % 256]] else rd_L6 sets s.f1)) = a at h3 ⊢
  generalize (C' out' (if s.f0 = true then [strOfNums [s.f1 % 256]] else rd_L6 sets' s.f1)) = b at h2 h3 ⊢
  by_cases c2 : M' < b.length
  ·rw [if_pos c2] at h2; cases h2
  rw [if_neg c2] at h2 ⊢
  by_cases c1 : M < a.length
  ·rw [if_pos c1]; exact sim_nil _ _ _
  rw [if_neg c1]
  exact ih _ _ (fun s hs' => hs s (List.mem_cons_of_mem _ hs')) h3 h2
theorem roundG_more {C : CatF} {M : Nat} : ∀ (ps : List Prod') (sets : Sets), (roundG C M ps sets true).2.2 = true → (roundG C M ps sets true).2.1 = true := by
 intro ps
 induction ps with
 | nil => intro sets _; rfl
 | cons p ps ih =>
  intro sets h
  unfold roundG at h ⊢
  generalize (rowG C M sets p.f1 [(⟨#[]⟩ : ByteArray)]) = x at h ⊢
  by_cases h1 : x.2 = false
  ·rw [if_pos h1] at h; cases h
  rw [if_neg h1] at h ⊢
  by_cases h2 : M < (setP (rd_L6 sets p.f0 ++ x.1)).length
  ·rw [if_pos h2] at h; cases h
  rw [if_neg h2] at h ⊢
  rw [Bool.true_or] at h ⊢
  exact ih _ h
def Fix (C : CatF) (M : Nat) (L : List Prod') (S : Sets) : Prop := ∀ p ∈ L, (rowG C M S p.f1 [(⟨#[]⟩ : ByteArray)]).2 = true ∧ ∀ x ∈ (rowG C M S p.f1 [(⟨#[]⟩ : ByteArray)]).1, x ∈ rd_L6 S p.f0
theorem roundG_fix {C : CatF} {M : Nat} {toks : Int} {n : Nat} : ∀ (ps : List Prod') (S : Sets), GoodSM M S → S.length = n → ps.any (prodBad toks n) = false → (roundG C M ps S false).2.2 = true → (roundG C M ps S false).2.1 = false → (roundG C M ps S false).1 = S ∧ Fix C M ps S := by
 intro ps
 induction ps with
 | nil => intro S _ _ _ _ _; exact ⟨rfl, fun p hp => nomatch hp⟩
 | cons p ps ih =>
  intro S hS hn hb h3 h4
  rw [List.any_cons, Bool.or_eq_false_iff] at hb
  obtain ⟨hp, -⟩ := prod_bad hb.1
  rw [← hn] at hp
  unfold roundG at h3 h4 ⊢
  have e : rowG C M S p.f1 [(⟨#[]⟩ : ByteArray)] = rowG C M S p.f1 [(⟨#[]⟩ : ByteArray)] := rfl
  generalize hx : (rowG C M S p.f1 [(⟨#[]⟩ : ByteArray)]) = x at h3 h4 ⊢
  by_cases h1 : x.2 = false
  ·rw [if_pos h1] at h3; cases h3
  rw [if_neg h1] at h3 h4 ⊢
  by_cases h2 : M < (setP (rd_L6 S p.f0 ++ x.1)).length
  ·rw [if_pos h2] at h3; cases h3
  rw [if_neg h2] at h3 h4 ⊢
  obtain ⟨-, hg⟩ := join_grows hS hp x.1
  by_cases c : (rd_L6 S p.f0).length < (setP (rd_L6 S p.f0 ++ x.1)).length
  ·rw [decide_eq_true c, Bool.or_true] at h3 h4
   rw [roundG_more _ _ h3] at h4; cases h4
  ·have he := hg (Nat.not_lt.1 c)
   have hse : S.set p.f0.toNat (setP (rd_L6 S p.f0 ++ x.1)) = S := by
    rw [← he, rd_at hp]
    exact List.set_getElem_self _
   rw [decide_eq_false c, Bool.or_false, hse] at h3 h4 ⊢
   obtain ⟨i1, i2⟩ := ih S hS hn hb.2 h3 h4
   refine ⟨i1, fun q hq => ?_⟩
   rcases List.mem_cons.1 hq with rfl | hq
   ·rw [hx]
    refine ⟨by simpa using h1, fun z hz => ?_⟩
    rw [he, setP_eq, mem_setT]
    exact List.mem_append_right _ hz
   ·exact i2 q hq
theorem loopG_fix {C : CatF} {M : Nat} (hC : ∀ a b, ∀ x ∈ C a b, x.size ≤ 4) (hM : 1 ≤ M) {toks : Int} {n : Nat} {L : List Prod'} (hb : L.any (prodBad toks n) = false) : ∀ (m : Nat) (S s : Sets), GoodSM M S → S.length = n → loopG C M L m S = some s → Fix C M L s ∧ GoodSM M s ∧ s.length = n := by
 intro m
 induction m with
 | zero => intro S s _ _ h; cases h
 | succ m ih =>
  intro S s hS hn h
  obtain ⟨g1, g2, -, -⟩ := roundG_spec hC hM L S false hS hn hb
  have hf := roundG_fix (C := C) L S hS hn hb
  unfold loopG at h
  generalize roundG C M L S false = x at h g1 g2 hf
  by_cases h1 : x.2.2 = false
  ·rw [if_pos h1] at h; cases h
  rw [if_neg h1] at h
  by_cases h2 : x.2.1 = false
  ·rw [if_pos h2] at h
   obtain ⟨e, hF⟩ := hf (by simpa using h1) h2
   obtain rfl := Option.some.inj h
   rw [e]
   exact ⟨hF, hS, hn⟩
  ·rw [if_neg h2] at h
   exact ih _ _ g1 g2 h
theorem rd_set {S : Sets} {p i : Int} (hp : 0 ≤ p ∧ p < S.length) (hi : 0 ≤ i ∧ i < S.length) (j : List ByteArray) : rd_L6 (S.set p.toNat j) i = if i = p then j else rd_L6 S i := by
 rw [rd_at (by rw [List.length_set]; exact hi), List.getElem_set]
 by_cases h : i = p
 ·rw [if_pos h, if_pos (by rw [h])]
 ·rw [if_neg h, if_neg (by omega), ← rd_at hi]
section
variable {C C' : CatF} {M M' : Nat} {G : ByteArray → Prop} {g : ByteArray → ByteArray} (hsim : ∀ a a' x x', Sim G g a a' → Sim G g x x' → Sim G g (C a x) (C' a' x')) (hE : Sim G g [(⟨#[]⟩ : ByteArray)] [(⟨#[]⟩ : ByteArray)]) (hT : ∀ n, Sim G g [strOfNums [n]] [strOfNums [n]])
 (hC : ∀ a b, ∀ x ∈ C a b, x.size ≤ 4) (hM : 1 ≤ M) {toks : Int} {n : Nat} {S' : Sets} (hn' : S'.length = n)
include hsim hE hT hC hM hn'
theorem roundG_sim : ∀ (ps : List Prod') (S : Sets) (more : Bool), GoodSM M S → S.length = n → ps.any (prodBad toks n) = false → Fix C' M' ps S' → (∀ i : Int, 0 ≤ i ∧ i < n → Sim G g (rd_L6 S i) (rd_L6 S' i)) →
  ∀ i : Int, 0 ≤ i ∧ i < n → Sim G g (rd_L6 (roundG C M ps S more).1 i) (rd_L6 S' i) := by
 intro ps
 induction ps with
 | nil => intro S more _ _ _ _ h; exact h
 | cons p ps ih =>
  intro S more hS hn hb hF h
  rw [List.any_cons, Bool.or_eq_false_iff] at hb
  obtain ⟨hp, hr⟩ := prod_bad hb.1
  have hp' := hp
  rw [← hn] at hp
  obtain ⟨f1, f2⟩ := hF p List.mem_cons_self
  have hrow := row_sim (M := M) (M' := M') (sets := S) (sets' := S') hsim p.f1 _ _ (fun s hs => by
   have hbs : symBad toks n s = false := by
    cases hh : symBad toks n s
    ·rfl
    ·rw [List.any_eq_true.2 ⟨s, hs, hh⟩] at hr; cases hr
   unfold symS
   unfold symBad at hbs
   cases h0 : s.f0
   ·rw [h0] at hbs
    exact h s.f1 (by simpa using hbs)
   ·exact hT _) hE f1
  have hx := rowG_good hC S p.f1 _ (empty_good hM)
  unfold roundG
  generalize rowG C M S p.f1 [(⟨#[]⟩ : ByteArray)] = x at hrow hx ⊢
  by_cases h1 : x.2 = false
  ·rw [if_pos h1]; exact h
  rw [if_neg h1]
  by_cases h2 : M < (setP (rd_L6 S p.f0 ++ x.1)).length
  ·rw [if_pos h2]; exact h
  rw [if_neg h2]
  obtain ⟨hj, hf⟩ := join_good hS hp hx (Nat.not_lt.1 h2)
  refine ih _ _ (goodS_set hS _ hj hf) (by rw [List.length_set]; exact hn) hb.2 (fun q hq => hF q (List.mem_cons_of_mem _ hq)) fun i hi => ?_
  rw [rd_set hp (by rw [hn]; exact hi)]
  by_cases hip : i = p.f0
  ·rw [if_pos hip, hip]
   intro z hz hG
   rw [setP_eq, mem_setT, List.mem_append] at hz
   rcases hz with hz | hz
   ·exact h _ hp' z hz hG
   ·exact f2 _ (hrow z hz hG)
  ·rw [if_neg hip]; exact h i hi
theorem loopG_sim {L : List Prod'} (hb : L.any (prodBad toks n) = false) (hF : Fix C' M' L S') : ∀ (m : Nat) (S s : Sets), GoodSM M S → S.length = n → loopG C M L m S = some s → (∀ i : Int, 0 ≤ i ∧ i < n → Sim G g (rd_L6 S i) (rd_L6 S' i)) →
  ∀ i : Int, 0 ≤ i ∧ i < n → Sim G g (rd_L6 s i) (rd_L6 S' i) := by
 intro m
 induction m with
 | zero => intro S s _ _ h; cases h
 | succ m ih =>
  intro S s hS hn h hs
  obtain ⟨g1, g2, -, -⟩ := roundG_spec hC hM L S false hS hn hb
  have hr := roundG_sim hsim hE hT hC hM hn' L S false hS hn hb hF hs
  unfold loopG at h
  generalize roundG C M L S false = x at h g1 g2 hr
  by_cases h1 : x.2.2 = false
  ·rw [if_pos h1] at h; cases h
  rw [if_neg h1] at h
  by_cases h2 : x.2.1 = false
  ·rw [if_pos h2] at h
   obtain rfl := Option.some.inj h
   exact hr
  ·rw [if_neg h2] at h
   exact ih _ _ g1 g2 h hr
end
theorem rd_empties (n : Nat) (i : Int) : rd_L6 (List.replicate n []) i = [] := by
 unfold rd_L6
 rw [List.getD_eq_getElem?_getD, List.getElem?_replicate]
 split <;> rfl
def tk (K : Nat) (x : ByteArray) : ByteArray := ⟨(x.data.toList.take K).toArray⟩
theorem tk_append (K : Nat) (u v : ByteArray) : tk K (u ++ v) = tc K (tk K u) (tk K v) := by
 apply ext_list
 unfold tk tc
 rw [data_append0]
 simp only [List.toList_toArray]
 rw [List.take_append, List.take_append, List.take_take, List.take_take, Nat.min_self, List.length_take]
 congr 1
 rw [List.take_eq_take_iff]
 omega
theorem tk_short {K : Nat} {x : ByteArray} (h : x.size ≤ K) : tk K x = x := by
 apply ext_list
 unfold tk
 simp only [List.toList_toArray]
 exact List.take_of_length_le (by rw [size_list]; exact h)
theorem sim_cut (K : Nat) (kk : Int) (a a' x x' : List ByteArray) (h : Sim (fun _ => True) (tk K) a a') (h2 : Sim (fun _ => True) (tk K) x x') : Sim (fun _ => True) (tk K) (catW kk a x) (catA K a' x') := by
 intro z hz _
 obtain ⟨u, hu, v, hv, -, rfl⟩ := mem_catW.1 hz
 exact mem_catA.2 ⟨_, h u hu trivial, _, h2 v hv trivial, (tk_append K u v).symm⟩
theorem sim_short (K : Nat) (kk : Int) (hK : (K : Int) ≤ kk) (a a' x x' : List ByteArray) (h : Sim (fun z => z.size < K) id a a') (h2 : Sim (fun z => z.size < K) id x x') : Sim (fun z => z.size < K) id (catA K a x) (catW kk a' x') := by
 intro z hz hs
 obtain ⟨u, hu, v, hv, rfl⟩ := mem_catA.1 hz
 have e1 : (tc K u v).size = min K (u.size + v.size) := by
  rw [← size_list]
  unfold tc
  simp only [List.toList_toArray, List.length_take, List.length_append, size_list]
 have hlt : u.size + v.size < K := by replace hs : (tc K u v).size < K := hs; omega
 have e2 : tc K u v = u ++ v := by
  apply ext_list
  unfold tc
  rw [data_append0]
  simp only [List.toList_toArray]
  exact List.take_of_length_le (by rw [List.length_append, size_list, size_list]; omega)
 show tc K u v ∈ _
 rw [e2]
 exact mem_catW.2 ⟨u, h u hu (by show u.size < K; omega), v, h2 v hv (by show v.size < K; omega), by omega, rfl⟩
theorem rin_l0 (l : List ByteArray) (t : ByteArray) (hr : Rises (keysOf l)) (hl : l.length ≤ 1000000000000) : ∀ (d lo hi : Nat), hi - lo = d → lo ≤ lower (keysOf l) t.data.toList → lower (keysOf l) t.data.toList ≤ hi → hi ≤ l.length →
  Ev (fun k => gramaryeref13_In.l0 k l t lo hi) (decide (t ∈ l)) := by
 have hk := keys_length l
 intro d
 induction d using Nat.strongRecOn with
 | _ d ih =>
  intro lo hi hd h1 h2 h3
  by_cases hlt : lo < hi
  ·have hm : wrap64 (Int.tdiv (wrap64 ((lo : Int) + (hi : Int))) 2) = (((lo + hi) / 2 : Nat) : Int) := (rmid_eq lo hi l.length h3 hl).resolve_right (fun h => h (Nat.le_of_lt hlt))
   obtain ⟨m, hme⟩ : ∃ m, m = (lo + hi) / 2 := ⟨_, rfl⟩
   have hm1 : lo ≤ m ∧ m < hi := by clear hm; omega
   rw [← hme] at hm
   have hw : wrap64 ((m : Int) + 1) = ((m + 1 : Nat) : Int) := by clear hm; rw [wrap_id (by omega)]; rfl
   have q1 : (lo : Int) < (hi : Int) := by clear hm hw; omega
   have q2 : (0 : Int) ≤ (m : Int) := Int.natCast_nonneg m
   have q3 : m < l.length := by clear hm hw; omega
   have q4 : (m : Int) < (l.length : Int) := Int.ofNat_lt.2 q3
   refine Ev.step (fun k => by rw [gramaryeref13_In.l0, if_pos q1, hm, hw, if_pos q2, if_pos q4, rd_nat q3]) ?_
   have hi' := lower_iff hr t.data.toList m (by clear hm hw; omega)
   rw [keysOf_at' q3] at hi'
   by_cases hc : l[m].data.toList < t.data.toList
   ·refine Ev.ite_pos ((less_iff' _ _).2 hc) ?_
    exact ih (hi - (m + 1)) (by clear hm hw; omega) (m + 1) hi rfl (by have := hi'.1 hc; clear hm hw; omega) h2 h3
   ·refine Ev.ite_neg (fun h => hc ((less_iff' _ _).1 h)) ?_
    exact ih (m - lo) (by clear hm hw; omega) lo m rfl h1 (by have : ¬ m < lower (keysOf l) t.data.toList := fun h => hc (hi'.2 h); clear hm hw; omega) (by clear hm hw; omega)
  ·have e : lo = lower (keysOf l) t.data.toList := by omega
   have hmem : t ∈ l ↔ (keysOf l)[lo]? = some t.data.toList := by
    rw [← mem_keys]
    constructor
    ·intro hm
     obtain ⟨j, hj, hje⟩ := List.getElem_of_mem hm
     have a1 : ¬ j < lower (keysOf l) t.data.toList := fun h => by
      have := (lower_iff hr _ j hj).2 h
      rw [hje] at this; exact txt_lt_irrefl _ this
     have a2 : ¬ lower (keysOf l) t.data.toList < j := fun h => by
      have h4 := List.pairwise_iff_getElem.1 hr _ _ (by omega) hj h
      rw [hje] at h4
      have := (lower_iff hr _ _ (by omega)).1 h4
      omega
     have : j = lo := by omega
     rw [← this, List.getElem?_eq_getElem hj, hje]
    ·exact fun h => List.mem_of_getElem? h
   by_cases hend : lo < l.length
   ·have hg : (keysOf l)[lo]? = some (l[lo].data.toList) := by
     rw [List.getElem?_eq_getElem (by omega), keysOf_at' hend]
    have e2 : decide (t ∈ l) = (l[lo].toList == t.toList) := by
     rw [Bool.eq_iff_iff, decide_eq_true_iff, beq_iff_eq, hmem, hg, Lib.toList_data, Lib.toList_data]
     exact ⟨fun h => Option.some.inj h, fun h => by rw [h]⟩
    rw [e2]
    exact Ev.step (fun k => by rw [gramaryeref13_In.l0, if_neg (by omega), if_pos (by omega), if_pos (by omega), rd_nat hend]) (Ev.now _)
   ·rw [decide_eq_false (fun h => by have := hmem.1 h; rw [List.getElem?_eq_none (by omega)] at this; cases this)]
    exact Ev.step (fun k => by rw [gramaryeref13_In.l0, if_neg (by omega), if_neg (by omega)]) (Ev.now _)
theorem rin_ev (l : List ByteArray) (t : ByteArray) (hs : setT l = l) (hl : l.length ≤ 1000000000000) : Ev (fun k => gramaryeref13_In.f k l t) (decide (t ∈ l)) := by
 have hr : Rises (keysOf l) := by rw [← hs, keys_setT]; exact (tset_rises _).1
 unfold gramaryeref13_In.f
 have h := lower_le (keysOf l) t.data.toList
 rw [keys_length] at h
 exact rin_l0 l t hr hl _ 0 l.length rfl (Nat.zero_le _) h (Nat.le_refl _)
theorem cut_extract (x : ByteArray) (look : Int) (h : 1 ≤ look) : x.extract 0 ((mn (x.size : Int) look : Int).toNat) = tk (mx look 0).toNat x := by
 apply ext_list
 rw [extract_list]
 unfold tk
 simp only [List.drop_zero, List.toList_toArray]
 rw [List.take_eq_take_iff, size_list]
 unfold mn mx
 split <;> split <;> omega
section
variable (toks look : Int) (hlook : 1 ≤ look) (of : List Int) (L : List Prod') (F : Sets) (hF : GoodSM 600 F) (hlen : F.length ≤ 1000000) (n : Nat) (hn : n < F.length) (w : List ByteArray) (hw : GoodM 10000 w) (hws : setT w = w)
 (hA : ∀ x ∈ w, tk (mx look 0).toNat x ∈ rd_L6 F n) (hB : ∀ x ∈ rd_L6 F n, x.size < (mx look 0).toNat → x ∈ w)
include hlook hF hlen hn hw hws hA hB
theorem all_l2 (h : Ev (fun k => gramaryelaw14_FirstAll.l0 k F ((n + 1 : Nat) : Int) toks look of L) true) : ∀ (d i : Nat), i + d = (rd_L6 F n).length → Ev (fun k => gramaryelaw14_FirstAll.l2 k F n w i toks look of L) true := by
 have hg := hF _ (rd_sets (sets := F) (i := n) (by omega))
 have hw1 : wrap64 ((n : Int) + 1) = ((n + 1 : Nat) : Int) := by rw [wrap_id (by omega)]; rfl
 intro d
 induction d with
 | zero =>
  intro i hi
  exact Ev.step (fun k => by rw [gramaryelaw14_FirstAll.l2, if_pos (by clear hw1; omega), if_pos (by clear hw1; omega), if_neg (by clear hw1; omega), hw1]) h
 | succ d ih =>
  intro i hi
  have hlt : i < (rd_L6 F n).length := by clear hw1; omega
  have hl6 := hg.1.1
  have hw2 : wrap64 ((i : Int) + 1) = ((i + 1 : Nat) : Int) := by clear hw1; rw [wrap_id (by omega)]; rfl
  refine Ev.step (fun k => by rw [gramaryelaw14_FirstAll.l2, if_pos (by clear hw1 hw2; omega), if_pos (by clear hw1 hw2; omega), if_pos (by clear hw1 hw2; omega), if_pos (by clear hw1 hw2; omega), rd_nat hlt, hw2]) ?_
  have hi2 := ih (i + 1) (by clear hw1 hw2; omega)
  by_cases hc : (((rd_L6 F n)[i].size : Nat) : Int) < look
  ·have hin := rin_ev w (rd_L6 F n)[i] hws (by have := hw.1; clear hw1 hw2; omega)
   rw [decide_eq_true (hB _ (List.getElem_mem hlt) (by unfold mx; clear hw1 hw2; split <;> omega))] at hin
   exact Ev.ite_pos hc (Ev.bind hin (Ev.ite_pos rfl hi2))
  ·exact Ev.ite_neg hc hi2
theorem all_l1 (h : Ev (fun k => gramaryelaw14_FirstAll.l0 k F ((n + 1 : Nat) : Int) toks look of L) true) : ∀ (d i : Nat), i + d = w.length → Ev (fun k => gramaryelaw14_FirstAll.l1 k F n w i toks look of L) true := by
 have hg := hF _ (rd_sets (sets := F) (i := n) (by omega))
 intro d
 induction d with
 | zero =>
  intro i hi
  exact Ev.step (fun k => by rw [gramaryelaw14_FirstAll.l1, if_neg (by omega)]; rfl) (all_l2 toks look hlook of L F hF hlen n hn w hw hws hA hB h (rd_L6 F n).length 0 (by omega))
 | succ d ih =>
  intro i hi
  have hlt : i < w.length := by omega
  have hwl := hw.1
  have hw2 : wrap64 ((i : Int) + 1) = ((i + 1 : Nat) : Int) := by rw [wrap_id (by omega)]; rfl
  have hm : 0 ≤ mn ((w[i].size : Nat) : Int) look ∧ mn ((w[i].size : Nat) : Int) look ≤ ((w[i].size : Nat) : Int) := by unfold mn; clear hw2; split <;> omega
  have hin := rin_ev (rd_L6 F n) (tk (mx look 0).toNat w[i]) hg.2 (by have := hg.1.1; clear hw2; omega)
  rw [decide_eq_true (hA _ (List.getElem_mem hlt))] at hin
  exact Ev.step (fun k => by rw [gramaryelaw14_FirstAll.l1, if_pos (by clear hw2; omega), if_pos (by clear hw2; omega), if_pos (by clear hw2; omega), if_pos (by clear hw2; omega), rd_nat hlt, if_pos hm.1, if_pos hm.2, cut_extract _ look hlook, hw2]) (Ev.bind hin (Ev.ite_pos rfl (ih (i + 1) (by clear hw2; omega))))
end
theorem all_l0 (toks look : Int) (hlook : 1 ≤ look ∧ look ≤ 3) (of : List Int) (L : List Prod') (hl : ∀ p ∈ L, p.f1.length ≤ 1000000) (hL : L.length ≤ 1000000) (h0 : mayE toks look of.length L = 0) (F : Sets) (hF0 : loopG (catA (mx look 0).toNat) 600 L (600 * of.length + 1) (List.replicate of.length []) = some F) :
  ∀ (d i : Nat), i + d = F.length → Ev (fun k => gramaryelaw14_FirstAll.l0 k F i toks look of L) true := by
 obtain ⟨h1, h2, h3, h4⟩ := mayE_zero h0
 obtain ⟨fF, gF, lF⟩ := loopG_fix (catA_size (K_le h3)) (by omega) h4 _ _ _ (empties_good 600 of.length) (List.length_replicate ..) hF0
 have hK : 1 ≤ (mx look 0).toNat ∧ (mx look 0).toNat ≤ 3 := by unfold mx; split <;> omega
 have hkk : mn (mx 3 0) 4 = 3 := by decide
 intro d
 induction d with
 | zero =>
  intro i hi
  exact Ev.step (fun k => by rw [gramaryelaw14_FirstAll.l0, if_neg (by omega)]) (Ev.now _)
 | succ d ih =>
  intro i hi
  have hlt : i < F.length := by omega
  have hw := words_ev toks look of L i 3 hl hL
  unfold wordsA at hw
  rw [if_pos h0, if_neg (by omega), if_neg (by omega), hkk] at hw
  refine Ev.step (fun k => by rw [gramaryelaw14_FirstAll.l0, if_pos (by omega)]) (Ev.bind hw ?_)
  cases hs : loopG (catW 3) 10000 L (10000 * of.length + 1) (List.replicate of.length []) with
  | none => exact Ev.ite_neg (by simp) (Ev.some rfl)
  | some s =>
   obtain ⟨fs, gs, ls⟩ := loopG_fix (C := catW 3) (catW_size (by omega)) (by omega) h4 _ _ _ (empties_good 10000 of.length) (List.length_replicate ..) hs
   have hA := loopG_sim (C := catW 3) (C' := catA (mx look 0).toNat) (M := 10000) (M' := 600) (S' := F) (n := of.length) (sim_cut (mx look 0).toNat 3) (fun x hx _ => by
     rw [List.mem_singleton.1 hx, tk_short (Nat.zero_le _)]; exact List.mem_singleton.2 rfl) (fun m x hx _ => by
     rw [List.mem_singleton.1 hx, tk_short (by rw [strOfNums_size]; exact hK.1)]; exact List.mem_singleton.2 rfl) (catW_size (by omega)) (by omega) lF h4 fF _ _ _ (empties_good 10000 of.length) (List.length_replicate ..) hs (fun j hj => by rw [rd_empties]; exact sim_nil _ _ _) (i : Int) (by omega)
   have hB := loopG_sim (C := catA (mx look 0).toNat) (C' := catW 3) (M := 600) (M' := 10000) (S' := s) (n := of.length) (sim_short (mx look 0).toNat 3 (by omega)) (fun x hx _ => hx) (fun m x hx _ => hx) (catA_size (K_le h3)) (by omega) ls h4 fs _ _ _ (empties_good 600 of.length) (List.length_replicate ..) hF0 (fun j hj => by rw [rd_empties]; exact sim_nil _ _ _) (i : Int) (by omega)
   have hgs := gs _ (rd_sets (sets := s) (i := i) (by omega))
   exact Ev.ite_pos rfl (all_l1 toks look hlook.1 of L F gF (by omega) i hlt (rd_L6 s i) hgs.1 hgs.2 (fun x hx => hA x hx trivial) (fun x hx h => hB x hx h) (ih (i + 1) (by omega)) (rd_L6 s i).length 0 (by omega))
theorem FirstAll : gramaryelaw14_FirstAll.Pure := by
 intro toks look of L hW
 refine Ev.rounds (g := fun k => gramaryelaw14_FirstAll.f k toks look of L) ?_
 unfold gramaryelaw14_FirstAll.f
 clear hW
 have f1 := gfew_ev toks look of L
 have hl : ∀ p ∈ fewL L, p.f1.length ≤ 1000000 := fun p hp => by have := (fewL_le L).2 p hp; omega
 have hL4 : (fewL L).length ≤ 1000000 := by have := (fewL_le L).1; omega
 have o1 := of_ev toks look (of.take 8) (fewL L) hl hL4
 have ha := fun look1 h0 F hF => all_l0 toks look look1 (of.take 8) (fewL L) hl hL4 h0 F hF
 refine Ev.bind first_works (Ev.ite_pos rfl (Ev.bind f1 (Ev.bind o1 ?_)))
 unfold ofA
 by_cases h0 : mayE toks look (of.take 8).length (fewL L) = 0
 ·obtain ⟨h1, h2, h3, h4⟩ := mayE_zero h0
  rw [if_pos h0]
  cases hs : loopG (catA (mx look 0).toNat) 600 (fewL L) (600 * (of.take 8).length + 1) (List.replicate (of.take 8).length []) with
  | none => exact Ev.ite_neg (by simp) (Ev.step (fun k => by rw [gramaryelaw14_FirstAll.j0, if_pos rfl, if_neg (by simp)]; rfl) (Ev.now _))
  | some s =>
   refine Ev.ite_pos rfl ?_
   by_cases hc : look > 3
   ·exact Ev.step (fun k => by rw [gramaryelaw14_FirstAll.j0, if_pos (by simpa using hc), if_pos rfl]) (Ev.now _)
   ·exact Ev.step (fun k => by rw [gramaryelaw14_FirstAll.j0, if_neg (by simpa using hc)]; rfl) (ha ⟨h3.1, by omega⟩ h0 s hs s.length 0 (by omega))
 ·rw [if_neg h0]
  exact Ev.ite_neg h0 (Ev.step (fun k => by rw [gramaryelaw14_FirstAll.j0, if_pos rfl, if_neg h0]; rfl) (Ev.now _))
end Go.Proofs.Ytnihlieggknpaaa.Pure
