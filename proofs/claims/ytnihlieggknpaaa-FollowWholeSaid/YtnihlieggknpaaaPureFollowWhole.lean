/- For all plain rules (cut to eight nonterminals, fourteen productions of four symbols, as the statement has it): of rules that all end, what follows a nonterminal that is reached is not empty, and all texts are whole. No other condition. -/
-- Written by pure.py for this claim.
import Derived.Test.YtnihlieggknpaaaHFollowWholex
import Derived.Test.YtnihlieggknpaaaSFollowWholeVPure
import Derived.Sort.Walk0
namespace Go.Proofs.Ytnihlieggknpaaa.Pure
open Go.RowKit Go.Plus Go.Proofs.Ytnihlieggknpaaa.HFollowWhole Go.Proofs.YtnihlieggknpaaaW.PrintWords Go.Proofs.YtnihlieggknpaaaW.PrintLast Go.Proofs.YtnihlieggknpaaaW.PrintMore
set_option linter.unusedVariables false
set_option linter.unusedSimpArgs false
abbrev Sym := S71
abbrev Prod' := S61
theorem rdS {l : List Sym} {i : Nat} (h : i < l.length) : rd_T71 l (i : Int) = l[i] := by
 unfold rd_T71
 simp [List.getD_eq_getElem?_getD, h]
theorem rdP {l : List Prod'} {i : Nat} (h : i < l.length) : rd_T61 l (i : Int) = l[i] := by
 unfold rd_T61
 simp [List.getD_eq_getElem?_getD, h]
def symBad (toks : Int) (n : Nat) (s : Sym) : Bool := if s.f0 = true then !(decide (1 ≤ s.f1) && decide (s.f1 ≤ toks)) else !(decide (0 ≤ s.f1) && decide (s.f1 < (n : Int)))
def prodBad (toks : Int) (n : Nat) (p : Prod') : Bool := !(decide (0 ≤ p.f0) && decide (p.f0 < (n : Int))) || p.f1.any (symBad toks n)
def mayE (toks look : Int) (n : Nat) (L : List Prod') : Int :=
 if toks < 1 ∨ 60 < toks ∨ n < 1 ∨ 500 < n ∨ L.length < 1 ∨ 2000 < L.length ∨ (L.any fun p => decide (500 < p.f1.length)) = true then 8 else if look < 1 ∨ 4 < look then 11 else if L.any (prodBad toks n) = true then 4 else 0
theorem sym_some (toks look : Int) (of : List Int) (L : List Prod') (b : Bool) (n : Int) : bnf_sym.f toks look of L b n = some (!symBad toks of.length ⟨b, n⟩) := by
 unfold bnf_sym.f bnf_from1.f symBad
 cases b
 ·by_cases h : n ≥ 0
  ·simp [h]
  ·simp [h]
 ·by_cases h : n ≥ 1
  ·simp [h]
  ·simp [h]
theorem drop_any {α : Type} {l : List α} {i : Nat} (h : i < l.length) (f : α → Bool) : (l.drop i).any f = (f l[i] || (l.drop (i + 1)).any f) := by
 rw [List.drop_eq_getElem_cons h, List.any_cons]
theorem idxSym (toks look : Int) (of : List Int) (L : List Prod') (l : List Sym) (hl : l.length ≤ 1000000000) : ∀ (d i : Nat), i + d = l.length → ∃ z : Int, decide (z ≥ 0) = (l.drop i).any (symBad toks of.length) ∧ Ev (fun k => slices_IndexFunc_api_Sym__bnf_prod_1.l0 k l l.length i toks look of L) (z, toks, look) := by
 intro d
 induction d with
 | zero =>
  intro i hi
  exact ⟨-1, by rw [List.drop_of_length_le (by omega)]; rfl, Ev.step (fun k => by rw [slices_IndexFunc_api_Sym__bnf_prod_1.l0, if_neg (by omega)]) (Ev.now _)⟩
 | succ d ih =>
  intro i hi
  have hlt : i < l.length := by omega
  have hw : wrap64 ((i : Int) + 1) = ((i + 1 : Nat) : Int) := by rw [wrap_id (by omega)]; rfl
  have e : bnf_prod_1.f l[i].f0 l[i].f1 toks look of L = some (symBad toks of.length l[i], toks, look) := by
   unfold bnf_prod_1.f
   rw [sym_some, Option.bind_some, Bool.not_not]
  rw [drop_any hlt]
  cases hb : symBad toks of.length l[i]
  ·obtain ⟨z, h0, hz⟩ := ih (i + 1) (by omega)
   refine ⟨z, by rw [h0]; rfl, Ev.step (fun k => by rw [slices_IndexFunc_api_Sym__bnf_prod_1.l0, if_pos (by clear hw; omega), if_pos (by clear hw; omega), if_pos (by clear hw; omega), rdS hlt, e, Option.bind_some, hw]) (Ev.ite_neg (by rw [hb]; simp) hz)⟩
  ·refine ⟨i, by simp, Ev.step (fun k => by rw [slices_IndexFunc_api_Sym__bnf_prod_1.l0, if_pos (by clear hw; omega), if_pos (by clear hw; omega), if_pos (by clear hw; omega), rdS hlt, e, Option.bind_some]) (Ev.ite_pos hb (Ev.now _))⟩
theorem prod_ev (toks look : Int) (of : List Int) (L : List Prod') (n : Int) (r : List Sym) (hr : r.length ≤ 1000000000) : Ev (fun k => bnf_prod.f k toks look of L n r) (!prodBad toks of.length ⟨n, r⟩) := by
 unfold bnf_prod.f prodBad
 by_cases h1 : n ≥ 0
 ·refine Ev.ite_pos h1 ?_
  by_cases h2 : n < (of.length : Int)
  ·refine Ev.ite_pos h2 ?_
   obtain ⟨z, h0, hz⟩ := idxSym toks look of L r hr r.length 0 (by omega)
   rw [List.drop_zero] at h0
   unfold slices_ContainsFunc_api_Sym__bnf_prod_1.f slices_IndexFunc_api_Sym__bnf_prod_1.f
   refine Ev.bind (Ev.bind hz (Ev.now _)) (Ev.some ?_)
   rw [h0]
   simp [h1, h2]
  ·refine Ev.ite_neg h2 (Ev.some ?_)
   simp [h2]
 ·refine Ev.ite_neg h1 (Ev.some ?_)
  have : ¬ 0 ≤ n := h1
  simp [this]
theorem idxProd (toks look : Int) (of : List Int) (L l : List Prod') (hl : l.length ≤ 1000000000) (hr : ∀ p ∈ l, p.f1.length ≤ 1000000000) : ∀ (d i : Nat), i + d = l.length → ∃ z : Int, decide (z ≥ 0) = (l.drop i).any (prodBad toks of.length) ∧ Ev (fun k => slices_IndexFunc_api_Prod__bnf_May_1.l0 k l l.length i toks look of L) (z, toks, look) := by
 intro d
 induction d with
 | zero =>
  intro i hi
  exact ⟨-1, by rw [List.drop_of_length_le (by omega)]; rfl, Ev.step (fun k => by rw [slices_IndexFunc_api_Prod__bnf_May_1.l0, if_neg (by omega)]) (Ev.now _)⟩
 | succ d ih =>
  intro i hi
  have hlt : i < l.length := by omega
  have hw : wrap64 ((i : Int) + 1) = ((i + 1 : Nat) : Int) := by rw [wrap_id (by omega)]; rfl
  have e : Ev (fun k => bnf_May_1.f k l[i].f0 l[i].f1 toks look of L) (prodBad toks of.length l[i], toks, look) := by
   unfold bnf_May_1.f
   exact Ev.bind (prod_ev toks look of L l[i].f0 l[i].f1 (hr _ (List.getElem_mem _))) (Ev.some (by rw [Bool.not_not]))
  rw [drop_any hlt]
  cases hb : prodBad toks of.length l[i]
  ·rw [hb] at e
   obtain ⟨z, h0, hz⟩ := ih (i + 1) (by omega)
   refine ⟨z, by rw [h0]; rfl, Ev.step (fun k => by rw [slices_IndexFunc_api_Prod__bnf_May_1.l0, if_pos (by clear hw; omega), if_pos (by clear hw; omega), if_pos (by clear hw; omega), rdP hlt, hw]) (Ev.bind e (Ev.ite_neg (show ¬ ((false, toks, look) : Bool × Int × Int).1 = true from Bool.false_ne_true) hz))⟩
  ·rw [hb] at e
   refine ⟨i, by simp, Ev.step (fun k => by rw [slices_IndexFunc_api_Prod__bnf_May_1.l0, if_pos (by clear hw; omega), if_pos (by clear hw; omega), if_pos (by clear hw; omega), rdP hlt]) (Ev.bind e (Ev.ite_pos rfl (Ev.now _)))⟩
theorem idxLong (l : List Prod') (hl : l.length ≤ 1000000000) : ∀ (d i : Nat), i + d = l.length → ∃ z : Int, decide (z ≥ 0) = (l.drop i).any (fun p => decide (500 < p.f1.length)) ∧ Ev (fun k => slices_IndexFunc_api_Prod__bnf_long.l0 k l l.length i) z := by
 intro d
 induction d with
 | zero =>
  intro i hi
  exact ⟨-1, by rw [List.drop_of_length_le (by omega)]; rfl, Ev.step (fun k => by rw [slices_IndexFunc_api_Prod__bnf_long.l0, if_neg (by omega)]) (Ev.now _)⟩
 | succ d ih =>
  intro i hi
  have hlt : i < l.length := by omega
  have hw : wrap64 ((i : Int) + 1) = ((i + 1 : Nat) : Int) := by rw [wrap_id (by omega)]; rfl
  have e : bnf_long.f l[i].f0 l[i].f1 = some (decide (500 < l[i].f1.length)) := by
   unfold bnf_long.f
   refine congrArg some (decide_eq_decide.2 ?_)
   omega
  rw [drop_any hlt]
  cases hb : decide (500 < l[i].f1.length)
  ·obtain ⟨z, h0, hz⟩ := ih (i + 1) (by omega)
   refine ⟨z, by rw [h0]; rfl, Ev.step (fun k => by rw [slices_IndexFunc_api_Prod__bnf_long.l0, if_pos (by clear hw; omega), if_pos (by clear hw; omega), if_pos (by clear hw; omega), rdP hlt, e, Option.bind_some, hw]) (Ev.ite_neg (by rw [hb]; simp) hz)⟩
  ·refine ⟨i, by simp, Ev.step (fun k => by rw [slices_IndexFunc_api_Prod__bnf_long.l0, if_pos (by clear hw; omega), if_pos (by clear hw; omega), if_pos (by clear hw; omega), rdP hlt, e, Option.bind_some]) (Ev.ite_pos hb (Ev.now _))⟩
theorem from1_some (a b : Int) : bnf_from1.f a b = some (decide (1 ≤ a ∧ a ≤ b)) := by
 unfold bnf_from1.f
 by_cases h : a ≥ 1
 ·rw [if_pos h]; simp [show 1 ≤ a from h]
 ·rw [if_neg h]; simp [show ¬ 1 ≤ a from h]
theorem may_j0 (toks look : Int) (of : List Int) (L : List Prod') (hl : L.length ≤ 1000000000) (hr : ∀ p ∈ L, p.f1.length ≤ 1000000000) (b : Bool) : Ev (fun k => bnf_May.j0 k b toks look of L) (if b = true then 8 else if look < 1 ∨ 4 < look then 11 else if L.any (prodBad toks of.length) = true then 4 else 0) := by
 refine Ev.step (fun k => by rw [bnf_May.j0]) ?_
 cases b
 ·refine Ev.ite_neg (by simp) (Ev.bind0 (from1_some _ _) ?_)
  rw [if_neg (by simp)]
  by_cases h : 1 ≤ look ∧ look ≤ 4
  ·rw [if_neg (by omega)]
   refine Ev.ite_pos (decide_eq_true h) ?_
   obtain ⟨z, h0, hz⟩ := idxProd toks look of L L hl hr L.length 0 (by omega)
   rw [List.drop_zero] at h0
   unfold slices_ContainsFunc_api_Prod__bnf_May_1.f slices_IndexFunc_api_Prod__bnf_May_1.f
   refine Ev.bind (Ev.bind hz (Ev.now _)) ?_
   rw [← h0]
   refine Ev.congr (f := fun k => some (if decide (z ≥ 0) = true then (4 : Int) else 0)) (fun k => ?_) (Ev.now _)
   by_cases hz0 : z ≥ 0
   ·simp [hz0]
   ·simp [hz0]
  ·rw [if_pos (by omega)]
   exact Ev.ite_neg (by simpa using h) (Ev.now _)
 ·rw [if_pos rfl]; exact Ev.ite_pos rfl (Ev.now _)
theorem may_ev (toks look : Int) (of : List Int) (L : List Prod') (hl : L.length ≤ 1000000000) (hr : ∀ p ∈ L, p.f1.length ≤ 1000000000) : Ev (fun k => bnf_May.f k toks look of L) (mayE toks look of.length L) := by
 unfold bnf_May.f mayE
 have ht := may_j0 toks look of L hl hr true
 rw [if_pos rfl] at ht
 refine Ev.bind0 (from1_some _ _) ?_
 by_cases h1 : 1 ≤ toks ∧ toks ≤ 60
 ·refine Ev.ite_pos (decide_eq_true h1) (Ev.bind0 (from1_some _ _) ?_)
  by_cases h2 : 1 ≤ (of.length : Int) ∧ (of.length : Int) ≤ 500
  ·refine Ev.ite_pos (decide_eq_true h2) (Ev.bind0 (from1_some _ _) ?_)
   by_cases h3 : 1 ≤ (L.length : Int) ∧ (L.length : Int) ≤ 2000
   ·refine Ev.ite_pos (decide_eq_true h3) ?_
    obtain ⟨z, h0, hz⟩ := idxLong L hl L.length 0 (by omega)
    rw [List.drop_zero] at h0
    unfold slices_ContainsFunc_api_Prod__bnf_long.f slices_IndexFunc_api_Prod__bnf_long.f
    refine Ev.bind (Ev.bind hz (Ev.now _)) ?_
    have hj := may_j0 toks look of L hl hr (decide (z ≥ 0))
    rw [h0] at hj ⊢
    by_cases h4 : (L.any fun p => decide (500 < p.f1.length)) = true
    ·rw [if_pos h4] at hj
     rw [if_pos (by simp only [h4, or_true])]
     exact hj
    ·rw [if_neg h4] at hj
     rw [if_neg (by rintro (h|h|h|h|h|h|h) <;> first | omega | exact h4 h)]
     exact hj
   ·rw [if_pos (by omega)]
    exact Ev.ite_neg (by simpa using h3) ht
  ·rw [if_pos (by omega)]
   exact Ev.ite_neg (by simpa using h2) ht
 ·rw [if_pos (by omega)]
  exact Ev.ite_neg (by simpa using h1) ht
instance riseDec (l : List Txt) : Decidable (Rises l) := inferInstanceAs (Decidable (l.Pairwise (· < ·)))
abbrev keysOf := pack_set_string.keys
abbrev txts := pack_set_string.texts
theorem keys_txts (l : List Txt) : keysOf (txts l) = l := by
 unfold keysOf txts pack_set_string.keys pack_set_string.texts
 rw [List.map_map]
 conv => rhs; rw [← List.map_id l]
 exact List.map_congr_left fun x _ => by simp
theorem txts_keys (l : List ByteArray) : txts (keysOf l) = l := by
 unfold keysOf txts pack_set_string.keys pack_set_string.texts
 rw [List.map_map]
 conv => rhs; rw [← List.map_id l]
 exact List.map_congr_left fun x _ => by
  apply ByteArray.ext
  simp
theorem keys_length (a : List ByteArray) : (keysOf a).length = a.length := List.length_map ..
theorem txts_length (a : List Txt) : (txts a).length = a.length := List.length_map ..
def setT (l : List ByteArray) : List ByteArray := txts (tset (keysOf l))
theorem setT_length (l : List ByteArray) : (setT l).length ≤ l.length := by
 unfold setT
 rw [txts_length]
 have := tset_length_le (keysOf l)
 rw [keys_length] at this
 exact this
theorem keys_setT (l : List ByteArray) : keysOf (setT l) = tset (keysOf l) := keys_txts _
theorem set_some (l : List ByteArray) (h : l.length ≤ 1000000000000) : pack_set_string.f l = some (setT l) := by
 unfold pack_set_string.f
 rw [if_pos (by omega)]
 rfl
theorem join_some (a b : List ByteArray) (ha : a.length ≤ 100000000000) (hb : b.length ≤ 100000000000) : pack_Join.f a b = some (setT (a ++ b)) := by
 unfold pack_Join.f
 rw [if_pos (by omega), set_some _ (by rw [List.length_append]; omega)]
theorem rd_nat {l : List ByteArray} {i : Nat} (h : i < l.length) : rdOf ByteArray.empty l (i : Int) = l[i] := by
 unfold rdOf
 simp [List.getD_eq_getElem?_getD, h]
theorem data_append0 (a b : ByteArray) : (a ++ b).data.toList = a.data.toList ++ b.data.toList := by simp
def tc (K : Nat) (x y : ByteArray) : ByteArray := ⟨((x.data.toList ++ y.data.toList).take K).toArray⟩
theorem ext_list {a b : ByteArray} (h : a.data.toList = b.data.toList) : a = b := by
 apply ByteArray.ext
 apply Array.toList_inj.1 h
theorem tcat_some (x y : ByteArray) (k : Int) (hx : x.size ≤ 1000000000000) (hy : y.size ≤ 1000000000000) (hk : -9223372036854775808 ≤ k ∧ k ≤ 9223372036854775807) : tuple_Cat.f x y k = some (tc (mx k 0).toNat x y) := by
 have hsx := size_list x
 have hsy := size_list y
 unfold tuple_Cat.f
 by_cases h : (x.size : Int) ≥ k
 ·have hm : 0 ≤ mx k 0 ∧ mx k 0 ≤ x.size := by unfold mx; split <;> omega
  rw [if_pos h, if_pos hm.1, if_pos hm.2]
  congr 1
  apply ext_list
  rw [extract_list]
  unfold tc
  simp only [List.drop_zero]
  rw [List.take_append_of_le_length (by omega)]
 ·have hm : mx k 0 = k := by unfold mx; split <;> omega
  by_cases hb : k ≤ 9223372036854775807 - 0 ∧ 0 ≤ k - x.size ∧ k - (x.size : Int) ≤ 9223372036854775807
  ·have hw : wrap64 (k - (x.size : Int)) = k - (x.size : Int) := wrap_id (by omega)
   have hn : 0 ≤ mn (k - (x.size : Int)) (y.size : Int) ∧ mn (k - (x.size : Int)) (y.size : Int) ≤ y.size := by unfold mn; split <;> omega
   rw [if_neg h, hw, if_pos hn.1, if_pos hn.2, if_pos (by rw [ByteArray.size_extract]; clear hw; omega)]
   congr 1
   apply ext_list
   rw [data_append0, extract_list]
   unfold tc
   simp only [List.drop_zero]
   rw [hm, List.take_append]
   rw [List.take_of_length_le (show x.data.toList.length ≤ k.toNat by clear hw; omega)]
   congr 1
   have e : (mn (k - (x.size : Int)) (y.size : Int)).toNat = min (k.toNat - x.data.toList.length) y.data.toList.length := by
    rw [hsx, hsy]
    unfold mn
    clear hw
    split <;> omega
   rw [e, List.take_eq_take_iff]
   omega
  ·exact absurd ⟨by omega, by omega, by omega⟩ hb
def rowOf (K : Nat) (b : List ByteArray) (x : ByteArray) : List ByteArray := if K ≤ x.size ∧ 0 < b.length then [x.extract 0 K] else b.map (tc K x)
theorem rowOf_length (K : Nat) (b : List ByteArray) (x : ByteArray) : (rowOf K b x).length ≤ b.length := by
 unfold rowOf
 split
 ·rename_i h; exact h.2
 ·simp
section
variable (b : List ByteArray) (k : Int) (hk : -9223372036854775808 ≤ k ∧ k ≤ 9223372036854775807) (hb : b.length ≤ 1000000) (hbs : ∀ y ∈ b, y.size ≤ 1000000000000)
include hk hb hbs
theorem cat_l1 (x : ByteArray) (hx : x.size ≤ 1000000000000) (A : List ByteArray) (i : Int) (r : List ByteArray) : ∀ (d j : Nat) (acc : List ByteArray), j + d = b.length → acc.length + d ≤ 1000000000000 →
  Ev (fun n => pack_Cat.l0 n b k (acc ++ (b.drop j).map (tc (mx k 0).toNat x)) A A.length (wrap64 (i + 1))) r → Ev (fun n => pack_Cat.l1 n b k acc x A A.length i b b.length j) r := by
 intro d
 induction d with
 | zero =>
  intro j acc hj _ h
  rw [List.drop_of_length_le (by omega), List.map_nil, List.append_nil] at h
  exact Ev.step (fun n => by rw [pack_Cat.l1, if_neg (by omega)]) h
 | succ d ih =>
  intro j acc hj ha h
  have hlt : j < b.length := by omega
  have hw : wrap64 ((j : Int) + 1) = ((j + 1 : Nat) : Int) := by rw [wrap_id (by omega)]; rfl
  refine Ev.step (fun n => by rw [pack_Cat.l1, if_pos (by clear hw; omega), if_pos (by clear hw; omega), if_pos (by clear hw; omega), rd_nat hlt, hw]) ?_
  refine Ev.bind0 (tcat_some x b[j] k hx (hbs _ (List.getElem_mem _)) hk) (Ev.ite_pos (by clear hw; omega) ?_)
  refine ih (j + 1) _ (by omega) (by simp; omega) ?_
  rw [List.drop_eq_getElem_cons hlt, List.map_cons] at h
  simpa using h
theorem cat_l0 (a : List ByteArray) (hal : a.length ≤ 100000) (has : ∀ x ∈ a, x.size ≤ 1000000000000) : ∀ (d i : Nat) (acc : List ByteArray), i + d = a.length → acc.length + d * b.length ≤ 100000000000 →
  Ev (fun n => pack_Cat.l0 n b k acc a a.length i) (setT (acc ++ (a.drop i).flatMap (rowOf (mx k 0).toNat b))) := by
 intro d
 induction d with
 | zero =>
  intro i acc hi ha
  rw [List.drop_of_length_le (by omega), List.flatMap_nil, List.append_nil]
  exact Ev.step (fun n => by rw [pack_Cat.l0, if_neg (by omega)]) (Ev.bind0 (set_some acc (by omega)) (Ev.now _))
 | succ d ih =>
  intro i acc hi ha
  have hlt : i < a.length := by omega
  have hw : wrap64 ((i : Int) + 1) = ((i + 1 : Nat) : Int) := by rw [wrap_id (by omega)]; rfl
  have hsz := has _ (List.getElem_mem hlt)
  have hmx : 0 ≤ mx k 0 := by unfold mx; split <;> omega
  have hlen := rowOf_length (mx k 0).toNat b a[i]
  have hmul : (d + 1) * b.length = d * b.length + b.length := Nat.succ_mul _ _
  rw [List.drop_eq_getElem_cons hlt, List.flatMap_cons, ← List.append_assoc]
  have ih' := ih (i + 1) (acc ++ rowOf (mx k 0).toNat b a[i]) (by omega) (by rw [List.length_append]; omega)
  refine Ev.step (fun n => by rw [pack_Cat.l0, if_pos (by clear hw; omega), if_pos (by clear hw; omega), if_pos (by clear hw; omega), rd_nat hlt]) ?_
  have hj1t : ∀ (hc1 : mx k 0 ≤ (a[i].size : Int)) (hc2 : 0 < b.length), Ev (fun n => pack_Cat.j1 n b k acc a[i] a a.length i true) (setT (acc ++ rowOf (mx k 0).toNat b a[i] ++ (a.drop (i + 1)).flatMap (rowOf (mx k 0).toNat b))) := by
   intro hc1 hc2
   refine Ev.step (fun n => by rw [pack_Cat.j1, if_pos rfl, if_pos hmx, if_pos hc1, if_pos (by clear hw; omega), hw]) ?_
   have e : rowOf (mx k 0).toNat b a[i] = [a[i].extract 0 (mx k 0).toNat] := by unfold rowOf; rw [if_pos ⟨by clear hw; omega, hc2⟩]
   rw [e] at ih' ⊢
   exact ih'
  have hj1f : ¬ ((mx k 0).toNat ≤ a[i].size ∧ 0 < b.length) → Ev (fun n => pack_Cat.j1 n b k acc a[i] a a.length i false) (setT (acc ++ rowOf (mx k 0).toNat b a[i] ++ (a.drop (i + 1)).flatMap (rowOf (mx k 0).toNat b))) := by
   intro hc
   refine Ev.step (fun n => by rw [pack_Cat.j1, if_neg (by simp)]) ?_
   have e : rowOf (mx k 0).toNat b a[i] = b.map (tc (mx k 0).toNat a[i]) := by unfold rowOf; rw [if_neg hc]
   refine cat_l1 b k hk hb hbs a[i] hsz a i _ b.length 0 acc (by omega) (by clear hw; omega) ?_
   rw [List.drop_zero, hw, ← e]
   exact ih'
  by_cases hc1 : (a[i].size : Int) ≥ mx k 0
  ·refine Ev.ite_pos hc1 ?_
   by_cases hc2 : 0 < b.length
   ·rw [show decide ((b.length : Int) > 0) = true from decide_eq_true (by clear hw; omega)]
    exact hj1t hc1 hc2
   ·rw [show decide ((b.length : Int) > 0) = false from decide_eq_false (by clear hw; omega)]
    exact hj1f (fun h => hc2 h.2)
  ·refine Ev.ite_neg hc1 (hj1f (fun h => hc1 (by have := h.1; clear hw; omega)))
theorem cat_ev (a : List ByteArray) (hal : a.length ≤ 100000) (has : ∀ x ∈ a, x.size ≤ 1000000000000) : Ev (fun n => pack_Cat.f n a b k) (setT (a.flatMap (rowOf (mx k 0).toNat b))) := by
 unfold pack_Cat.f
 have h := cat_l0 b k hk hb hbs a hal has a.length 0 [] (by omega) (by
  have : a.length * b.length ≤ 100000 * 1000000 := Nat.mul_le_mul hal hb
  simp; omega)
 simpa using h
end
theorem mem_row (K : Nat) (a b : List ByteArray) (t : Txt) : t ∈ keysOf (a.flatMap (rowOf K b)) ↔ ∃ x ∈ a, ∃ y ∈ b, t = (x.data.toList ++ y.data.toList).take K := by
 unfold keysOf pack_set_string.keys
 simp only [List.mem_map, List.mem_flatMap]
 constructor
 ·rintro ⟨z, ⟨x, hx, hz⟩, rfl⟩
  refine ⟨x, hx, ?_⟩
  unfold rowOf at hz
  split at hz
  ·rename_i hc
   obtain ⟨y, hy⟩ := List.exists_mem_of_length_pos hc.2
   refine ⟨y, hy, ?_⟩
   rw [List.mem_singleton.1 hz, extract_list]
   simp only [List.drop_zero]
   rw [List.take_append_of_le_length (by have := size_list x; omega)]
  ·obtain ⟨y, hy, rfl⟩ := List.mem_map.1 hz
   exact ⟨y, hy, rfl⟩
 ·rintro ⟨x, hx, y, hy, rfl⟩
  unfold rowOf
  by_cases hc : K ≤ x.size ∧ 0 < b.length
  ·refine ⟨x.extract 0 K, ⟨x, hx, by rw [if_pos hc]; simp⟩, ?_⟩
   rw [extract_list]
   simp only [List.drop_zero]
   rw [List.take_append_of_le_length (by have := size_list x; omega)]
  ·exact ⟨tc K x y, ⟨x, hx, by rw [if_neg hc]; exact List.mem_map.2 ⟨y, hy, rfl⟩⟩, rfl⟩
theorem mem_keys {l : List ByteArray} {x : ByteArray} : x.data.toList ∈ keysOf l ↔ x ∈ l := by
 unfold keysOf pack_set_string.keys
 rw [List.mem_map]
 constructor
 ·rintro ⟨y, hy, e⟩
  rw [← ext_list e]; exact hy
 ·exact fun h => ⟨x, h, rfl⟩
theorem mem_setT {l : List ByteArray} {x : ByteArray} : x ∈ setT l ↔ x ∈ l := by
 rw [← mem_keys, keys_setT, (tset_rises _).2, mem_keys]
theorem setT_congr {a b : List ByteArray} (h : ∀ x, x ∈ a ↔ x ∈ b) : setT a = setT b := by
 unfold setT
 rw [tset_congr (a := keysOf a) (b := keysOf b) fun t => ?_]
 unfold keysOf pack_set_string.keys
 simp only [List.mem_map, h]
instance memDec (x : ByteArray) (l : List ByteArray) : Decidable (x ∈ l) := decidable_of_iff (∃ y ∈ l, y = x) ⟨fun ⟨_, h, e⟩ => e ▸ h, fun h => ⟨x, h, rfl⟩⟩
theorem key_inj {a b : ByteArray} : a.toList = b.toList ↔ a = b := by
 rw [Lib.toList_data, Lib.toList_data]
 exact ⟨ext_list, fun h => h ▸ rfl⟩
theorem same_dec (a b : List ByteArray) (hl : a.length ≤ 1000000000000) : Ev (fun k => gramaryebase_SameTexts.f k a b) (decide (a = b)) := by
 unfold gramaryebase_SameTexts.f
 by_cases hab : a.length = b.length
 ·refine Ev.ite_pos (by omega) ?_
  have : ∀ (d i : Nat), i + d = a.length → Ev (fun k => gramaryebase_SameTexts.l0 k a b i) (decide (a.drop i = b.drop i)) := by
   intro d
   induction d with
   | zero =>
    intro i hi
    rw [List.drop_of_length_le (by omega), List.drop_of_length_le (by omega)]
    exact Ev.step (fun k => by rw [gramaryebase_SameTexts.l0, if_neg (by omega)]; rfl) (Ev.now _)
   | succ d ih =>
    intro i hi
    have h1 : i < a.length := by omega
    have h2 : i < b.length := by omega
    have hw : wrap64 ((i : Int) + 1) = ((i + 1 : Nat) : Int) := by rw [wrap_id (by omega)]; rfl
    refine Ev.step (fun k => by rw [gramaryebase_SameTexts.l0, if_pos (by clear hw; omega), if_pos (by clear hw; omega), if_pos (by clear hw; omega), rd_nat h1, rd_nat h2, hw]) ?_
    rw [List.drop_eq_getElem_cons h1, List.drop_eq_getElem_cons h2]
    by_cases e : a[i] = b[i]
    ·refine Ev.ite_pos (key_inj.2 e) ?_
     rw [show decide (a[i] :: a.drop (i + 1) = b[i] :: b.drop (i + 1)) = decide (a.drop (i + 1) = b.drop (i + 1)) from decide_eq_decide.2 (by rw [List.cons.injEq]; exact ⟨fun h => h.2, fun h => ⟨e, h⟩⟩)]
     exact ih (i + 1) (by clear hw; omega)
    ·refine Ev.ite_neg (fun h => e (key_inj.1 h)) ?_
     rw [decide_eq_false (by rw [List.cons.injEq]; exact fun h => e h.1)]
     exact Ev.now _
  have h := this a.length 0 (by omega)
  rw [List.drop_zero, List.drop_zero] at h
  exact h
 ·rw [decide_eq_false (fun h => hab (by rw [h]))]
  exact Ev.ite_neg (by omega) (Ev.now _)
theorem setT_nil : setT [] = [] := by unfold setT; rw [show keysOf [] = [] from rfl, tset_of_rises rises_nil]; rfl
abbrev Sets := List (List ByteArray)
def setP (l : List ByteArray) : List ByteArray := txts (putAll [] (keysOf l))
theorem setP_eq (l : List ByteArray) : setP l = setT l := congrArg txts (putAll_nil _)
abbrev CatF := List ByteArray → List ByteArray → List ByteArray
def rowG (C : CatF) (M : Nat) (sets : Sets) : List Sym → List ByteArray → List ByteArray × Bool
 | [], out => (out, true)
 | s :: l, out => if M < (C out (if s.f0 = true then [strOfNums [s.f1 % 256]] else rd_L6 sets s.f1)).length then ([], false) else rowG C M sets l (C out (if s.f0 = true then [strOfNums [s.f1 % 256]] else rd_L6 sets s.f1))
def roundG (C : CatF) (M : Nat) : List Prod' → Sets → Bool → Sets × Bool × Bool
 | [], sets, more => (sets, more, true)
 | p :: ps, sets, more => if (rowG C M sets p.f1 [(⟨#[]⟩ : ByteArray)]).2 = false then (sets, false, false) else if M < (setP (rd_L6 sets p.f0 ++ (rowG C M sets p.f1 [(⟨#[]⟩ : ByteArray)]).1)).length then (sets, false, false) else roundG C M ps (sets.set p.f0.toNat (setP (rd_L6 sets p.f0 ++ (rowG C M sets p.f1 [(⟨#[]⟩ : ByteArray)]).1))) (more || decide ((rd_L6 sets p.f0).length < (setP (rd_L6 sets p.f0 ++ (rowG C M sets p.f1 [(⟨#[]⟩ : ByteArray)]).1)).length))
def loopG (C : CatF) (M : Nat) (ps : List Prod') : Nat → Sets → Option Sets
 | 0, _ => none
 | m + 1, sets => if (roundG C M ps sets false).2.2 = false then none else if (roundG C M ps sets false).2.1 = false then some (roundG C M ps sets false).1 else loopG C M ps m (roundG C M ps sets false).1
def GoodM (M : Nat) (a : List ByteArray) : Prop := a.length ≤ M ∧ ∀ x ∈ a, x.size ≤ 4
def GoodSM (M : Nat) (sets : Sets) : Prop := ∀ a ∈ sets, GoodM M a ∧ setT a = a
theorem rd_sets {sets : Sets} {i : Int} (h : 0 ≤ i ∧ i < sets.length) : rd_L6 sets i ∈ sets := by
 unfold rd_L6
 rw [List.getD_eq_getElem?_getD, List.getElem?_eq_getElem (by omega)]
 exact List.getElem_mem _
theorem strOfNums_size (n : Int) : (strOfNums [n]).size = 1 := rfl
theorem tok_good {M : Nat} (hM : 1 ≤ M) (n : Int) : GoodM M [strOfNums [n]] := ⟨by simpa using hM, fun x hx => by rw [List.mem_singleton.1 hx, strOfNums_size]; omega⟩
theorem empty_good {M : Nat} (hM : 1 ≤ M) : GoodM M [(⟨#[]⟩ : ByteArray)] := ⟨by simpa using hM, fun x hx => by rw [List.mem_singleton.1 hx]; decide⟩
theorem sym_good {M : Nat} (hM : 1 ≤ M) {toks : Int} {sets : Sets} (hS : GoodSM M sets) {s : Sym} (hs : symBad toks sets.length s = false) : GoodM M (if s.f0 = true then [strOfNums [s.f1 % 256]] else rd_L6 sets s.f1) ∧ (s.f0 = false → 0 ≤ s.f1 ∧ s.f1 < sets.length) := by
 unfold symBad at hs
 cases h : s.f0
 ·rw [h] at hs
  have h2 : 0 ≤ s.f1 ∧ s.f1 < sets.length := by simpa using hs
  exact ⟨(hS _ (rd_sets h2)).1, fun _ => h2⟩
 ·exact ⟨tok_good hM _, fun h => by cases h⟩
theorem rowG_good {C : CatF} {M : Nat} (hC : ∀ a b, ∀ x ∈ C a b, x.size ≤ 4) (sets : Sets) : ∀ (l : List Sym) (out : List ByteArray), GoodM M out → GoodM M (rowG C M sets l out).1 := by
 intro l
 induction l with
 | nil => intro out h; exact h
 | cons s l ih =>
  intro out h
  unfold rowG
  by_cases h6 : M < (C out (if s.f0 = true then [strOfNums [s.f1 % 256]] else rd_L6 sets s.f1)).length
  ·rw [if_pos h6]; exact ⟨Nat.zero_le _, fun x hx => nomatch hx⟩
  ·rw [if_neg h6]; exact ih _ ⟨Nat.not_lt.1 h6, hC _ _⟩
theorem setT_idem (l : List ByteArray) : setT (setT l) = setT l := setT_congr fun x => mem_setT
theorem setT_inj {a b : List ByteArray} (ha : setT a = a) (hb : setT b = b) (hs : ∀ x ∈ a, x ∈ b) (hl : b.length ≤ a.length) : a = b := by
 have hra : Rises (keysOf a) := by rw [← ha, keys_setT]; exact (tset_rises _).1
 have hrb : Rises (keysOf b) := by rw [← hb, keys_setT]; exact (tset_rises _).1
 have hk : keysOf a = keysOf b := by
  refine rises_eq hra hrb fun x => ⟨fun hx => ?_, fun hx => ?_⟩
  ·obtain ⟨y, hy, rfl⟩ := List.mem_map.1 hx
   exact mem_keys.2 (hs y hy)
  ·refine Classical.byContradiction fun hn => ?_
   have h : (x :: keysOf a).length ≤ (keysOf b).length := short_of_subset _ _ (List.pairwise_cons.2 ⟨fun y hy e => hn (e ▸ hy), hra.imp fun h => (txt_lt_iff _ _).1 h |>.2⟩) (fun y hy => by
    rcases List.mem_cons.1 hy with e | h
    ·exact e ▸ hx
    ·obtain ⟨z, hz, rfl⟩ := List.mem_map.1 h
     exact mem_keys.2 (hs z hz))
   rw [List.length_cons, keys_length, keys_length] at h
   omega
 rw [← txts_keys a, hk, txts_keys]
def total (sets : Sets) : Nat := (sets.map List.length).sum
theorem total_le {M : Nat} : ∀ {sets : Sets}, GoodSM M sets → total sets ≤ M * sets.length := by
 intro sets
 induction sets with
 | nil => intro _; exact Nat.le_refl _
 | cons a sets ih =>
  intro h
  have h1 := (h a List.mem_cons_self).1.1
  have h2 := ih fun x hx => h x (List.mem_cons_of_mem _ hx)
  unfold total at h2 ⊢
  rw [List.map_cons, List.sum_cons, List.length_cons, Nat.mul_succ]
  omega
theorem total_set : ∀ (sets : Sets) (i : Nat) (h : i < sets.length) (j : List ByteArray), total (sets.set i j) + (sets[i]).length = total sets + j.length := by
 intro sets
 induction sets with
 | nil => intro i h; simp at h
 | cons a sets ih =>
  intro i h j
  cases i with
  | zero =>
   unfold total
   simp only [List.set_cons_zero, List.map_cons, List.sum_cons, List.getElem_cons_zero]
   omega
  | succ i =>
   have := ih i (by simpa using h) j
   unfold total at this ⊢
   simp only [List.set_cons_succ, List.map_cons, List.sum_cons, List.getElem_cons_succ]
   omega
theorem rd_at {sets : Sets} {i : Int} (h : 0 ≤ i ∧ i < sets.length) : rd_L6 sets i = sets[i.toNat]'(by omega) := by
 unfold rd_L6
 rw [List.getD_eq_getElem?_getD, List.getElem?_eq_getElem (by omega)]
 rfl
theorem goodS_set {M : Nat} {sets : Sets} (hS : GoodSM M sets) (i : Nat) {j : List ByteArray} (hj : GoodM M j) (hf : setT j = j) : GoodSM M (sets.set i j) := by
 intro a ha
 rcases List.mem_or_eq_of_mem_set ha with h | h
 ·exact hS a h
 ·exact h ▸ ⟨hj, hf⟩
theorem prod_bad {toks : Int} {n : Nat} {p : Prod'} (h : prodBad toks n p = false) : (0 ≤ p.f0 ∧ p.f0 < n) ∧ p.f1.any (symBad toks n) = false := by
 unfold prodBad at h
 rw [Bool.or_eq_false_iff] at h
 exact ⟨by simpa using h.1, h.2⟩
theorem join_good {M : Nat} {sets : Sets} {i : Int} (hS : GoodSM M sets) (h : 0 ≤ i ∧ i < sets.length) {x : List ByteArray} (hx : GoodM M x) (hl : (setP (rd_L6 sets i ++ x)).length ≤ M) : GoodM M (setP (rd_L6 sets i ++ x)) ∧ setT (setP (rd_L6 sets i ++ x)) = setP (rd_L6 sets i ++ x) := by
 refine ⟨⟨hl, fun y hy => ?_⟩, by rw [setP_eq, setT_idem]⟩
 rw [setP_eq, mem_setT, List.mem_append] at hy
 rcases hy with hy | hy
 ·exact (hS _ (rd_sets h)).1.2 y hy
 ·exact hx.2 y hy
theorem join_grows {M : Nat} {sets : Sets} {i : Int} (hS : GoodSM M sets) (h : 0 ≤ i ∧ i < sets.length) (x : List ByteArray) : (rd_L6 sets i).length ≤ (setP (rd_L6 sets i ++ x)).length ∧ ((setP (rd_L6 sets i ++ x)).length ≤ (rd_L6 sets i).length → rd_L6 sets i = setP (rd_L6 sets i ++ x)) := by
 have hf := (hS _ (rd_sets h)).2
 have hsub : ∀ y ∈ rd_L6 sets i, y ∈ setP (rd_L6 sets i ++ x) := fun y hy => by
  rw [setP_eq, mem_setT]; exact List.mem_append_left _ hy
 refine ⟨?_, fun hl => setT_inj hf (by rw [setP_eq, setT_idem]) hsub hl⟩
 have hr : Rises (keysOf (rd_L6 sets i)) := by rw [← hf, keys_setT]; exact (tset_rises _).1
 have hh := rises_short hr (b := keysOf (setP (rd_L6 sets i ++ x))) fun y hy => by
  obtain ⟨z, hz, rfl⟩ := List.mem_map.1 hy
  exact mem_keys.2 (hsub z hz)
 rwa [keys_length, keys_length] at hh
theorem roundG_spec {C : CatF} {M : Nat} (hC : ∀ a b, ∀ x ∈ C a b, x.size ≤ 4) (hM : 1 ≤ M) {toks : Int} {n : Nat} : ∀ (ps : List Prod') (sets : Sets) (more : Bool), GoodSM M sets → sets.length = n → ps.any (prodBad toks n) = false →
  GoodSM M (roundG C M ps sets more).1 ∧ (roundG C M ps sets more).1.length = n ∧ total sets ≤ total (roundG C M ps sets more).1 ∧ (more = false → (roundG C M ps sets more).2.1 = true → total sets < total (roundG C M ps sets more).1) := by
 intro ps
 induction ps with
 | nil => intro sets more hS hn _; exact ⟨hS, hn, Nat.le_refl _, fun h1 h2 => by rw [show (roundG C M [] sets more).2.1 = more from rfl, h1] at h2; cases h2⟩
 | cons p ps ih =>
  intro sets more hS hn hb
  rw [List.any_cons, Bool.or_eq_false_iff] at hb
  obtain ⟨hp, hr⟩ := prod_bad hb.1
  rw [← hn] at hp
  unfold roundG
  have hx := rowG_good hC sets p.f1 _ (empty_good hM)
  generalize (rowG C M sets p.f1 [(⟨#[]⟩ : ByteArray)]) = x at hx ⊢
  by_cases h1 : x.2 = false
  ·rw [if_pos h1]; exact ⟨hS, hn, Nat.le_refl _, fun _ h2 => by cases h2⟩
  rw [if_neg h1]
  by_cases h2 : M < (setP (rd_L6 sets p.f0 ++ x.1)).length
  ·rw [if_pos h2]; exact ⟨hS, hn, Nat.le_refl _, fun _ h2 => by cases h2⟩
  rw [if_neg h2]
  obtain ⟨hj, hf⟩ := join_good hS hp hx (Nat.not_lt.1 h2)
  obtain ⟨hg, -⟩ := join_grows hS hp x.1
  have ht := total_set sets p.f0.toNat (by omega) (setP (rd_L6 sets p.f0 ++ x.1))
  rw [← rd_at hp] at ht
  obtain ⟨i1, i2, i3, i4⟩ := ih (sets.set p.f0.toNat (setP (rd_L6 sets p.f0 ++ x.1))) (more || decide ((rd_L6 sets p.f0).length < (setP (rd_L6 sets p.f0 ++ x.1)).length)) (goodS_set hS _ hj hf) (by rw [List.length_set]; exact hn) hb.2
  refine ⟨i1, i2, by omega, fun hm hm2 => ?_⟩
  by_cases h3 : (rd_L6 sets p.f0).length < (setP (rd_L6 sets p.f0 ++ x.1)).length
  ·omega
  ·have := i4 (by rw [hm, decide_eq_false h3]; rfl) hm2
   omega
set_option linter.unusedSectionVars false
section
variable {C : CatF} {M : Nat} (hC : ∀ a b, ∀ x ∈ C a b, x.size ≤ 4) (hM : 1 ≤ M) (cat : Nat → List ByteArray → List ByteArray → Option (List ByteArray)) (hcat : ∀ a b, GoodM M a → GoodM M b → Ev (fun k => cat k a b) (C a b)) (hM2 : M ≤ 1000000) (toks : Int) (of : List Int)
include hC hM hcat hM2
theorem row_ev {sets : Sets} (hS : GoodSM M sets) : ∀ (l : List Sym) (out : List ByteArray), GoodM M out → l.any (symBad toks sets.length) = false →
  Ev (fun k => first_Of.row (cat k) sets (M : Int) l out) (rowG C M sets l out) := by
 intro l
 induction l with
 | nil => intro out _ _; exact Ev.now _
 | cons s l ih =>
  intro out ho hb
  rw [List.any_cons, Bool.or_eq_false_iff] at hb
  obtain ⟨hg, hn⟩ := sym_good hM hS hb.1
  have hc := hcat _ _ ho hg
  unfold rowG
  refine Ev.congr (fun k => by rw [first_Of.row]) (Ev.bind0 (a := if s.f0 = true then [strOfNums [s.f1 % 256]] else rd_L6 sets s.f1) ?_ (Ev.bind hc ?_))
  ·cases h : s.f0
   ·rw [if_neg Bool.false_ne_true, if_neg Bool.false_ne_true, if_pos (hn h)]
   ·rw [if_pos rfl, if_pos rfl]; rfl
  ·by_cases h : M < (C out (if s.f0 = true then [strOfNums [s.f1 % 256]] else rd_L6 sets s.f1)).length
   ·rw [if_pos h]; exact Ev.ite_pos (by omega) (Ev.now _)
   ·rw [if_neg h]; exact Ev.ite_neg (by omega) (ih _ ⟨by omega, hC _ _⟩ hb.2)
theorem round_ev : ∀ (ps : List Prod') (sets : Sets) (more : Bool), GoodSM M sets → sets.length = of.length → ps.any (prodBad toks of.length) = false → (∀ p ∈ ps, p.f1.length ≤ 1000000) →
  Ev (fun k => first_Of.round (cat k) (M : Int) ps sets more) (roundG C M ps sets more) := by
 intro ps
 induction ps with
 | nil => intro sets more _ _ _ _; exact Ev.now _
 | cons p ps ih =>
  intro sets more hS hn hb hl
  rw [List.any_cons, Bool.or_eq_false_iff] at hb
  obtain ⟨hp, hr⟩ := prod_bad hb.1
  rw [← hn] at hp hr
  unfold roundG
  have hx := rowG_good hC sets p.f1 _ (empty_good hM)
  have hrow := row_ev hC hM cat hcat hM2 toks hS p.f1 _ (empty_good hM) hr
  generalize (rowG C M sets p.f1 [(⟨#[]⟩ : ByteArray)]) = x at hx hrow ⊢
  refine Ev.congr (fun k => by rw [first_Of.round]) (Ev.ite_pos (hl p List.mem_cons_self) (Ev.bind hrow ?_))
  by_cases h1 : x.2 = false
  ·rw [if_pos h1]; exact Ev.ite_pos h1 (Ev.now _)
  rw [if_neg h1]
  have hm := (hS _ (rd_sets hp)).1.1
  refine Ev.ite_neg h1 (Ev.ite_pos hp (Ev.bind0 (join_some _ _ (by omega) (by have := hx.1; omega)) ?_))
  rw [← setP_eq]
  by_cases h2 : M < (setP (rd_L6 sets p.f0 ++ x.1)).length
  ·rw [if_pos h2]; exact Ev.ite_pos (by omega) (Ev.now _)
  rw [if_neg h2]
  obtain ⟨hj, hf⟩ := join_good hS hp hx (Nat.not_lt.1 h2)
  have hi := ih (sets.set p.f0.toNat (setP (rd_L6 sets p.f0 ++ x.1))) (more || decide ((rd_L6 sets p.f0).length < (setP (rd_L6 sets p.f0 ++ x.1)).length)) (goodS_set hS _ hj hf) (by rw [List.length_set]; exact hn) hb.2 (fun q hq => hl q (List.mem_cons_of_mem _ hq))
  refine Ev.ite_neg (by omega) ?_
  rw [show decide ((((setP (rd_L6 sets p.f0 ++ x.1)).length : Nat) : Int) > ((rd_L6 sets p.f0).length : Int)) = decide ((rd_L6 sets p.f0).length < (setP (rd_L6 sets p.f0 ++ x.1)).length) from decide_eq_decide.2 (by omega)]
  exact hi
theorem loop_ev (L : List Prod') (hb : L.any (prodBad toks of.length) = false) (hl : ∀ p ∈ L, p.f1.length ≤ 1000000) : ∀ (m : Nat) (sets : Sets), GoodSM M sets → sets.length = of.length → M * of.length - total sets < m →
  (∃ N, ∀ k, N ≤ k → ∀ q, N ≤ q → first_Of.loop (cat k) (M : Int) L q sets = some (loopG C M L m sets)) ∧
  ∀ s, loopG C M L m sets = some s → GoodSM M s ∧ s.length = of.length := by
 intro m
 induction m with
 | zero => intro sets _ _ h; omega
 | succ m ih =>
  intro sets hS hn hm
  obtain ⟨g1, g2, g3, g4⟩ := roundG_spec hC hM L sets false hS hn hb
  obtain ⟨N, hN⟩ := round_ev hC hM cat hcat hM2 toks of L sets false hS hn hb hl
  replace hN : ∀ k, N ≤ k → first_Of.round (cat k) (M : Int) L sets false = some (roundG C M L sets false) := hN
  unfold loopG
  generalize roundG C M L sets false = x at g1 g2 g3 g4 hN ⊢
  by_cases h1 : x.2.2 = false
  ·rw [if_pos h1]
   refine ⟨⟨N + 1, fun k hk q hq => ?_⟩, fun s h => by cases h⟩
   obtain ⟨q, rfl⟩ : ∃ q', q = q' + 1 := ⟨q - 1, by omega⟩
   rw [first_Of.loop, hN k (by omega), Option.bind_some, if_pos h1]
  rw [if_neg h1]
  by_cases h2 : x.2.1 = false
  ·rw [if_pos h2]
   refine ⟨⟨N + 1, fun k hk q hq => ?_⟩, fun s h => by cases h; exact ⟨g1, g2⟩⟩
   obtain ⟨q, rfl⟩ : ∃ q', q = q' + 1 := ⟨q - 1, by omega⟩
   rw [first_Of.loop, hN k (by omega), Option.bind_some, if_neg h1, if_pos h2]
  rw [if_neg h2]
  have g5 := g4 rfl (by simpa using h2)
  have g6 := total_le g1
  rw [g2] at g6
  obtain ⟨⟨M', hM'⟩, i3⟩ := ih x.1 g1 g2 (by omega)
  refine ⟨⟨N + M' + 1, fun k hk q hq => ?_⟩, i3⟩
  obtain ⟨q, rfl⟩ : ∃ q', q = q' + 1 := ⟨q - 1, by omega⟩
  rw [first_Of.loop, hN k (by omega), Option.bind_some, if_neg h1, if_neg h2]
  exact hM' k (by omega) q (by omega)
end
theorem mayE_zero {toks look : Int} {n : Nat} {L : List Prod'} (h : mayE toks look n L = 0) : (1 ≤ n ∧ n ≤ 500) ∧ (1 ≤ L.length ∧ L.length ≤ 2000) ∧ (1 ≤ look ∧ look ≤ 4) ∧ L.any (prodBad toks n) = false := by
 unfold mayE at h
 by_cases h1 : toks < 1 ∨ 60 < toks ∨ n < 1 ∨ 500 < n ∨ L.length < 1 ∨ 2000 < L.length ∨ (L.any fun p => decide (500 < p.f1.length)) = true
 ·rw [if_pos h1] at h; cases h
 rw [if_neg h1] at h
 by_cases h2 : look < 1 ∨ 4 < look
 ·rw [if_pos h2] at h; cases h
 rw [if_neg h2] at h
 by_cases h3 : L.any (prodBad toks n) = true
 ·rw [if_pos h3] at h; cases h
 exact ⟨by omega, by omega, by omega, by simpa using h3⟩
def cutP (m : Nat) (p : Prod') : Prod' := ⟨p.f0, p.f1.take m⟩
theorem gfew_l0 (t l : Int) (of : List Int) : ∀ (L : List Prod') (hL : L.length ≤ 1000000000) (d i : Nat), i + d = L.length →
  Ev (fun k => gramaryelaw15_few.l0 k i t l of L) (t, l, of, L.take i ++ (L.drop i).map (cutP 4)) := by
 intro L hL d
 induction d generalizing L with
 | zero =>
  intro i hi
  rw [List.drop_of_length_le (by omega), List.take_of_length_le (by omega), List.map_nil, List.append_nil]
  exact Ev.step (fun k => by rw [gramaryelaw15_few.l0, if_neg (by omega)]) (Ev.now _)
 | succ d ih =>
  intro i hi
  have hlt : i < L.length := by omega
  have hw : wrap64 ((i : Int) + 1) = ((i + 1 : Nat) : Int) := by rw [wrap_id (by omega)]; rfl
  have hm : 0 ≤ mn (L[i].f1.length : Int) 4 ∧ mn (L[i].f1.length : Int) 4 ≤ L[i].f1.length ∧ L[i].f1.take (mn (L[i].f1.length : Int) 4).toNat = L[i].f1.take 4 := by
   unfold mn
   split
   ·exact ⟨by clear hw; omega, by clear hw; omega, rfl⟩
   ·refine ⟨by clear hw; omega, by clear hw; omega, ?_⟩
    rw [Int.toNat_natCast, List.take_length, List.take_of_length_le (by clear hw; omega)]
  have h := ih (L.set i (cutP 4 L[i])) (by rw [List.length_set]; exact hL) (i + 1) (by rw [List.length_set]; clear hw; omega)
  have e : (L.set i (cutP 4 L[i])).take (i + 1) ++ ((L.set i (cutP 4 L[i])).drop (i + 1)).map (cutP 4) = L.take i ++ (L.drop i).map (cutP 4) := by
   rw [List.drop_set_of_lt (by omega), List.take_succ_eq_append_getElem (by rw [List.length_set]; exact hlt), List.getElem_set_self, List.take_set_of_le (Nat.le_refl _), List.append_assoc, List.drop_eq_getElem_cons hlt]
   rfl
  rw [e] at h
  refine Ev.step (fun k => by rw [gramaryelaw15_few.l0, if_pos (by clear hw; omega), if_pos (by clear hw; omega), rdP hlt, if_pos hm.1, if_pos hm.2.1, hm.2.2, hw]; rfl) h
theorem Few_l0 (t l t' l' : Int) (of of' : List Int) (L : List Prod') (m : Nat) (hm : m ≤ 1000) : ∀ (d i : Nat), m - i = d → i ≤ m →
  Ev (fun k => gramaryeref09_Few.l0 k m i t l of L t' l' of' ((L.take i).map (cutP 8))) (t', l', of', (L.take m).map (cutP 8)) := by
 intro d
 induction d with
 | zero =>
  intro i hi hi2
  rw [show i = m by omega]
  by_cases hlt : m < L.length
  ·exact Ev.step (fun k => by rw [gramaryeref09_Few.l0, if_pos (by omega), if_neg (by omega)]) (Ev.now _)
  ·exact Ev.step (fun k => by rw [gramaryeref09_Few.l0, if_neg (by omega)]) (Ev.now _)
 | succ d ih =>
  intro i hi hi2
  by_cases hlt : i < L.length
  ·have hw : wrap64 ((i : Int) + 1) = ((i + 1 : Nat) : Int) := by rw [wrap_id (by omega)]; rfl
   have hm : 0 ≤ mn (L[i].f1.length : Int) 8 ∧ mn (L[i].f1.length : Int) 8 ≤ L[i].f1.length ∧ L[i].f1.take (mn (L[i].f1.length : Int) 8).toNat = L[i].f1.take 8 := by
    unfold mn
    split
    ·exact ⟨by clear hw; omega, by clear hw; omega, rfl⟩
    ·refine ⟨by clear hw; omega, by clear hw; omega, ?_⟩
     rw [Int.toNat_natCast, List.take_length, List.take_of_length_le (by clear hw; omega)]
   have h := ih (i + 1) (by clear hw; omega) (by clear hw; omega)
   rw [List.take_succ_eq_append_getElem hlt, List.map_append] at h
   refine Ev.step (fun k => by rw [gramaryeref09_Few.l0, if_pos (by clear hw; omega), if_pos (by clear hw; omega), if_pos (by clear hw; omega), rdP hlt, Option.bind_some, if_pos hm.1, if_pos hm.2.1, hm.2.2, Option.bind_some, if_pos (by simp; clear hw; omega), if_pos (by simp; clear hw; omega), hw]; rfl) h
  ·rw [List.take_of_length_le (by omega), List.take_of_length_le (by omega)]
   exact Ev.step (fun k => by rw [gramaryeref09_Few.l0, if_neg (by omega)]) (Ev.now _)
def fewL (L : List Prod') : List Prod' := (L.take 14).map (cutP 4)
theorem take_mn {α : Type} (l : List α) (n : Nat) : (0 ≤ mn (l.length : Int) n ∧ mn (l.length : Int) n ≤ l.length) ∧ l.take (mn (l.length : Int) n).toNat = l.take n := by
 unfold mn
 split
 ·exact ⟨⟨by omega, by omega⟩, rfl⟩
 ·refine ⟨⟨by omega, by omega⟩, ?_⟩
  rw [Int.toNat_natCast, List.take_length, List.take_of_length_le (by omega)]
theorem gfew_ev (t l : Int) (of : List Int) (L : List Prod') : Ev (fun k => gramaryelaw15_few.f k t l of L) (t, l, of.take 8, fewL L) := by
 have h1 := Few_l0 t l t l of (of.take 8) L 14 (by omega) 14 0 rfl (by omega)
 have h2 := gfew_l0 t l (of.take 8) ((L.take 14).map (cutP 8)) (by simp; omega) _ 0 (Nat.zero_add _)
 rw [List.take_zero, List.drop_zero, List.nil_append, List.map_map] at h2
 rw [show cutP 4 ∘ cutP 8 = cutP 4 from funext fun p => by unfold cutP; simp [List.take_take]] at h2
 obtain ⟨hm, he⟩ := take_mn of 8
 unfold gramaryelaw15_few.f gramaryeref09_Few.f gramaryebase_Ints.f
 refine Ev.bind (Ev.ite_pos hm.1 (Ev.ite_pos hm.2 (Ev.bind0 (a := of.take 8) ?_ h1))) h2
 erw [he]
 rw [Option.bind_some, if_pos (by simp; omega)]
 rfl
theorem fewL_le (L : List Prod') : (fewL L).length ≤ 14 ∧ ∀ p ∈ fewL L, p.f1.length ≤ 4 := by
 unfold fewL
 refine ⟨by simp; omega, fun p hp => ?_⟩
 obtain ⟨q, -, rfl⟩ := List.mem_map.1 hp
 unfold cutP
 simp; omega
def catA (K : Nat) (a b : List ByteArray) : List ByteArray := setP (a.flatMap fun x => b.map (tc K x))
theorem tc_le (K : Nat) (x y : ByteArray) : (tc K x y).size ≤ K := by
 rw [← size_list]
 unfold tc
 simp only [List.toList_toArray, List.length_take]
 omega
theorem mem_catA {K : Nat} {a b : List ByteArray} {z : ByteArray} : z ∈ catA K a b ↔ ∃ x ∈ a, ∃ y ∈ b, tc K x y = z := by
 unfold catA
 rw [setP_eq, mem_setT, List.mem_flatMap]
 constructor
 ·rintro ⟨x, hx, h⟩
  obtain ⟨y, hy, h⟩ := List.mem_map.1 h
  exact ⟨x, hx, y, hy, h⟩
 ·rintro ⟨x, hx, y, hy, h⟩
  exact ⟨x, hx, List.mem_map.2 ⟨y, hy, h⟩⟩
theorem catA_size {K : Nat} (hK : K ≤ 4) (a b : List ByteArray) : ∀ x ∈ catA K a b, x.size ≤ 4 := by
 intro x hx
 obtain ⟨y, hy, z, hz, rfl⟩ := mem_catA.1 hx
 exact Nat.le_trans (tc_le _ _ _) hK
theorem K_le {look : Int} (hlook : 1 ≤ look ∧ look ≤ 4) : (mx look 0).toNat ≤ 4 := by unfold mx; split <;> omega
theorem pcat_ev {look : Int} (hlook : 1 ≤ look ∧ look ≤ 4) (a b : List ByteArray) (ha : GoodM 600 a) (hb : GoodM 600 b) : Ev (fun k => pack_Cat.f k a b look) (catA (mx look 0).toNat a b) := by
 have h := cat_ev b look (by omega) (by have := hb.1; omega) (fun y hy => by have := hb.2 y hy; omega) a (by have := ha.1; omega) (fun x hx => by have := ha.2 x hx; omega)
 unfold catA
 rw [setP_eq, setT_congr (b := a.flatMap (rowOf (mx look 0).toNat b)) fun z => ?_]
 ·exact h
 ·rw [← mem_keys (l := a.flatMap (rowOf _ b)), mem_row]
  simp only [List.mem_flatMap, List.mem_map]
  constructor
  ·rintro ⟨x, hx, y, hy, rfl⟩; exact ⟨x, hx, y, hy, rfl⟩
  ·rintro ⟨x, hx, y, hy, h⟩; exact ⟨x, hx, y, hy, (ext_list h).symm⟩
def ofA (toks look : Int) (n : Nat) (L : List Prod') : Sets × Int :=
 if mayE toks look n L = 0 then (match loopG (catA (mx look 0).toNat) 600 L (600 * n + 1) (List.replicate n []) with | none => ([], 15) | some s => (s, 0)) else ([], mayE toks look n L)
theorem empties_good (M n : Nat) : GoodSM M (List.replicate n []) := by
 intro a ha
 rw [(List.mem_replicate.1 ha).2]
 exact ⟨⟨Nat.zero_le _, fun x hx => nomatch hx⟩, setT_nil⟩
theorem of_loop (toks : Int) {look : Int} (h3 : 1 ≤ look ∧ look ≤ 4) (of : List Int) (L : List Prod') (h4 : L.any (prodBad toks of.length) = false) (hl : ∀ p ∈ L, p.f1.length ≤ 1000000) :
  (∃ N, ∀ k, N ≤ k → ∀ q, N ≤ q → first_Of.loop (fun a b => pack_Cat.f k a b look) 600 L q (List.replicate of.length []) = some (loopG (catA (mx look 0).toNat) 600 L (600 * of.length + 1) (List.replicate of.length []))) ∧
  ∀ s, loopG (catA (mx look 0).toNat) 600 L (600 * of.length + 1) (List.replicate of.length []) = some s → GoodSM 600 s ∧ s.length = of.length :=
 loop_ev (C := catA (mx look 0).toNat) (M := 600) (catA_size (K_le h3)) (by omega) (fun k a b => pack_Cat.f k a b look) (fun a b => pcat_ev h3 a b) (by omega) toks of L h4 hl (600 * of.length + 1) (List.replicate of.length []) (empties_good _ _) (List.length_replicate ..) (by omega)
theorem of_ev (toks look : Int) (of : List Int) (L : List Prod') (hl : ∀ p ∈ L, p.f1.length ≤ 1000000) (hL : L.length ≤ 1000000) : Ev (fun k => first_Of.f k toks look of L) (ofA toks look of.length L) := by
 unfold first_Of.f first_Of.grow ofA
 refine Ev.bind (may_ev toks look of L (by omega) (fun p hp => by have := hl p hp; omega)) ?_
 by_cases h0 : mayE toks look of.length L = 0
 ·obtain ⟨h1, h2, h3, h4⟩ := mayE_zero h0
  rw [if_pos h0]
  obtain ⟨⟨N, hN⟩, -⟩ := of_loop toks h3 of L h4 hl
  refine Ev.ite_pos h0 (Ev.ite_pos ⟨by omega, by omega, by omega⟩ (Ev.bind (a := loopG (catA (mx look 0).toNat) 600 L (600 * of.length + 1) (List.replicate of.length [])) ⟨N, fun k hk => hN k hk k hk⟩ ?_))
  cases loopG (catA (mx look 0).toNat) 600 L (600 * of.length + 1) (List.replicate of.length []) with
  | none => exact Ev.now _
  | some s => exact Ev.now _
 ·rw [if_neg h0]
  exact Ev.ite_neg h0 (Ev.now _)
def symS (sets : Sets) (s : Sym) : List ByteArray := if s.f0 = true then [strOfNums [s.f1 % 256]] else rd_L6 sets s.f1
theorem roundG_more {C : CatF} {M : Nat} : ∀ (ps : List Prod') (sets : Sets), (roundG C M ps sets true).2.2 = true → (roundG C M ps sets true).2.1 = true := by
 intro ps
 induction ps with
 | nil => intro sets _; rfl
 | cons p ps ih =>
  intro sets h
  unfold roundG at h ⊢
  generalize (rowG C M sets p.f1 [(⟨#[]⟩ : ByteArray)]) = x at h ⊢
  by_cases h1 : x.2 = false
  ·rw [if_pos h1] at h; cases h
  rw [if_neg h1] at h ⊢
  by_cases h2 : M < (setP (rd_L6 sets p.f0 ++ x.1)).length
  ·rw [if_pos h2] at h; cases h
  rw [if_neg h2] at h ⊢
  rw [Bool.true_or] at h ⊢
  exact ih _ h
def Fix (C : CatF) (M : Nat) (L : List Prod') (S : Sets) : Prop := ∀ p ∈ L, (rowG C M S p.f1 [(⟨#[]⟩ : ByteArray)]).2 = true ∧ ∀ x ∈ (rowG C M S p.f1 [(⟨#[]⟩ : ByteArray)]).1, x ∈ rd_L6 S p.f0
theorem roundG_fix {C : CatF} {M : Nat} {toks : Int} {n : Nat} : ∀ (ps : List Prod') (S : Sets), GoodSM M S → S.length = n → ps.any (prodBad toks n) = false → (roundG C M ps S false).2.2 = true → (roundG C M ps S false).2.1 = false → (roundG C M ps S false).1 = S ∧ Fix C M ps S := by
 intro ps
 induction ps with
 | nil => intro S _ _ _ _ _; exact ⟨rfl, fun p hp => nomatch hp⟩
 | cons p ps ih =>
  intro S hS hn hb h3 h4
  rw [List.any_cons, Bool.or_eq_false_iff] at hb
  obtain ⟨hp, -⟩ := prod_bad hb.1
  rw [← hn] at hp
  unfold roundG at h3 h4 ⊢
  have e : rowG C M S p.f1 [(⟨#[]⟩ : ByteArray)] = rowG C M S p.f1 [(⟨#[]⟩ : ByteArray)] := rfl
  generalize hx : (rowG C M S p.f1 [(⟨#[]⟩ : ByteArray)]) = x at h3 h4 ⊢
  by_cases h1 : x.2 = false
  ·rw [if_pos h1] at h3; cases h3
  rw [if_neg h1] at h3 h4 ⊢
  by_cases h2 : M < (setP (rd_L6 S p.f0 ++ x.1)).length
  ·rw [if_pos h2] at h3; cases h3
  rw [if_neg h2] at h3 h4 ⊢
  obtain ⟨-, hg⟩ := join_grows hS hp x.1
  by_cases c : (rd_L6 S p.f0).length < (setP (rd_L6 S p.f0 ++ x.1)).length
  ·rw [decide_eq_true c, Bool.or_true] at h3 h4
   rw [roundG_more _ _ h3] at h4; cases h4
  ·have he := hg (Nat.not_lt.1 c)
   have hse : S.set p.f0.toNat (setP (rd_L6 S p.f0 ++ x.1)) = S := by
    rw [← he, rd_at hp]
    exact List.set_getElem_self _
   rw [decide_eq_false c, Bool.or_false, hse] at h3 h4 ⊢
   obtain ⟨i1, i2⟩ := ih S hS hn hb.2 h3 h4
   refine ⟨i1, fun q hq => ?_⟩
   rcases List.mem_cons.1 hq with rfl | hq
   ·rw [hx]
    refine ⟨by simpa using h1, fun z hz => ?_⟩
    rw [he, setP_eq, mem_setT]
    exact List.mem_append_right _ hz
   ·exact i2 q hq
theorem loopG_fix {C : CatF} {M : Nat} (hC : ∀ a b, ∀ x ∈ C a b, x.size ≤ 4) (hM : 1 ≤ M) {toks : Int} {n : Nat} {L : List Prod'} (hb : L.any (prodBad toks n) = false) : ∀ (m : Nat) (S s : Sets), GoodSM M S → S.length = n → loopG C M L m S = some s → Fix C M L s ∧ GoodSM M s ∧ s.length = n := by
 intro m
 induction m with
 | zero => intro S s _ _ h; cases h
 | succ m ih =>
  intro S s hS hn h
  obtain ⟨g1, g2, -, -⟩ := roundG_spec hC hM L S false hS hn hb
  have hf := roundG_fix (C := C) L S hS hn hb
  unfold loopG at h
  generalize roundG C M L S false = x at h g1 g2 hf
  by_cases h1 : x.2.2 = false
  ·rw [if_pos h1] at h; cases h
  rw [if_neg h1] at h
  by_cases h2 : x.2.1 = false
  ·rw [if_pos h2] at h
   obtain ⟨e, hF⟩ := hf (by simpa using h1) h2
   obtain rfl := Option.some.inj h
   rw [e]
   exact ⟨hF, hS, hn⟩
  ·rw [if_neg h2] at h
   exact ih _ _ g1 g2 h
theorem rd_set {S : Sets} {p i : Int} (hp : 0 ≤ p ∧ p < S.length) (hi : 0 ≤ i ∧ i < S.length) (j : List ByteArray) : rd_L6 (S.set p.toNat j) i = if i = p then j else rd_L6 S i := by
 rw [rd_at (by rw [List.length_set]; exact hi), List.getElem_set]
 by_cases h : i = p
 ·rw [if_pos h, if_pos (by rw [h])]
 ·rw [if_neg h, if_neg (by omega), ← rd_at hi]
theorem flat_len {α β : Type} (l : List α) (f : α → List β) (m : Nat) (h : ∀ x, (f x).length ≤ m) : (l.flatMap f).length ≤ m * l.length := by
 induction l with
 | nil => simp
 | cons x l ih =>
  have := h x
  rw [List.flatMap_cons, List.length_append, List.length_cons, Nat.mul_succ]
  omega
abbrev Lk := S79
def linksP (K : Nat) (F : Sets) (left : Int) : List Sym → Option (List Lk)
 | [] => some []
 | s :: l => if s.f0 = true then linksP K F left l else if (rowG (catA K) 600 F l [(⟨#[]⟩ : ByteArray)]).2 = true then (linksP K F left l).map fun a => ⟨s.f1, left, (rowG (catA K) 600 F l [(⟨#[]⟩ : ByteArray)]).1⟩ :: a else none
def linksL (K : Nat) (F : Sets) : List Prod' → Option (List Lk)
 | [] => some []
 | p :: ps => (linksP K F p.f0 p.f1).bind fun a => (linksL K F ps).map fun b => a ++ b
def GoodL (n : Nat) (x : Lk) : Prop := (0 ≤ x.f0 ∧ x.f0 < (n : Int)) ∧ (0 ≤ x.f1 ∧ x.f1 < (n : Int)) ∧ GoodM 600 x.f2
theorem linksP_good {K : Nat} (hK : K ≤ 4) {F : Sets} {toks : Int} {n : Nat} {left : Int} (hleft : 0 ≤ left ∧ left < (n : Int)) : ∀ (l : List Sym), l.any (symBad toks n) = false → ∀ a, linksP K F left l = some a → (∀ x ∈ a, GoodL n x) ∧ a.length ≤ l.length := by
 intro l
 induction l with
 | nil => intro _ a h; obtain rfl := Option.some.inj h; exact ⟨fun x hx => (nomatch hx), Nat.le_refl _⟩
 | cons s l ih =>
  intro hb a h
  rw [List.any_cons, Bool.or_eq_false_iff] at hb
  unfold linksP at h
  by_cases h0 : s.f0 = true
  ·rw [if_pos h0] at h
   obtain ⟨i1, i2⟩ := ih hb.2 a h
   exact ⟨i1, by simp; omega⟩
  ·rw [if_neg h0] at h
   by_cases h1 : (rowG (catA K) 600 F l [(⟨#[]⟩ : ByteArray)]).2 = true
   ·rw [if_pos h1] at h
    obtain ⟨b, hb2, rfl⟩ := Option.map_eq_some_iff.1 h
    obtain ⟨i1, i2⟩ := ih hb.2 b hb2
    refine ⟨fun x hx => ?_, by simp; omega⟩
    rcases List.mem_cons.1 hx with rfl | hx
    ·have hs := hb.1
     unfold symBad at hs
     rw [if_neg h0] at hs
     exact ⟨by simpa using hs, hleft, rowG_good (M := 600) (catA_size hK) F l _ (empty_good (M := 600) (by omega))⟩
    ·exact i1 x hx
   ·rw [if_neg h1] at h; cases h
theorem linksL_good {K : Nat} (hK : K ≤ 4) {F : Sets} {toks : Int} {n B : Nat} : ∀ (L : List Prod'), L.any (prodBad toks n) = false → (∀ p ∈ L, p.f1.length ≤ B) → ∀ xs, linksL K F L = some xs → (∀ x ∈ xs, GoodL n x) ∧ xs.length ≤ B * L.length := by
 intro L
 induction L with
 | nil => intro _ _ xs h; obtain rfl := Option.some.inj h; exact ⟨fun x hx => (nomatch hx), Nat.zero_le _⟩
 | cons p ps ih =>
  intro hb hl xs h
  rw [List.any_cons, Bool.or_eq_false_iff] at hb
  obtain ⟨a, ha, h⟩ := Option.bind_eq_some_iff.1 h
  obtain ⟨b, hb2, rfl⟩ := Option.map_eq_some_iff.1 h
  obtain ⟨hp, hr⟩ := prod_bad hb.1
  obtain ⟨i1, i2⟩ := linksP_good hK hp p.f1 hr a ha
  obtain ⟨j1, j2⟩ := ih hb.2 (fun q hq => hl q (List.mem_cons_of_mem _ hq)) b hb2
  have := hl p List.mem_cons_self
  refine ⟨fun x hx => ?_, by rw [List.length_append, List.length_cons, Nat.mul_succ]; omega⟩
  rcases List.mem_append.1 hx with hx | hx
  ·exact i1 x hx
  ·exact j1 x hx
theorem any_drop {l : List Sym} {f : Sym → Bool} (h : l.any f = false) (i : Nat) : (l.drop i).any f = false := by
 cases hh : (l.drop i).any f
 ·rfl
 ·obtain ⟨x, hx, hf⟩ := List.any_eq_true.1 hh
  rw [List.any_eq_true.2 ⟨x, List.mem_of_mem_drop hx, hf⟩] at h; cases h
section
variable (toks look : Int) (hlook : 1 ≤ look ∧ look ≤ 4)
include hlook
theorem rower_ev {F : Sets} (hS : GoodSM 600 F) (l : List Sym) (hl : l.length ≤ 1000000000) (hb : l.any (symBad toks F.length) = false) : ∀ (d i : Nat) (out : List ByteArray), i + d = l.length → GoodM 600 out →
  Ev (fun k => follow_rower_row.l0 k out l l.length i look F) (rowG (catA (mx look 0).toNat) 600 F (l.drop i) out) := by
 intro d
 induction d with
 | zero =>
  intro i out hi _
  rw [List.drop_of_length_le (by omega)]
  exact Ev.step (fun k => by rw [follow_rower_row.l0, if_neg (by omega)]; rfl) (Ev.now _)
 | succ d ih =>
  intro i out hi ho
  have hlt : i < l.length := by omega
  have hw : wrap64 ((i : Int) + 1) = ((i + 1 : Nat) : Int) := by rw [wrap_id (by omega)]; rfl
  have hbs : symBad toks F.length l[i] = false := by
   cases hh : symBad toks F.length l[i]
   ·rfl
   ·rw [List.any_eq_true.2 ⟨l[i], List.getElem_mem _, hh⟩] at hb; cases hb
  obtain ⟨hg, hn⟩ := sym_good (M := 600) (by omega) hS hbs
  have hc := pcat_ev hlook out _ ho hg
  rw [List.drop_eq_getElem_cons hlt]
  unfold rowG
  refine Ev.step (fun k => by rw [follow_rower_row.l0, if_pos (by clear hw; omega), if_pos (by clear hw; omega), if_pos (by clear hw; omega), rdS hlt, hw]) ?_
  have done : ∀ t, t = catA (mx look 0).toNat out (if l[i].f0 = true then [strOfNums [l[i].f1 % 256]] else rd_L6 F l[i].f1) → Ev (fun k => if (t.length : Int) > 600 then some (([] : List ByteArray), false) else follow_rower_row.l0 k t l l.length ((i + 1 : Nat) : Int) look F) (if 600 < t.length then ([], false) else rowG (catA (mx look 0).toNat) 600 F (l.drop (i + 1)) t) := by
   intro t ht
   by_cases h : 600 < t.length
   ·rw [if_pos h]; exact Ev.ite_pos (by clear hw; omega) (Ev.now _)
   ·rw [if_neg h]; exact Ev.ite_neg (by clear hw; omega) (ih _ _ (by clear hw; omega) ⟨by clear hw; omega, by rw [ht]; exact catA_size (K_le hlook) _ _⟩)
  cases h : l[i].f0
  ·simp only [h] at done hc ⊢
   simp only [if_neg Bool.false_ne_true] at done hc ⊢
   obtain ⟨h1, h2⟩ := hn h
   exact Ev.ite_pos h1 (Ev.ite_pos h2 (Ev.bind hc (done _ rfl)))
  ·simp only [h] at done hc ⊢
   simp only [if_true] at done hc ⊢
   exact Ev.bind hc (done _ rfl)
theorem links_l1 {F : Sets} (hS : GoodSM 600 F) (L : List Prod') (i left : Int) (r : List Sym) (hr : r.length ≤ 1000000) (hb : r.any (symBad toks F.length) = false) (res : List Lk × Int) : ∀ (d j : Nat) (acc : List Lk), j + d = r.length → acc.length + d ≤ 1000000000000 →
  (linksP (mx look 0).toNat F left (r.drop j) = none → res = ([], 15)) → (∀ a, linksP (mx look 0).toNat F left (r.drop j) = some a → Ev (fun k => follow_links.l0 k (acc ++ a) L L.length (wrap64 (i + 1)) look F) res) →
  Ev (fun k => follow_links.l1 k acc L L.length i r r.length j look F left r) res := by
 intro d
 induction d with
 | zero =>
  intro j acc hj _ _ h2
  rw [List.drop_of_length_le (by omega)] at h2
  have := h2 [] rfl
  rw [List.append_nil] at this
  exact Ev.step (fun k => by rw [follow_links.l1, if_neg (by omega)]) this
 | succ d ih =>
  intro j acc hj ha h1 h2
  have hlt : j < r.length := by omega
  have hw : wrap64 ((j : Int) + 1) = ((j + 1 : Nat) : Int) := by rw [wrap_id (by omega)]; rfl
  rw [List.drop_eq_getElem_cons hlt] at h1 h2
  unfold linksP at h1 h2
  refine Ev.step (fun k => by rw [follow_links.l1, if_pos (by clear hw; omega), if_pos (by clear hw; omega), if_pos (by clear hw; omega), rdS hlt, hw]) ?_
  by_cases h0 : r[j].f0 = true
  ·rw [if_pos h0] at h1 h2
   exact Ev.ite_pos h0 (ih (j + 1) acc (by clear hw; omega) (by clear hw; omega) h1 h2)
  ·rw [if_neg h0] at h1 h2
   have hrow := rower_ev toks look hlook hS (r.drop (j + 1)) (by rw [List.length_drop]; clear hw; omega) (any_drop hb (j + 1)) (r.drop (j + 1)).length 0 _ (by clear hw; omega) (empty_good (M := 600) (by omega))
   rw [List.drop_zero] at hrow
   have ht : (((j + 1 : Nat) : Int)).toNat = j + 1 := rfl
   refine Ev.ite_neg h0 (Ev.ite_pos (by clear hw; omega) (Ev.ite_pos (by clear hw; omega) (Ev.bind (by unfold follow_rower_row.f; rw [ht]; exact hrow) ?_)))
   generalize (rowG (catA (mx look 0).toNat) 600 F (r.drop (j + 1)) [(⟨#[]⟩ : ByteArray)]) = x at h1 h2 ⊢
   by_cases hx : x.2 = true
   ·rw [if_pos hx] at h1 h2
    refine Ev.ite_pos hx (Ev.ite_pos (by clear hw; omega) (ih (j + 1) _ (by clear hw; omega) (by rw [List.length_append]; simp; clear hw; omega) (fun h => h1 (by rw [h]; rfl)) (fun a ha2 => ?_)))
    have := h2 _ (by rw [ha2]; rfl)
    rw [List.append_assoc]
    exact this
   ·rw [if_neg hx] at h1
    rw [h1 rfl]
    exact Ev.ite_neg hx (Ev.now _)
theorem links_l0 {F : Sets} (hS : GoodSM 600 F) (L : List Prod') (hL : L.length ≤ 1000000) (hb : L.any (prodBad toks F.length) = false) (hl : ∀ p ∈ L, p.f1.length ≤ 1000000) (res : List Lk × Int) : ∀ (d i : Nat) (acc : List Lk), i + d = L.length → acc.length ≤ 1000000 * i →
  (linksL (mx look 0).toNat F (L.drop i) = none → res = ([], 15)) → (∀ a, linksL (mx look 0).toNat F (L.drop i) = some a → res = (acc ++ a, 0)) →
  Ev (fun k => follow_links.l0 k acc L L.length i look F) res := by
 intro d
 induction d with
 | zero =>
  intro i acc hi _ _ h2
  rw [List.drop_of_length_le (by omega)] at h2
  have := h2 [] rfl
  rw [List.append_nil] at this
  rw [this]
  exact Ev.step (fun k => by rw [follow_links.l0, if_neg (by omega)]) (Ev.now _)
 | succ d ih =>
  intro i acc hi ha h1 h2
  have hlt : i < L.length := by omega
  have hw : wrap64 ((i : Int) + 1) = ((i + 1 : Nat) : Int) := by rw [wrap_id (by omega)]; rfl
  have hbp : prodBad toks F.length L[i] = false := by
   cases hh : prodBad toks F.length L[i]
   ·rfl
   ·rw [List.any_eq_true.2 ⟨L[i], List.getElem_mem _, hh⟩] at hb; cases hb
  obtain ⟨hp, hr⟩ := prod_bad hbp
  have hll := hl _ (List.getElem_mem hlt)
  rw [List.drop_eq_getElem_cons hlt] at h1 h2
  unfold linksL at h1 h2
  refine Ev.step (fun k => by rw [follow_links.l0, if_pos (by clear hw; omega), if_pos (by clear hw; omega), if_pos (by clear hw; omega), rdP hlt]) ?_
  refine links_l1 toks look hlook hS L i L[i].f0 L[i].f1 hll hr res L[i].f1.length 0 acc (by clear hw; omega) (by clear hw; omega) (fun h => h1 ?_) (fun a ha2 => ?_)
  ·rw [List.drop_zero] at h; rw [h]; rfl
  ·rw [List.drop_zero] at ha2
   rw [hw]
   have hal := (linksP_good (K_le hlook) hp L[i].f1 hr a ha2).2
   refine ih (i + 1) (acc ++ a) (by clear hw; omega) (by rw [List.length_append]; clear hw; omega) (fun h => h1 ?_) (fun b hb2 => ?_)
   ·rw [ha2, Option.bind_some, h]; rfl
   ·rw [h2 (a ++ b) (by rw [ha2, Option.bind_some, hb2]; rfl), List.append_assoc]
end
def froundA (K : Nat) : List Lk → Sets → Bool → Sets × Bool × Bool
 | [], sets, more => (sets, more, true)
 | x :: xs, sets, more => if 600 < (setP (rd_L6 sets x.f0 ++ catA K x.f2 (rd_L6 sets x.f1))).length then (sets, false, false) else froundA K xs (sets.set x.f0.toNat (setP (rd_L6 sets x.f0 ++ catA K x.f2 (rd_L6 sets x.f1)))) (more || decide ((rd_L6 sets x.f0).length < (setP (rd_L6 sets x.f0 ++ catA K x.f2 (rd_L6 sets x.f1))).length))
def floopA (K : Nat) (xs : List Lk) : Nat → Sets → Option Sets
 | 0, _ => none
 | m + 1, sets => if (froundA K xs sets false).2.2 = false then none else if (froundA K xs sets false).2.1 = false then some (froundA K xs sets false).1 else floopA K xs m (froundA K xs sets false).1
theorem catL_good {K : Nat} (hK : K ≤ 4) {sets : Sets} {n : Nat} (hS : GoodSM 600 sets) (hn : sets.length = n) {x : Lk} (hx : GoodL n x) (hl : (setP (rd_L6 sets x.f0 ++ catA K x.f2 (rd_L6 sets x.f1))).length ≤ 600) :
  GoodM 600 (setP (rd_L6 sets x.f0 ++ catA K x.f2 (rd_L6 sets x.f1))) ∧ setT (setP (rd_L6 sets x.f0 ++ catA K x.f2 (rd_L6 sets x.f1))) = setP (rd_L6 sets x.f0 ++ catA K x.f2 (rd_L6 sets x.f1)) := by
 refine ⟨⟨hl, fun y hy => ?_⟩, by rw [setP_eq, setT_idem]⟩
 rw [setP_eq, mem_setT, List.mem_append] at hy
 rcases hy with hy | hy
 ·exact (hS _ (rd_sets (by rw [hn]; exact hx.1))).1.2 y hy
 ·exact catA_size hK _ _ y hy
theorem froundA_spec {K : Nat} (hK : K ≤ 4) {n : Nat} : ∀ (xs : List Lk) (sets : Sets) (more : Bool), (∀ x ∈ xs, GoodL n x) → GoodSM 600 sets → sets.length = n →
  GoodSM 600 (froundA K xs sets more).1 ∧ (froundA K xs sets more).1.length = n ∧ total sets ≤ total (froundA K xs sets more).1 ∧ (more = false → (froundA K xs sets more).2.1 = true → total sets < total (froundA K xs sets more).1) := by
 intro xs
 induction xs with
 | nil => intro sets more _ hS hn; exact ⟨hS, hn, Nat.le_refl _, fun h1 h2 => by rw [show (froundA K [] sets more).2.1 = more from rfl, h1] at h2; cases h2⟩
 | cons x xs ih =>
  intro sets more hx hS hn
  have hx0 := hx x List.mem_cons_self
  have hp : 0 ≤ x.f0 ∧ x.f0 < (sets.length : Int) := by rw [hn]; exact hx0.1
  have hj := catL_good hK hS hn hx0
  obtain ⟨hg, -⟩ := join_grows hS hp (catA K x.f2 (rd_L6 sets x.f1))
  unfold froundA
  generalize setP (rd_L6 sets x.f0 ++ catA K x.f2 (rd_L6 sets x.f1)) = j at hj hg ⊢
  by_cases h : 600 < j.length
  ·rw [if_pos h]; exact ⟨hS, hn, Nat.le_refl _, fun _ h2 => by cases h2⟩
  rw [if_neg h]
  obtain ⟨hj1, hj2⟩ := hj (by omega)
  have ht := total_set sets x.f0.toNat (by omega) j
  rw [← rd_at hp] at ht
  obtain ⟨i1, i2, i3, i4⟩ := ih (sets.set x.f0.toNat j) (more || decide ((rd_L6 sets x.f0).length < j.length)) (fun y hy => hx y (List.mem_cons_of_mem _ hy)) (goodS_set hS _ hj1 hj2) (by rw [List.length_set]; exact hn)
  refine ⟨i1, i2, by omega, fun hm hm2 => ?_⟩
  by_cases h3 : (rd_L6 sets x.f0).length < j.length
  ·omega
  ·have := i4 (by rw [hm, decide_eq_false h3]; rfl) hm2
   omega
section
variable (toks look : Int) (of : List Int) (hlook : 1 ≤ look ∧ look ≤ 4)
include hlook
theorem fround_ev : ∀ (xs : List Lk) (sets : Sets) (more : Bool), (∀ x ∈ xs, GoodL of.length x) → GoodSM 600 sets → sets.length = of.length →
  Ev (fun k => follow_Of.round k look xs sets more) (if (froundA (mx look 0).toNat xs sets more).2.2 = true then froundA (mx look 0).toNat xs sets more else ([], false, false)) := by
 intro xs
 induction xs with
 | nil => intro sets more _ _ _; exact Ev.now _
 | cons x xs ih =>
  intro sets more hx hS hn
  have hx0 := hx x List.mem_cons_self
  have hp : 0 ≤ x.f0 ∧ x.f0 < (sets.length : Int) := by rw [hn]; exact hx0.1
  have hp1 : 0 ≤ x.f1 ∧ x.f1 < (sets.length : Int) := by rw [hn]; exact hx0.2.1
  have hj := catL_good (K_le hlook) hS hn hx0
  have hc := pcat_ev hlook x.f2 (rd_L6 sets x.f1) hx0.2.2 (hS _ (rd_sets hp1)).1
  have hjs : ∀ c : List ByteArray, c.length ≤ 360000 → pack_Join.f (rd_L6 sets x.f0) c = some (setP (rd_L6 sets x.f0 ++ c)) := fun c hcl => by
   rw [setP_eq]; exact join_some _ _ (by have := (hS _ (rd_sets hp)).1.1; omega) (by omega)
  have hcl : (catA (mx look 0).toNat x.f2 (rd_L6 sets x.f1)).length ≤ 360000 := by
   have h1 := hx0.2.2.1
   have h2 := (hS _ (rd_sets hp1)).1.1
   unfold catA
   rw [setP_eq]
   refine Nat.le_trans (setT_length _) (Nat.le_trans (flat_len _ _ 600 (fun y => by rw [List.length_map]; exact h2)) ?_)
   exact Nat.le_trans (Nat.mul_le_mul_left 600 h1) (by omega)
  unfold froundA
  refine Ev.congr (fun k => by rw [follow_Of.round]) (Ev.ite_pos (And.intro hp hp1) (Ev.bind hc (Ev.bind0 (hjs _ hcl) ?_)))
  generalize setP (rd_L6 sets x.f0 ++ catA (mx look 0).toNat x.f2 (rd_L6 sets x.f1)) = j at hj ⊢
  by_cases h : 600 < j.length
  ·simp only [if_pos h]
   exact Ev.ite_neg (by omega) (Ev.now _)
  ·simp only [if_neg h]
   obtain ⟨hj1, hj2⟩ := hj (by omega)
   exact Ev.ite_pos (by omega) (ih _ _ (fun y hy => hx y (List.mem_cons_of_mem _ hy)) (goodS_set hS _ hj1 hj2) (by rw [List.length_set]; exact hn))
theorem floop_ev (xs : List Lk) (hx : ∀ x ∈ xs, GoodL of.length x) : ∀ (m : Nat) (sets : Sets), GoodSM 600 sets → sets.length = of.length → 600 * of.length - total sets < m →
  (∃ N, ∀ k, N ≤ k → ∀ q, N ≤ q → follow_Of.loop k look xs q sets = some (floopA (mx look 0).toNat xs m sets)) ∧ ∀ s, floopA (mx look 0).toNat xs m sets = some s → GoodSM 600 s ∧ s.length = of.length := by
 intro m
 induction m with
 | zero => intro sets _ _ h; omega
 | succ m ih =>
  intro sets hS hn hm
  obtain ⟨g1, g2, g3, g4⟩ := froundA_spec (K_le hlook) xs sets false hx hS hn
  obtain ⟨N, hN⟩ := fround_ev look of hlook xs sets false hx hS hn
  replace hN : ∀ k, N ≤ k → follow_Of.round k look xs sets false = some (if (froundA (mx look 0).toNat xs sets false).2.2 = true then froundA (mx look 0).toNat xs sets false else ([], false, false)) := hN
  unfold floopA
  generalize froundA (mx look 0).toNat xs sets false = x at g1 g2 g3 g4 hN ⊢
  by_cases h1 : x.2.2 = false
  ·rw [if_pos h1]
   refine ⟨⟨N + 1, fun k hk q hq => ?_⟩, fun s h => by cases h⟩
   obtain ⟨q, rfl⟩ : ∃ q', q = q' + 1 := ⟨q - 1, by omega⟩
   rw [follow_Of.loop, hN k (by omega), Option.bind_some, if_neg (show ¬ x.2.2 = true by rw [h1]; simp), if_pos rfl]
  rw [if_neg h1]
  have h1' : x.2.2 = true := by simpa using h1
  by_cases h2 : x.2.1 = false
  ·rw [if_pos h2]
   refine ⟨⟨N + 1, fun k hk q hq => ?_⟩, fun s h => by cases h; exact ⟨g1, g2⟩⟩
   obtain ⟨q, rfl⟩ : ∃ q', q = q' + 1 := ⟨q - 1, by omega⟩
   rw [follow_Of.loop, hN k (by omega), Option.bind_some, if_pos h1', if_neg h1, if_pos h2]
  rw [if_neg h2]
  have g5 := g4 rfl (by simpa using h2)
  have g6 := total_le g1
  rw [g2] at g6
  obtain ⟨⟨M', hM'⟩, i3⟩ := ih x.1 g1 g2 (by omega)
  refine ⟨⟨N + M' + 1, fun k hk q hq => ?_⟩, i3⟩
  obtain ⟨q, rfl⟩ : ∃ q', q = q' + 1 := ⟨q - 1, by omega⟩
  rw [follow_Of.loop, hN k (by omega), Option.bind_some, if_pos h1', if_neg h1, if_neg h2]
  exact hM' k (by omega) q (by omega)
end
def zeroT (n : Nat) : ByteArray := ⟨(List.replicate n (0 : UInt8)).toArray⟩
theorem zeroT_size (n : Nat) : (zeroT n).size = n := by
 rw [← size_list]; unfold zeroT; simp
theorem repeat_zero : ∀ n, Lib.repeatL [(0 : UInt8)] n = List.replicate n 0
 | 0 => rfl
 | n + 1 => by rw [Lib.repeatL, repeat_zero n, List.replicate_succ]; rfl
theorem repeat_some (look : Int) (hlook : 1 ≤ look ∧ look ≤ 4) : strings_Repeat.f (⟨#[0]⟩ : ByteArray) look = some (zeroT look.toNat) := by
 unfold strings_Repeat.f
 rw [if_pos ⟨by omega, by omega, by decide⟩]
 unfold zeroT
 rw [show ((⟨#[0]⟩ : ByteArray).data.toList) = [0] from rfl, repeat_zero]
def initF (look : Int) (n : Nat) : Sets := (List.replicate n []).set 0 [zeroT look.toNat]
theorem setT_one (x : ByteArray) : setT [x] = [x] := by
 unfold setT
 rw [show keysOf [x] = [x.data.toList] from rfl, tset_of_rises (List.pairwise_singleton _ _), show [x.data.toList] = keysOf [x] from rfl, txts_keys]
theorem initF_good {look : Int} (hlook : 1 ≤ look ∧ look ≤ 4) (n : Nat) : GoodSM 600 (initF look n) ∧ (initF look n).length = n := by
 refine ⟨goodS_set (empties_good 600 n) 0 ⟨by simp, fun x hx => ?_⟩ (setT_one _), by unfold initF; rw [List.length_set, List.length_replicate]⟩
 rw [List.mem_singleton.1 hx, zeroT_size]; omega
def followA (toks look : Int) (n : Nat) (L : List Prod') : Sets × Int :=
 if (ofA toks look n L).2 = 0 then (match linksL (mx look 0).toNat (ofA toks look n L).1 L with | none => ([], 15) | some xs => match floopA (mx look 0).toNat xs (600 * n + 1) (initF look n) with | none => ([], 15) | some s => (s, 0)) else ([], (ofA toks look n L).2)
theorem ofA_zero {toks look : Int} {of : List Int} {L : List Prod'} (hl : ∀ p ∈ L, p.f1.length ≤ 1000000) (h : (ofA toks look of.length L).2 = 0) : mayE toks look of.length L = 0 ∧ GoodSM 600 (ofA toks look of.length L).1 ∧ (ofA toks look of.length L).1.length = of.length := by
 unfold ofA at h ⊢
 by_cases h0 : mayE toks look of.length L = 0
 ·obtain ⟨h1, h2, h3, h4⟩ := mayE_zero h0
  rw [if_pos h0] at h ⊢
  obtain ⟨-, hG⟩ := of_loop toks h3 of L h4 hl
  refine ⟨h0, ?_⟩
  cases hh : loopG (catA (mx look 0).toNat) 600 L (600 * of.length + 1) (List.replicate of.length []) with
  | none => rw [hh] at h; cases h
  | some s => exact hG s hh
 ·rw [if_neg h0] at h
  exact absurd h h0
theorem links_ev (toks look : Int) (of : List Int) (L : List Prod') (hl : ∀ p ∈ L, p.f1.length ≤ 1000000) (hL : L.length ≤ 1000000) :
  Ev (fun k => follow_links.f k toks look of L) (if (ofA toks look of.length L).2 = 0 then (match linksL (mx look 0).toNat (ofA toks look of.length L).1 L with | none => ([], 15) | some xs => (xs, 0)) else ([], (ofA toks look of.length L).2)) := by
 have ho := of_ev toks look of L hl hL
 have hz := ofA_zero (toks := toks) (look := look) (of := of) hl
 unfold follow_links.f
 refine Ev.bind ho ?_
 generalize ofA toks look of.length L = X at hz ⊢
 by_cases h0 : X.2 = 0
 ·obtain ⟨hm, hS, hn⟩ := hz h0
  obtain ⟨h1, h2, h3, h4⟩ := mayE_zero hm
  rw [← hn] at h4
  rw [if_pos h0]
  refine Ev.ite_pos h0 (links_l0 toks look h3 hS L (by omega) h4 hl _ L.length 0 [] (by omega) (by simp) (fun h => ?_) (fun a h => ?_))
  ·rw [List.drop_zero] at h; rw [h]
  ·rw [List.drop_zero] at h; rw [h]; rfl
 ·rw [if_neg h0]
  exact Ev.ite_neg h0 (Ev.now _)
theorem follow_ev (toks look : Int) (of : List Int) (L : List Prod') (hl4 : ∀ p ∈ L, p.f1.length ≤ 400000) (hL : L.length ≤ 1000000) : Ev (fun k => follow_Of.f k toks look of L) (followA toks look of.length L) := by
 have hl : ∀ p ∈ L, p.f1.length ≤ 1000000 := fun p hp => Nat.le_trans (hl4 p hp) (by omega)
 have hk := links_ev toks look of L hl hL
 have hz := ofA_zero (toks := toks) (look := look) (of := of) hl
 unfold follow_Of.f followA
 generalize ofA toks look of.length L = X at hz hk ⊢
 by_cases h0 : X.2 = 0
 ·obtain ⟨hm, hS, hn⟩ := hz h0
  obtain ⟨h1, h2, h3, h4⟩ := mayE_zero hm
  rw [if_pos h0] at hk ⊢
  refine Ev.bind hk ?_
  cases hh : linksL (mx look 0).toNat X.1 L with
  | none => exact Ev.ite_neg (by simp) (Ev.now _)
  | some xs =>
   dsimp only
   obtain ⟨g1, g2⟩ := linksL_good (K_le h3) L (n := of.length) h4 hl4 xs hh
   obtain ⟨i1, i2⟩ := initF_good h3 of.length
   obtain ⟨⟨N, hN⟩, -⟩ := floop_ev look of h3 xs g1 (600 * of.length + 1) (initF look of.length) i1 i2 (by omega)
   have hlp : Ev (fun k => follow_Of.loop k look xs k (initF look of.length)) (floopA (mx look 0).toNat xs (600 * of.length + 1) (initF look of.length)) := ⟨N, fun k hk => hN k hk k hk⟩
   refine Ev.ite_pos rfl (Ev.ite_pos ⟨by omega, by omega, ?_⟩ (Ev.bind0 (repeat_some look h3) (Ev.bind hlp ?_)))
   ·show xs.length ≤ 1000000000
    omega
   ·cases floopA (mx look 0).toNat xs (600 * of.length + 1) (initF look of.length) with
    | none => exact Ev.now _
    | some s => exact Ev.now _
 ·rw [if_neg h0] at hk ⊢
  exact Ev.bind hk (Ev.ite_neg h0 (Ev.now _))
theorem followA_good (toks look : Int) (of : List Int) (L : List Prod') (hl : ∀ p ∈ L, p.f1.length ≤ 1000000) : ((followA toks look of.length L).2 = 0 → mayE toks look of.length L = 0 ∧ GoodSM 600 (followA toks look of.length L).1 ∧ (followA toks look of.length L).1.length = of.length) ∧ ((followA toks look of.length L).2 ≠ 0 → (followA toks look of.length L).1 = []) := by
 have hz := ofA_zero (toks := toks) (look := look) (of := of) hl
 unfold followA
 generalize ofA toks look of.length L = X at hz ⊢
 by_cases h0 : X.2 = 0
 ·obtain ⟨hm, hS, hn⟩ := hz h0
  obtain ⟨h1, h2, h3, h4⟩ := mayE_zero hm
  obtain ⟨i1, i2⟩ := initF_good h3 of.length
  rw [if_pos h0]
  cases hh : linksL (mx look 0).toNat X.1 L with
  | none => exact ⟨fun h => (by cases h), fun _ => rfl⟩
  | some xs =>
   obtain ⟨g1, -⟩ := linksL_good (K_le h3) L (n := of.length) h4 hl xs hh
   obtain ⟨-, hG⟩ := floop_ev look of h3 xs g1 (600 * of.length + 1) (initF look of.length) i1 i2 (by omega)
   dsimp only
   cases hs : floopA (mx look 0).toNat xs (600 * of.length + 1) (initF look of.length) with
   | none => exact ⟨fun h => (by cases h), fun _ => rfl⟩
   | some s => exact ⟨fun _ => ⟨hm, hG s hs⟩, fun h => absurd rfl h⟩
 ·rw [if_neg h0]
  exact ⟨fun h => absurd h h0, fun _ => rfl⟩
def sampleF : List Prod' := [⟨0, [⟨false, 1⟩, ⟨true, 1⟩]⟩, ⟨1, [⟨true, 2⟩]⟩]
theorem sample_follow : followA 2 1 2 sampleF = ([[⟨#[0]⟩], [⟨#[1]⟩]], 0) := by kernel_rfl
theorem follow_works : Ev (fun k => gramaryelaw15_works.f k) true := by
 unfold gramaryelaw15_works.f gramaryelaw15_sample.f
 refine Ev.bind0 rfl ?_
 have h := follow_ev 2 1 [-1, -1] sampleF (fun p hp => by
  unfold sampleF at hp
  rcases List.mem_cons.1 hp with rfl | hp
  ·simp
  ·rw [List.mem_singleton.1 hp]; simp) (by unfold sampleF; simp)
 rw [show ([-1, -1] : List Int).length = 2 from rfl, sample_follow] at h
 have h1 := same_dec [⟨#[0]⟩] [⟨#[0]⟩] (by simp)
 have h2 := same_dec [⟨#[1]⟩] [⟨#[1]⟩] (by simp)
 rw [decide_eq_true rfl] at h1 h2
 exact Ev.bind h (Ev.ite_pos rfl (Ev.ite_pos rfl (Ev.ite_pos (by decide) (Ev.bind h1 (Ev.ite_pos rfl (Ev.ite_pos (by decide) (Ev.bind h2 (Ev.now _))))))))
theorem rowG_cons {C : CatF} {M : Nat} {sets : Sets} {s : Sym} {l : List Sym} {out : List ByteArray} : rowG C M sets (s :: l) out = if M < (C out (symS sets s)).length then ([], false) else rowG C M sets l (C out (symS sets s)) := rfl
theorem rowG_all {C : CatF} {M : Nat} {sets : Sets} (B : ByteArray → Prop) (hC : ∀ a b, (∀ x ∈ a, B x) → (∀ x ∈ b, B x) → ∀ x ∈ C a b, B x) : ∀ (l : List Sym) (out : List ByteArray), (∀ s ∈ l, ∀ x ∈ symS sets s, B x) → (∀ x ∈ out, B x) → ∀ x ∈ (rowG C M sets l out).1, B x := by
 intro l
 induction l with
 | nil => intro out _ h; exact h
 | cons s l ih =>
  intro out hs h
  rw [rowG_cons]
  have h2 := hC out (symS sets s) h (hs s List.mem_cons_self)
  by_cases c : M < (C out (symS sets s)).length
  ·rw [if_pos c]; exact fun x hx => nomatch hx
  ·rw [if_neg c]; exact ih _ (fun q hq => hs q (List.mem_cons_of_mem _ hq)) h2
theorem rowG_ne {C : CatF} {M : Nat} {sets : Sets} (hC : ∀ a b, a ≠ [] → b ≠ [] → C a b ≠ []) : ∀ (l : List Sym) (out : List ByteArray), (∀ s ∈ l, symS sets s ≠ []) → out ≠ [] → (rowG C M sets l out).2 = true → (rowG C M sets l out).1 ≠ [] := by
 intro l
 induction l with
 | nil => intro out _ h _; exact h
 | cons s l ih =>
  intro out hs h h2
  rw [rowG_cons] at h2 ⊢
  by_cases c : M < (C out (symS sets s)).length
  ·rw [if_pos c] at h2; cases h2
  ·rw [if_neg c] at h2 ⊢; exact ih _ (fun q hq => hs q (List.mem_cons_of_mem _ hq)) (hC _ _ h (hs s List.mem_cons_self)) h2
theorem catA_ne (K : Nat) (a b : List ByteArray) (ha : a ≠ []) (hb : b ≠ []) : catA K a b ≠ [] := by
 obtain ⟨x, hx⟩ := List.exists_mem_of_ne_nil a ha
 obtain ⟨y, hy⟩ := List.exists_mem_of_ne_nil b hb
 exact List.ne_nil_of_mem (mem_catA.2 ⟨x, hx, y, hy, rfl⟩)
theorem sets_set_all {sets : Sets} {B : ByteArray → Prop} (h : ∀ a ∈ sets, ∀ x ∈ a, B x) (i : Nat) {j : List ByteArray} (hj : ∀ x ∈ j, B x) : ∀ a ∈ sets.set i j, ∀ x ∈ a, B x := by
 intro a ha
 rcases List.mem_or_eq_of_mem_set ha with h1 | h1
 ·exact h a h1
 ·exact h1 ▸ hj
theorem mem_set_all {sets : Sets} {B : ByteArray → Prop} {n : Nat} (hn : sets.length = n) (h : ∀ a ∈ sets, ∀ x ∈ a, B x) {toks : Int} (hT : ∀ k : Int, 1 ≤ k → k ≤ toks → B (strOfNums [k % 256])) {s : Sym} (hs : symBad toks n s = false) : ∀ x ∈ symS sets s, B x := by
 unfold symS
 unfold symBad at hs
 cases h0 : s.f0
 ·rw [h0] at hs
  have h2 : 0 ≤ s.f1 ∧ s.f1 < (n : Int) := by simpa using hs
  exact h _ (rd_sets (by rw [hn]; exact h2))
 ·rw [h0] at hs
  have h2 : 1 ≤ s.f1 ∧ s.f1 ≤ toks := by simpa using hs
  intro x hx
  rw [List.mem_singleton.1 hx]
  exact hT _ h2.1 h2.2
theorem any_mem {α : Type} {l : List α} {f : α → Bool} (h : l.any f = false) {x : α} (hx : x ∈ l) : f x = false := by
 cases hh : f x
 ·rfl
 ·rw [List.any_eq_true.2 ⟨x, hx, hh⟩] at h; cases h
section
variable {C : CatF} {M : Nat} (B : ByteArray → Prop) (hC : ∀ a b, (∀ x ∈ a, B x) → (∀ x ∈ b, B x) → ∀ x ∈ C a b, B x) (hE : B (⟨#[]⟩ : ByteArray)) {toks : Int} {n : Nat} (hT : ∀ k : Int, 1 ≤ k → k ≤ toks → B (strOfNums [k % 256])) (hS4 : ∀ a b, ∀ x ∈ C a b, x.size ≤ 4) (hM : 1 ≤ M)
include hC hE hT hS4 hM
theorem roundG_all : ∀ (ps : List Prod') (sets : Sets) (more : Bool), GoodSM M sets → sets.length = n → ps.any (prodBad toks n) = false → (∀ a ∈ sets, ∀ x ∈ a, B x) → ∀ a ∈ (roundG C M ps sets more).1, ∀ x ∈ a, B x := by
 intro ps
 induction ps with
 | nil => intro sets more _ _ _ h; exact h
 | cons p ps ih =>
  intro sets more hS hn hb h
  rw [List.any_cons, Bool.or_eq_false_iff] at hb
  obtain ⟨hp, hr⟩ := prod_bad hb.1
  rw [← hn] at hp
  have hx := rowG_all (M := M) (sets := sets) B hC p.f1 [(⟨#[]⟩ : ByteArray)] (fun s hs => mem_set_all hn h hT (any_mem hr hs)) (fun x hx => by rw [List.mem_singleton.1 hx]; exact hE)
  have hxg := rowG_good hS4 sets p.f1 _ (empty_good hM)
  unfold roundG
  generalize rowG C M sets p.f1 [(⟨#[]⟩ : ByteArray)] = x at hx hxg ⊢
  by_cases h1 : x.2 = false
  ·rw [if_pos h1]; exact h
  rw [if_neg h1]
  by_cases h2 : M < (setP (rd_L6 sets p.f0 ++ x.1)).length
  ·rw [if_pos h2]; exact h
  rw [if_neg h2]
  obtain ⟨hj, hf⟩ := join_good hS hp hxg (Nat.not_lt.1 h2)
  refine ih _ _ (goodS_set hS _ hj hf) (by rw [List.length_set]; exact hn) hb.2 (sets_set_all h _ fun y hy => ?_)
  rw [setP_eq, mem_setT, List.mem_append] at hy
  rcases hy with hy | hy
  ·exact h _ (rd_sets hp) y hy
  ·exact hx y hy
theorem loopG_all {L : List Prod'} (hb : L.any (prodBad toks n) = false) : ∀ (m : Nat) (S s : Sets), GoodSM M S → S.length = n → loopG C M L m S = some s → (∀ a ∈ S, ∀ x ∈ a, B x) → ∀ a ∈ s, ∀ x ∈ a, B x := by
 intro m
 induction m with
 | zero => intro S s _ _ h; cases h
 | succ m ih =>
  intro S s hS hn h hs
  obtain ⟨g1, g2, -, -⟩ := roundG_spec hS4 hM L S false hS hn hb
  have hr := roundG_all B hC hE hT hS4 hM L S false hS hn hb hs
  unfold loopG at h
  generalize roundG C M L S false = x at h g1 g2 hr
  by_cases h1 : x.2.2 = false
  ·rw [if_pos h1] at h; cases h
  rw [if_neg h1] at h
  by_cases h2 : x.2.1 = false
  ·rw [if_pos h2] at h
   obtain rfl := Option.some.inj h
   exact hr
  ·rw [if_neg h2] at h
   exact ih _ _ g1 g2 h hr
end
def TokT (x : ByteArray) : Prop := ∀ b ∈ x.data.toList, 1 ≤ b.toNat ∧ b.toNat ≤ 60
def WholeT (K : Nat) (x : ByteArray) : Prop := x.size = K ∧ ∃ a m, x.data.toList = a ++ List.replicate m 0 ∧ ∀ b ∈ a, 1 ≤ b.toNat ∧ b.toNat ≤ 60
theorem tok_tc {K : Nat} {x y : ByteArray} (hx : TokT x) (hy : TokT y) : TokT (tc K x y) := by
 intro b hb
 unfold tc at hb
 simp only [List.toList_toArray] at hb
 rcases List.mem_append.1 (List.mem_of_mem_take hb) with h | h
 ·exact hx b h
 ·exact hy b h
theorem tok_cat {K : Nat} (a b : List ByteArray) (ha : ∀ x ∈ a, TokT x) (hb : ∀ x ∈ b, TokT x) : ∀ x ∈ catA K a b, TokT x := by
 intro z hz
 obtain ⟨x, hx, y, hy, rfl⟩ := mem_catA.1 hz
 exact tok_tc (ha x hx) (hb y hy)
theorem tok_one (k : Int) (h1 : 1 ≤ k) (h2 : k ≤ 60) : TokT (strOfNums [k % 256]) := by
 intro b hb
 have e : (strOfNums [k % 256]).data.toList = [(k % 256).toNat.toUInt8] := rfl
 rw [e, List.mem_singleton] at hb
 subst hb
 have e2 : (k % 256).toNat = k.toNat := by omega
 rw [e2]
 have : (k.toNat.toUInt8).toNat = k.toNat % 256 := by simp
 omega
theorem whole_tc {K : Nat} {x y : ByteArray} (hx : TokT x) (hy : WholeT K y) : WholeT K (tc K x y) := by
 obtain ⟨hs, a, m, he, ha⟩ := hy
 have hl : (tc K x y).data.toList = (x.data.toList ++ y.data.toList).take K := by unfold tc; simp only [List.toList_toArray]
 refine ⟨?_, (x.data.toList ++ a).take K, (K - (x.data.toList ++ a).length), ?_, fun b hb => ?_⟩
 ·rw [← size_list, hl, List.length_take, List.length_append, size_list y, hs]; omega
 ·rw [hl, he, ← List.append_assoc, List.take_append, List.take_replicate]
  congr 2
  have hlen : y.data.toList.length = K := by rw [size_list, hs]
  rw [he, List.length_append, List.length_replicate] at hlen
  rw [List.length_append]
  omega
 ·rcases List.mem_append.1 (List.mem_of_mem_take hb) with h | h
  ·exact hx b h
  ·exact ha b h
theorem whole_zero (K : Nat) : WholeT K (zeroT K) := ⟨zeroT_size K, [], K, by unfold zeroT; simp, fun b hb => nomatch hb⟩
section
variable {K : Nat} (hK : K ≤ 4) {n : Nat}
include hK
theorem fround_all : ∀ (xs : List Lk) (sets : Sets) (more : Bool), (∀ x ∈ xs, GoodL n x) → (∀ x ∈ xs, ∀ t ∈ x.f2, TokT t) → GoodSM 600 sets → sets.length = n → (∀ a ∈ sets, ∀ x ∈ a, WholeT K x) → ∀ a ∈ (froundA K xs sets more).1, ∀ x ∈ a, WholeT K x := by
 intro xs
 induction xs with
 | nil => intro sets more _ _ _ _ h; exact h
 | cons x xs ih =>
  intro sets more hx ht hS hn h
  have hx0 := hx x List.mem_cons_self
  have hj := catL_good hK hS hn hx0
  have hw : ∀ y ∈ setP (rd_L6 sets x.f0 ++ catA K x.f2 (rd_L6 sets x.f1)), WholeT K y := fun y hy => by
   rw [setP_eq, mem_setT, List.mem_append] at hy
   rcases hy with hy | hy
   ·exact h _ (rd_sets (by rw [hn]; exact hx0.1)) y hy
   ·obtain ⟨u, hu, v, hv, rfl⟩ := mem_catA.1 hy
    exact whole_tc (ht x List.mem_cons_self u hu) (h _ (rd_sets (by rw [hn]; exact hx0.2.1)) v hv)
  unfold froundA
  generalize setP (rd_L6 sets x.f0 ++ catA K x.f2 (rd_L6 sets x.f1)) = j at hj hw ⊢
  by_cases c : 600 < j.length
  ·rw [if_pos c]; exact h
  rw [if_neg c]
  obtain ⟨hj1, hj2⟩ := hj (by omega)
  exact ih _ _ (fun y hy => hx y (List.mem_cons_of_mem _ hy)) (fun y hy => ht y (List.mem_cons_of_mem _ hy)) (goodS_set hS _ hj1 hj2) (by rw [List.length_set]; exact hn) (sets_set_all h _ hw)
theorem fround_mono : ∀ (xs : List Lk) (sets : Sets) (more : Bool), (∀ x ∈ xs, GoodL n x) → GoodSM 600 sets → sets.length = n → ∀ i : Int, 0 ≤ i ∧ i < n → ∀ y ∈ rd_L6 sets i, y ∈ rd_L6 (froundA K xs sets more).1 i := by
 intro xs
 induction xs with
 | nil => intro sets more _ _ _ i _ y hy; exact hy
 | cons x xs ih =>
  intro sets more hx hS hn i hi y hy
  have hx0 := hx x List.mem_cons_self
  have hj := catL_good hK hS hn hx0
  have hm : ∀ y ∈ rd_L6 sets x.f0, y ∈ setP (rd_L6 sets x.f0 ++ catA K x.f2 (rd_L6 sets x.f1)) := fun y hy => by
   rw [setP_eq, mem_setT]; exact List.mem_append_left _ hy
  unfold froundA
  generalize setP (rd_L6 sets x.f0 ++ catA K x.f2 (rd_L6 sets x.f1)) = j at hj hm ⊢
  by_cases c : 600 < j.length
  ·rw [if_pos c]; exact hy
  rw [if_neg c]
  obtain ⟨hj1, hj2⟩ := hj (by omega)
  refine ih _ _ (fun y hy => hx y (List.mem_cons_of_mem _ hy)) (goodS_set hS _ hj1 hj2) (by rw [List.length_set]; exact hn) i hi y ?_
  rw [rd_set (by rw [hn]; exact hx0.1) (by rw [hn]; exact hi)]
  by_cases e : i = x.f0
  ·rw [if_pos e]; exact hm y (e ▸ hy)
  ·rw [if_neg e]; exact hy
theorem fround_more : ∀ (xs : List Lk) (sets : Sets), (froundA K xs sets true).2.2 = true → (froundA K xs sets true).2.1 = true := by
 intro xs
 induction xs with
 | nil => intro sets _; rfl
 | cons x xs ih =>
  intro sets h
  unfold froundA at h ⊢
  generalize setP (rd_L6 sets x.f0 ++ catA K x.f2 (rd_L6 sets x.f1)) = j at h ⊢
  by_cases c : 600 < j.length
  ·rw [if_pos c] at h; cases h
  rw [if_neg c] at h ⊢
  rw [Bool.true_or] at h ⊢
  exact ih _ h
def FixL (K : Nat) (xs : List Lk) (S : Sets) : Prop := ∀ x ∈ xs, ∀ y ∈ catA K x.f2 (rd_L6 S x.f1), y ∈ rd_L6 S x.f0
theorem fround_fix : ∀ (xs : List Lk) (S : Sets), (∀ x ∈ xs, GoodL n x) → GoodSM 600 S → S.length = n → (froundA K xs S false).2.2 = true → (froundA K xs S false).2.1 = false → (froundA K xs S false).1 = S ∧ FixL K xs S := by
 intro xs
 induction xs with
 | nil => intro S _ _ _ _ _; exact ⟨rfl, fun p hp => nomatch hp⟩
 | cons x xs ih =>
  intro S hx hS hn h3 h4
  have hx0 := hx x List.mem_cons_self
  have hp : 0 ≤ x.f0 ∧ x.f0 < (S.length : Int) := by rw [hn]; exact hx0.1
  have hin : ∀ y ∈ catA K x.f2 (rd_L6 S x.f1), y ∈ setP (rd_L6 S x.f0 ++ catA K x.f2 (rd_L6 S x.f1)) := fun y hy => by
   rw [setP_eq, mem_setT]; exact List.mem_append_right _ hy
  obtain ⟨-, hg⟩ := join_grows hS hp (catA K x.f2 (rd_L6 S x.f1))
  unfold froundA at h3 h4 ⊢
  generalize setP (rd_L6 S x.f0 ++ catA K x.f2 (rd_L6 S x.f1)) = j at h3 h4 hin hg ⊢
  by_cases c : 600 < j.length
  ·rw [if_pos c] at h3; cases h3
  rw [if_neg c] at h3 h4 ⊢
  by_cases d : (rd_L6 S x.f0).length < j.length
  ·rw [decide_eq_true d, Bool.or_true] at h3 h4
   rw [fround_more hK _ _ h3] at h4; cases h4
  ·have he := hg (Nat.not_lt.1 d)
   have hse : S.set x.f0.toNat j = S := by
    rw [← he, rd_at hp]
    exact List.set_getElem_self _
   rw [decide_eq_false d, Bool.or_false, hse] at h3 h4 ⊢
   obtain ⟨i1, i2⟩ := ih S (fun y hy => hx y (List.mem_cons_of_mem _ hy)) hS hn h3 h4
   refine ⟨i1, fun q hq => ?_⟩
   rcases List.mem_cons.1 hq with rfl | hq
   ·intro y hy
    rw [he]; exact hin y hy
   ·exact i2 q hq
theorem floop_facts (xs : List Lk) (hx : ∀ x ∈ xs, GoodL n x) (ht : ∀ x ∈ xs, ∀ t ∈ x.f2, TokT t) : ∀ (m : Nat) (S s : Sets), GoodSM 600 S → S.length = n → floopA K xs m S = some s → (∀ a ∈ S, ∀ x ∈ a, WholeT K x) →
  (GoodSM 600 s ∧ s.length = n) ∧ FixL K xs s ∧ (∀ a ∈ s, ∀ x ∈ a, WholeT K x) ∧ ∀ i : Int, 0 ≤ i ∧ i < n → ∀ y ∈ rd_L6 S i, y ∈ rd_L6 s i := by
 intro m
 induction m with
 | zero => intro S s _ _ h; cases h
 | succ m ih =>
  intro S s hS hn h hw
  obtain ⟨g1, g2, -, -⟩ := froundA_spec hK xs S false hx hS hn
  have hf := fround_fix hK (n := n) xs S hx hS hn
  have ha := fround_all hK xs S false hx ht hS hn hw
  have hm := fround_mono hK xs S false hx hS hn
  unfold floopA at h
  generalize froundA K xs S false = x at h g1 g2 hf ha hm
  by_cases h1 : x.2.2 = false
  ·rw [if_pos h1] at h; cases h
  rw [if_neg h1] at h
  by_cases h2 : x.2.1 = false
  ·rw [if_pos h2] at h
   obtain ⟨e, hF⟩ := hf (by simpa using h1) h2
   obtain rfl := Option.some.inj h
   rw [e] at ha ⊢
   exact ⟨⟨hS, hn⟩, hF, ha, fun i _ y hy => hy⟩
  ·rw [if_neg h2] at h
   obtain ⟨i1, i2, i3, i4⟩ := ih _ _ g1 g2 h ha
   exact ⟨i1, i2, i3, fun i hi y hy => i4 i hi y (hm i hi y hy)⟩
end
theorem linksP_mem {K : Nat} {F : Sets} {left : Int} : ∀ (l : List Sym) (a : List Lk), linksP K F left l = some a → ∀ s ∈ l, s.f0 = false → ∃ r : List Sym, (∀ q ∈ r, q ∈ l) ∧ (rowG (catA K) 600 F r [(⟨#[]⟩ : ByteArray)]).2 = true ∧ (⟨s.f1, left, (rowG (catA K) 600 F r [(⟨#[]⟩ : ByteArray)]).1⟩ : Lk) ∈ a := by
 intro l
 induction l with
 | nil => intro a _ s hs; exact nomatch hs
 | cons q l ih =>
  intro a h s hs h0
  unfold linksP at h
  by_cases c : q.f0 = true
  ·rw [if_pos c] at h
   rcases List.mem_cons.1 hs with rfl | hs
   ·rw [h0] at c; cases c
   ·obtain ⟨r, h1, h2, h3⟩ := ih a h s hs h0
    exact ⟨r, fun z hz => List.mem_cons_of_mem _ (h1 z hz), h2, h3⟩
  ·rw [if_neg c] at h
   by_cases d : (rowG (catA K) 600 F l [(⟨#[]⟩ : ByteArray)]).2 = true
   ·rw [if_pos d] at h
    obtain ⟨b, hb, rfl⟩ := Option.map_eq_some_iff.1 h
    rcases List.mem_cons.1 hs with rfl | hs
    ·exact ⟨l, fun z hz => List.mem_cons_of_mem _ hz, d, List.mem_cons_self⟩
    ·obtain ⟨r, h1, h2, h3⟩ := ih b hb s hs h0
     exact ⟨r, fun z hz => List.mem_cons_of_mem _ (h1 z hz), h2, List.mem_cons_of_mem _ h3⟩
   ·rw [if_neg d] at h; cases h
theorem linksL_mem {K : Nat} {F : Sets} : ∀ (L : List Prod') (xs : List Lk), linksL K F L = some xs → ∀ p ∈ L, ∀ s ∈ p.f1, s.f0 = false → ∃ r : List Sym, (∀ q ∈ r, q ∈ p.f1) ∧ (rowG (catA K) 600 F r [(⟨#[]⟩ : ByteArray)]).2 = true ∧ (⟨s.f1, p.f0, (rowG (catA K) 600 F r [(⟨#[]⟩ : ByteArray)]).1⟩ : Lk) ∈ xs := by
 intro L
 induction L with
 | nil => intro xs _ p hp; exact nomatch hp
 | cons q L ih =>
  intro xs h p hp s hs h0
  obtain ⟨a, ha, h⟩ := Option.bind_eq_some_iff.1 h
  obtain ⟨b, hb, rfl⟩ := Option.map_eq_some_iff.1 h
  rcases List.mem_cons.1 hp with rfl | hp
  ·obtain ⟨r, h1, h2, h3⟩ := linksP_mem _ a ha s hs h0
   exact ⟨r, h1, h2, List.mem_append_left _ h3⟩
  ·obtain ⟨r, h1, h2, h3⟩ := ih b hb p hp s hs h0
   exact ⟨r, h1, h2, List.mem_append_right _ h3⟩
theorem linksP_toks {K : Nat} {F : Sets} {toks : Int} {n : Nat} (htoks : toks ≤ 60) (hF : ∀ a ∈ F, ∀ x ∈ a, TokT x) (hn : F.length = n) {left : Int} : ∀ (l : List Sym), l.any (symBad toks n) = false → ∀ a, linksP K F left l = some a → ∀ x ∈ a, ∀ t ∈ x.f2, TokT t := by
 intro l
 induction l with
 | nil => intro _ a h; obtain rfl := Option.some.inj h; exact fun x hx => nomatch hx
 | cons s l ih =>
  intro hb a h
  rw [List.any_cons, Bool.or_eq_false_iff] at hb
  unfold linksP at h
  by_cases h0 : s.f0 = true
  ·rw [if_pos h0] at h; exact ih hb.2 a h
  ·rw [if_neg h0] at h
   by_cases h1 : (rowG (catA K) 600 F l [(⟨#[]⟩ : ByteArray)]).2 = true
   ·rw [if_pos h1] at h
    obtain ⟨b, hb2, rfl⟩ := Option.map_eq_some_iff.1 h
    intro x hx
    rcases List.mem_cons.1 hx with rfl | hx
    ·exact rowG_all (M := 600) (sets := F) TokT (fun a b => tok_cat a b) l [(⟨#[]⟩ : ByteArray)] (fun s hs => mem_set_all hn hF (fun k h1 h2 => tok_one k h1 (by omega)) (any_mem hb.2 hs)) (fun x hx => by rw [List.mem_singleton.1 hx]; exact fun b hb => nomatch hb)
    ·exact ih hb.2 b hb2 x hx
   ·rw [if_neg h1] at h; cases h
theorem linksL_toks {K : Nat} {F : Sets} {toks : Int} {n : Nat} (htoks : toks ≤ 60) (hF : ∀ a ∈ F, ∀ x ∈ a, TokT x) (hn : F.length = n) : ∀ (L : List Prod'), L.any (prodBad toks n) = false → ∀ xs, linksL K F L = some xs → ∀ x ∈ xs, ∀ t ∈ x.f2, TokT t := by
 intro L
 induction L with
 | nil => intro _ xs h; obtain rfl := Option.some.inj h; exact fun x hx => nomatch hx
 | cons p ps ih =>
  intro hb xs h
  rw [List.any_cons, Bool.or_eq_false_iff] at hb
  obtain ⟨a, ha, h⟩ := Option.bind_eq_some_iff.1 h
  obtain ⟨b, hb2, rfl⟩ := Option.map_eq_some_iff.1 h
  obtain ⟨hp, hr⟩ := prod_bad hb.1
  intro x hx
  rcases List.mem_append.1 hx with hx | hx
  ·exact linksP_toks htoks hF hn p.f1 hr a ha x hx
  ·exact ih hb.2 b hb2 x hx
theorem rdb_at {l : List Bool} {i : Int} (h : 0 ≤ i ∧ i < l.length) : rdOf false l i = l[i.toNat]'(by omega) := by
 unfold rdOf
 rw [List.getD_eq_getElem?_getD, List.getElem?_eq_getElem (by omega)]
 rfl
theorem rdb_set {l : List Bool} {p i : Int} (hp : 0 ≤ p ∧ p < l.length) (hi : 0 ≤ i ∧ i < l.length) (b : Bool) : rdOf false (l.set p.toNat b) i = if i = p then b else rdOf false l i := by
 rw [rdb_at (by rw [List.length_set]; exact hi), List.getElem_set]
 by_cases h : i = p
 ·rw [if_pos h, if_pos (by rw [h])]
 ·rw [if_neg h, if_neg (by omega), ← rdb_at hi]
def rowM (tok : Bool) (out : List Bool) (l : List Sym) : Bool := l.all fun s => if s.f0 = true then tok else rdOf false out s.f1
def markR (tok : Bool) : List Prod' → List Bool → Bool → List Bool × Bool
 | [], out, more => (out, more)
 | p :: ps, out, more => if rdOf false out p.f0 = true then markR tok ps out more else if rowM tok out p.f1 = true then markR tok ps (out.set p.f0.toNat true) true else markR tok ps out more
def markL (tok : Bool) (L : List Prod') : Nat → List Bool → List Bool
 | 0, out => out
 | m + 1, out => if (markR tok L out false).2 = true then markL tok L m (markR tok L out false).1 else (markR tok L out false).1
def falses (l : List Bool) : Nat := l.countP fun b => !b
theorem falses_set : ∀ (l : List Bool) (i : Nat) (h : i < l.length), l[i] = false → falses (l.set i true) + 1 = falses l := by
 intro l
 induction l with
 | nil => intro i h; simp at h
 | cons a l ih =>
  intro i h h2
  cases i with
  | zero =>
   simp only [List.getElem_cons_zero] at h2
   subst h2
   unfold falses
   simp [List.countP_cons]
  | succ i =>
   have := ih i (by simpa using h) (by simpa using h2)
   unfold falses at this ⊢
   simp only [List.set_cons_succ, List.countP_cons]
   omega
theorem markR_spec (tok : Bool) {toks : Int} {n : Nat} : ∀ (ps : List Prod') (out : List Bool) (more : Bool), out.length = n → ps.any (prodBad toks n) = false → (markR tok ps out more).1.length = n ∧ falses (markR tok ps out more).1 ≤ falses out ∧ (more = false → (markR tok ps out more).2 = true → falses (markR tok ps out more).1 < falses out) := by
 intro ps
 induction ps with
 | nil => intro out more hn _; exact ⟨hn, Nat.le_refl _, fun h1 h2 => by rw [show (markR tok [] out more).2 = more from rfl, h1] at h2; cases h2⟩
 | cons p ps ih =>
  intro out more hn hb
  rw [List.any_cons, Bool.or_eq_false_iff] at hb
  obtain ⟨hp, -⟩ := prod_bad hb.1
  unfold markR
  by_cases h1 : rdOf false out p.f0 = true
  ·rw [if_pos h1]; exact ih out more hn hb.2
  rw [if_neg h1]
  by_cases h2 : rowM tok out p.f1 = true
  ·rw [if_pos h2]
   have hf := falses_set out p.f0.toNat (by omega) (by rw [← rdb_at (by rw [hn]; exact hp)]; simpa using h1)
   obtain ⟨i1, i2, -⟩ := ih (out.set p.f0.toNat true) true (by rw [List.length_set]; exact hn) hb.2
   exact ⟨i1, by omega, fun _ _ => by omega⟩
  ·rw [if_neg h2]; exact ih out more hn hb.2
theorem markR_all (tok : Bool) {toks : Int} {n : Nat} (P : Int → Prop) {L : List Prod'} (hP : ∀ p ∈ L, ∀ out : List Bool, (∀ i : Int, 0 ≤ i ∧ i < n → rdOf false out i = true → P i) → rowM tok out p.f1 = true → P p.f0) : ∀ (ps : List Prod') (out : List Bool) (more : Bool), (∀ p ∈ ps, p ∈ L) → out.length = n → ps.any (prodBad toks n) = false → (∀ i : Int, 0 ≤ i ∧ i < n → rdOf false out i = true → P i) →
  ∀ i : Int, 0 ≤ i ∧ i < n → rdOf false (markR tok ps out more).1 i = true → P i := by
 intro ps
 induction ps with
 | nil => intro out more _ _ _ h; exact h
 | cons p ps ih =>
  intro out more hL hn hb h
  rw [List.any_cons, Bool.or_eq_false_iff] at hb
  obtain ⟨hp, -⟩ := prod_bad hb.1
  unfold markR
  by_cases h1 : rdOf false out p.f0 = true
  ·rw [if_pos h1]; exact ih out more (fun q hq => hL q (List.mem_cons_of_mem _ hq)) hn hb.2 h
  rw [if_neg h1]
  by_cases h2 : rowM tok out p.f1 = true
  ·rw [if_pos h2]
   refine ih _ true (fun q hq => hL q (List.mem_cons_of_mem _ hq)) (by rw [List.length_set]; exact hn) hb.2 fun i hi hi2 => ?_
   rw [rdb_set (by rw [hn]; exact hp) (by rw [hn]; exact hi)] at hi2
   by_cases e : i = p.f0
   ·rw [e]; exact hP p (hL p List.mem_cons_self) out h h2
   ·rw [if_neg e] at hi2; exact h i hi hi2
  ·rw [if_neg h2]; exact ih out more (fun q hq => hL q (List.mem_cons_of_mem _ hq)) hn hb.2 h
theorem markL_all (tok : Bool) {toks : Int} {n : Nat} (P : Int → Prop) {L : List Prod'} (hb : L.any (prodBad toks n) = false) (hP : ∀ p ∈ L, ∀ out : List Bool, (∀ i : Int, 0 ≤ i ∧ i < n → rdOf false out i = true → P i) → rowM tok out p.f1 = true → P p.f0) : ∀ (m : Nat) (out : List Bool), out.length = n → (∀ i : Int, 0 ≤ i ∧ i < n → rdOf false out i = true → P i) → (markL tok L m out).length = n ∧ ∀ i : Int, 0 ≤ i ∧ i < n → rdOf false (markL tok L m out) i = true → P i := by
 intro m
 induction m with
 | zero => intro out hn h; exact ⟨hn, h⟩
 | succ m ih =>
  intro out hn h
  obtain ⟨g1, -, -⟩ := markR_spec tok L out false hn hb
  have ha := markR_all tok P hP L out false (fun p hp => hp) hn hb h
  unfold markL
  by_cases c : (markR tok L out false).2 = true
  ·rw [if_pos c]; exact ih _ g1 ha
  ·rw [if_neg c]; exact ⟨g1, ha⟩
section
variable (toks look : Int) (of : List Int) (L : List Prod') (hL : L.length ≤ 1000000) (hb : L.any (prodBad toks of.length) = false) (hl : ∀ p ∈ L, p.f1.length ≤ 1000000)
include hL hb hl
omit hL hb hl in
theorem rowM_ev (tok : Bool) (out : List Bool) (l : List Sym) (hll : l.length ≤ 1000000000) (hlb : l.any (symBad toks out.length) = false) : ∀ (d i : Nat), i + d = l.length → Ev (fun k => gramaryeref10_row.l0 k l tok out i) (rowM tok out (l.drop i)) := by
 intro d
 induction d with
 | zero =>
  intro i hi
  rw [List.drop_of_length_le (by omega)]
  exact Ev.step (fun k => by rw [gramaryeref10_row.l0, if_neg (by omega)]; rfl) (Ev.now _)
 | succ d ih =>
  intro i hi
  have hlt : i < l.length := by omega
  have hw : wrap64 ((i : Int) + 1) = ((i + 1 : Nat) : Int) := by rw [wrap_id (by omega)]; rfl
  have hbs := any_mem hlb (List.getElem_mem hlt)
  have hi2 := ih (i + 1) (by clear hw; omega)
  rw [List.drop_eq_getElem_cons hlt]
  refine Ev.step (fun k => by rw [gramaryeref10_row.l0, if_pos (by clear hw; omega), if_pos (by clear hw; omega), rdS hlt, hw]) ?_
  have e : rowM tok out (l[i] :: l.drop (i + 1)) = ((if l[i].f0 = true then tok else rdOf false out l[i].f1) && rowM tok out (l.drop (i + 1))) := by unfold rowM; rw [List.all_cons]
  rw [e]
  by_cases h0 : l[i].f0 = true
  ·rw [if_pos h0]
   refine Ev.ite_pos h0 ?_
   cases tok
   ·exact Ev.ite_neg (by simp) (Ev.now _)
   ·exact Ev.ite_pos rfl (by rw [Bool.true_and]; exact hi2)
  ·rw [if_neg h0]
   have h2 : 0 ≤ l[i].f1 ∧ l[i].f1 < (out.length : Int) := by
    unfold symBad at hbs
    rw [if_neg h0] at hbs
    simpa using hbs
   refine Ev.ite_neg h0 (Ev.ite_pos h2.1 (Ev.ite_pos h2.2 ?_))
   cases hr : rdOf false out l[i].f1
   ·exact Ev.ite_neg (by simp) (Ev.now _)
   ·exact Ev.ite_pos rfl (by rw [Bool.true_and]; exact hi2)
theorem markR_ev (tok : Bool) (r : List Bool) : ∀ (d i : Nat) (out : List Bool) (more : Bool), i + d = L.length → out.length = of.length → Ev (fun k => gramaryeref10_mark.l0 k tok (markR tok (L.drop i) out more).1 (markR tok (L.drop i) out more).2 toks look of L) r → Ev (fun k => gramaryeref10_mark.l1 k tok out more i toks look of L) r := by
 intro d
 induction d with
 | zero =>
  intro i out more hi _ h
  rw [List.drop_of_length_le (by omega)] at h
  exact Ev.step (fun k => by rw [gramaryeref10_mark.l1, if_neg (by omega)]; rfl) h
 | succ d ih =>
  intro i out more hi hn h
  have hlt : i < L.length := by omega
  have hw : wrap64 ((i : Int) + 1) = ((i + 1 : Nat) : Int) := by rw [wrap_id (by omega)]; rfl
  obtain ⟨hp, hr⟩ := prod_bad (any_mem hb (List.getElem_mem hlt))
  rw [← hn] at hp hr
  have hrow := rowM_ev toks tok out L[i].f1 (by have := hl _ (List.getElem_mem hlt); clear hw; omega) hr L[i].f1.length 0 (by omega)
  rw [List.drop_zero] at hrow
  rw [List.drop_eq_getElem_cons hlt] at h
  unfold markR at h
  refine Ev.step (fun k => by rw [gramaryeref10_mark.l1, if_pos (by clear hw; omega), if_pos (by clear hw; omega), rdP hlt, if_pos hp.1, if_pos hp.2, hw]) ?_
  by_cases h1 : rdOf false out L[i].f0 = true
  ·rw [if_pos h1] at h
   exact Ev.ite_pos h1 (ih (i + 1) out more (by clear hw; omega) hn h)
  rw [if_neg h1] at h
  refine Ev.ite_neg h1 (Ev.bind (by unfold gramaryeref10_row.f; exact hrow) ?_)
  by_cases h2 : rowM tok out L[i].f1 = true
  ·rw [if_pos h2] at h
   exact Ev.ite_pos h2 (ih (i + 1) _ true (by clear hw; omega) (by rw [List.length_set]; exact hn) h)
  ·rw [if_neg h2] at h
   exact Ev.ite_neg h2 (ih (i + 1) out more (by clear hw; omega) hn h)
theorem markL_ev (tok : Bool) : ∀ (m : Nat) (out : List Bool), out.length = of.length → falses out < m → Ev (fun k => gramaryeref10_mark.l0 k tok out true toks look of L) (markL tok L m out) := by
 intro m
 induction m with
 | zero => intro out _ h; omega
 | succ m ih =>
  intro out hn hm
  obtain ⟨g1, g2, g3⟩ := markR_spec tok L out false hn hb
  have hr := fun r => markR_ev toks look of L hL hb hl tok r L.length 0 out false (by omega) hn
  simp only [List.drop_zero] at hr
  unfold markL
  generalize markR tok L out false = x at g1 g2 g3 hr ⊢
  refine Ev.step (fun k => by rw [gramaryeref10_mark.l0, if_pos rfl]; rfl) (hr _ ?_)
  by_cases c : x.2 = true
  ·rw [if_pos c, c]
   have := g3 rfl c
   exact ih _ g1 (by omega)
  ·rw [if_neg c, show x.2 = false by simpa using c]
   exact Ev.step (fun k => by rw [gramaryeref10_mark.l0, if_neg (by simp)]) (Ev.now _)
theorem mark_ev (tok : Bool) (hof : of.length ≤ 1000000) : Ev (fun k => gramaryeref10_mark.f k toks look of L tok) (markL tok L (of.length + 1) (List.replicate of.length false)) := by
 unfold gramaryeref10_mark.f
 refine Ev.ite_pos (by omega) (Ev.ite_pos (by omega) ?_)
 rw [Int.toNat_natCast]
 exact markL_ev toks look of L hL hb hl tok _ _ (List.length_replicate ..) (by unfold falses; have := List.countP_le_length (p := fun b => !b) (l := List.replicate of.length false); rw [List.length_replicate] at this; omega)
end
theorem rd_int' {l : List Int} {i : Nat} (h : i < l.length) : rd l (i : Int) = l[i] := by
 unfold rd
 simp [List.getD_eq_getElem?_getD, h]
theorem hasint_ev (l : List Int) (a : Int) (hl : l.length ≤ 1000000000) : Ev (fun k => gramaryebase_HasInt.f k l a) (decide (a ∈ l)) := by
 have key : ∀ (d i : Nat), i + d = l.length → Ev (fun k => gramaryebase_HasInt.l0 k l a i) (decide (a ∈ l.drop i)) := by
  intro d
  induction d with
  | zero =>
   intro i hi
   rw [List.drop_of_length_le (by omega), decide_eq_false (by simp)]
   exact Ev.step (fun k => by rw [gramaryebase_HasInt.l0, if_neg (by omega)]) (Ev.now _)
  | succ d ih =>
   intro i hi
   have hlt : i < l.length := by omega
   have hw : wrap64 ((i : Int) + 1) = ((i + 1 : Nat) : Int) := by rw [wrap_id (by omega)]; rfl
   rw [List.drop_eq_getElem_cons hlt]
   refine Ev.step (fun k => by rw [gramaryebase_HasInt.l0, if_pos (by clear hw; omega), if_pos (by clear hw; omega), rd_int' hlt, hw]) ?_
   by_cases h : l[i] = a
   ·rw [decide_eq_true (by rw [h]; exact List.mem_cons_self)]
    exact Ev.ite_pos h (Ev.now _)
   ·have e : decide (a ∈ l[i] :: l.drop (i + 1)) = decide (a ∈ l.drop (i + 1)) := decide_eq_decide.2 (by rw [List.mem_cons]; exact ⟨fun h2 => h2.resolve_left fun e => h e.symm, .inr⟩)
    rw [e]
    exact Ev.ite_neg h (ih (i + 1) (by clear hw; omega))
 have h := key l.length 0 (by omega)
 rw [List.drop_zero] at h
 exact h
def hasS (m : Int) (l : List Sym) : Bool := l.any fun s => !s.f0 && (s.f1 == m)
def isN (L : List Prod') (n m : Int) : Bool := L.any fun p => decide (p.f0 = n) && hasS m p.f1
def nextF (L : List Prod') (n : Int) : Nat → Int → List Int
 | 0, _ => []
 | d + 1, m => (if isN L n m = true then [m] else []) ++ nextF L n d (m + 1)
theorem nextF_mem {L : List Prod'} {n : Int} : ∀ (d : Nat) (m : Int), (∀ x ∈ nextF L n d m, (m ≤ x ∧ x < m + d) ∧ isN L n x = true) ∧ (nextF L n d m).length ≤ d := by
 intro d
 induction d with
 | zero => intro m; exact ⟨fun x hx => (nomatch hx), Nat.le_refl _⟩
 | succ d ih =>
  intro m
  obtain ⟨i1, i2⟩ := ih (m + 1)
  unfold nextF
  refine ⟨fun x hx => ?_, ?_⟩
  ·rcases List.mem_append.1 hx with hx | hx
   ·by_cases c : isN L n m = true
    ·rw [if_pos c] at hx
     rw [List.mem_singleton.1 hx]
     exact ⟨by omega, c⟩
    ·rw [if_neg c] at hx; exact nomatch hx
   ·obtain ⟨h1, h2⟩ := i1 x hx
    exact ⟨by omega, h2⟩
  ·rw [List.length_append]
   split <;> simp <;> omega
section
variable (toks look : Int) (of : List Int) (hof : of.length ≤ 1000000) (L : List Prod') (hL : L.length ≤ 1000000) (hb : L.any (prodBad toks of.length) = false) (hl : ∀ p ∈ L, p.f1.length ≤ 1000000)
include hL hl hof hb
omit hof hb in
theorem nx_l2 (n : Int) (x7 : List Bool) (out : List Int) (m : Int) (i : Nat) (hi : i < L.length) (r : List Int) : ∀ (d j : Nat) (is : Bool), j + d = L[i].f1.length → Ev (fun k => gramaryeref11_Next.l1 k n true x7 out m (is || hasS m (L[i].f1.drop j)) ((i + 1 : Nat) : Int) toks look of L) r → Ev (fun k => gramaryeref11_Next.l2 k n true x7 out m is i j toks look of L) r := by
 have hw1 : wrap64 ((i : Int) + 1) = ((i + 1 : Nat) : Int) := by rw [wrap_id (by omega)]; rfl
 have hll := hl _ (List.getElem_mem hi)
 intro d
 induction d with
 | zero =>
  intro j is hj h
  have e0 : L[i].f1.drop j = [] := List.drop_of_length_le (by clear hw1; omega)
  rw [e0, show hasS m [] = false from rfl, Bool.or_false] at h
  exact Ev.step (fun k => by rw [gramaryeref11_Next.l2, if_pos (by clear hw1; omega), if_pos (by clear hw1; omega), rdP hi, if_neg (by clear hw1; omega), hw1]) h
 | succ d ih =>
  intro j is hj h
  have hlt : j < L[i].f1.length := by clear hw1; omega
  have hw : wrap64 ((j : Int) + 1) = ((j + 1 : Nat) : Int) := by clear hw1; rw [wrap_id (by omega)]; rfl
  rw [List.drop_eq_getElem_cons hlt] at h
  have e : hasS m (L[i].f1[j] :: L[i].f1.drop (j + 1)) = ((!L[i].f1[j].f0 && (L[i].f1[j].f1 == m)) || hasS m (L[i].f1.drop (j + 1))) := by unfold hasS; rw [List.any_cons]
  rw [e, ← Bool.or_assoc] at h
  have h2 := ih (j + 1) _ (by clear hw hw1; omega) h
  refine Ev.step (fun k => by rw [gramaryeref11_Next.l2, if_pos (by clear hw hw1; omega), if_pos (by clear hw hw1; omega), rdP hi, if_pos (by clear hw hw1; omega), if_pos (by clear hw hw1; omega), rdS hlt]) ?_
  have step : ∀ g : Bool, Ev (fun k => gramaryeref11_Next.l2 k n true x7 out m (is || g) i ((j + 1 : Nat) : Int) toks look of L) r → Ev (fun k => gramaryeref11_Next.j3 k n true x7 out m is i j g toks look of L L[i].f1[j].f0 L[i].f1[j].f1) r := by
   intro g hg
   cases g
   ·rw [Bool.or_false] at hg
    exact Ev.step (fun k => by rw [gramaryeref11_Next.j3, if_neg (by simp), if_pos rfl, hw]) hg
   ·rw [Bool.or_true] at hg
    exact Ev.step (fun k => by rw [gramaryeref11_Next.j3, if_pos rfl, if_pos rfl, hw]) hg
  cases h0 : L[i].f1[j].f0
  ·rw [h0] at h2 step
   simp only [Bool.not_false, Bool.true_and] at h2
   exact Ev.ite_neg (by simp) (step _ h2)
  ·rw [h0] at h2 step
   simp only [Bool.not_true, Bool.false_and] at h2
   exact Ev.ite_pos rfl (step _ h2)
omit hof hb in
theorem nx_l1 (n : Int) (x7 : List Bool) (out : List Int) (hout : out.length ≤ 1000000000) (m : Int) (r : List Int) : ∀ (d i : Nat) (is : Bool), i + d = L.length → Ev (fun k => gramaryeref11_Next.l0 k n true x7 (out ++ if (is || isN (L.drop i) n m) = true then [m] else []) (wrap64 (m + 1)) toks look of L) r → Ev (fun k => gramaryeref11_Next.l1 k n true x7 out m is i toks look of L) r := by
 intro d
 induction d with
 | zero =>
  intro i is hi h
  rw [List.drop_of_length_le (by omega), show isN [] n m = false from rfl, Bool.or_false] at h
  refine Ev.step (fun k => by rw [gramaryeref11_Next.l1, if_neg (by omega)]) ?_
  by_cases c : is = true
  ·rw [if_pos c] at h
   exact Ev.ite_pos c (Ev.ite_pos (by omega) h)
  ·rw [if_neg c, List.append_nil] at h
   exact Ev.ite_neg c h
 | succ d ih =>
  intro i is hi h
  have hlt : i < L.length := by omega
  have hw : wrap64 ((i : Int) + 1) = ((i + 1 : Nat) : Int) := by rw [wrap_id (by omega)]; rfl
  rw [List.drop_eq_getElem_cons hlt] at h
  have e : isN (L[i] :: L.drop (i + 1)) n m = ((decide (L[i].f0 = n) && hasS m L[i].f1) || isN (L.drop (i + 1)) n m) := by unfold isN; rw [List.any_cons]
  rw [e, ← Bool.or_assoc] at h
  have h2 := ih (i + 1) _ (by clear hw; omega) h
  refine Ev.step (fun k => by rw [gramaryeref11_Next.l1, if_pos (by clear hw; omega), if_pos (by clear hw; omega), rdP hlt, hw]) ?_
  by_cases c : L[i].f0 = n
  ·rw [decide_eq_true c, Bool.true_and] at h2
   exact Ev.ite_pos c (nx_l2 toks look of L hL hl n x7 out m i hlt r L[i].f1.length 0 is (by clear hw; omega) (by rw [List.drop_zero]; exact h2))
  ·rw [decide_eq_false c, Bool.false_and, Bool.or_false] at h2
   exact Ev.ite_neg c h2
omit hb in
theorem nx_l0 (n : Int) (x7 : List Bool) : ∀ (d i : Nat) (out : List Int), i + d = of.length → out.length ≤ i → Ev (fun k => gramaryeref11_Next.l0 k n true x7 out i toks look of L) (out ++ nextF L n d i) := by
 intro d
 induction d with
 | zero =>
  intro i out hi _
  rw [show nextF L n 0 i = [] from rfl, List.append_nil]
  exact Ev.step (fun k => by rw [gramaryeref11_Next.l0, if_neg (by omega)]) (Ev.now _)
 | succ d ih =>
  intro i out hi ho
  have hw : wrap64 ((i : Int) + 1) = ((i + 1 : Nat) : Int) := by rw [wrap_id (by omega)]; rfl
  unfold nextF
  rw [← List.append_assoc]
  refine Ev.step (fun k => by rw [gramaryeref11_Next.l0, if_pos (by clear hw; omega)]; rfl) (nx_l1 toks look of L hL hl n x7 out (by clear hw; omega) i _ L.length 0 false (by clear hw; omega) ?_)
  rw [List.drop_zero, Bool.false_or, hw]
  exact ih (i + 1) _ (by clear hw; omega) (by rw [List.length_append]; split <;> simp <;> clear hw <;> omega)
theorem next_ev (n : Int) : Ev (fun k => gramaryeref11_Next.f k toks look of L n true) (nextF L n of.length 0) := by
 have hm := mark_ev toks look of L hL hb hl false hof
 have h := nx_l0 toks look of hof L hL hl n (markL false L (of.length + 1) (List.replicate of.length false)) of.length 0 [] (by omega) (Nat.le_refl _)
 rw [List.nil_append] at h
 unfold gramaryeref11_Next.f gramaryeref10_Nothing.f
 exact Ev.bind (Ev.bind hm (Ev.now _)) h
def addAll (out x : List Int) : List Int := x.foldl (fun o m => if m ∈ o then o else o ++ [m]) out
omit hof hL hl hb in
theorem addAll_facts (Q : Int → Prop) : ∀ (x out : List Int), out.Nodup → (∀ m ∈ out, Q m) → (∀ m ∈ x, Q m) → (addAll out x).Nodup ∧ (∀ m ∈ addAll out x, Q m) ∧ out.length ≤ (addAll out x).length := by
 intro x
 induction x with
 | nil => intro out h1 h2 _; exact ⟨h1, h2, Nat.le_refl _⟩
 | cons a x ih =>
  intro out h1 h2 h3
  have ha := h3 a List.mem_cons_self
  have hx : ∀ m ∈ x, Q m := fun m hm => h3 m (List.mem_cons_of_mem _ hm)
  show (addAll (if a ∈ out then out else out ++ [a]) x).Nodup ∧ _ ∧ out.length ≤ (addAll (if a ∈ out then out else out ++ [a]) x).length
  by_cases c : a ∈ out
  ·rw [if_pos c]
   have e : addAll out (a :: x) = addAll out x := by show addAll (if a ∈ out then out else out ++ [a]) x = _; rw [if_pos c]
   rw [e]
   exact ih out h1 h2 hx
  ·rw [if_neg c]
   have e : addAll out (a :: x) = addAll (out ++ [a]) x := by show addAll (if a ∈ out then out else out ++ [a]) x = _; rw [if_neg c]
   rw [e]
   obtain ⟨i1, i2, i3⟩ := ih (out ++ [a]) (by
    rw [List.nodup_append]
    exact ⟨h1, List.pairwise_singleton _ _, fun u hu v hv e => c (by rw [List.mem_singleton.1 hv] at e; exact e ▸ hu)⟩) (fun m hm => by
    rcases List.mem_append.1 hm with hm | hm
    ·exact h2 m hm
    ·rw [List.mem_singleton.1 hm]; exact ha) hx
   exact ⟨i1, i2, by rw [List.length_append] at i3; simp at i3; omega⟩
omit hof hL hl hb in
theorem fr_l1 (i : Nat) (hi : i ≤ 1000000000) (x : List Int) (hx : x.length ≤ 1000000000) (r : List Int) : ∀ (d j : Nat) (out : List Int), j + d = x.length → out.length + d ≤ 1000000000 → Ev (fun k => gramaryeref11_from.l0 k true (addAll out (x.drop j)) ((i + 1 : Nat) : Int) toks look of L) r → Ev (fun k => gramaryeref11_from.l1 k true out i x j toks look of L) r := by
 have hw1 : wrap64 ((i : Int) + 1) = ((i + 1 : Nat) : Int) := by rw [wrap_id (by omega)]; rfl
 intro d
 induction d with
 | zero =>
  intro j out hj _ h
  have e0 : x.drop j = [] := List.drop_of_length_le (by clear hw1; omega)
  rw [e0] at h
  exact Ev.step (fun k => by rw [gramaryeref11_from.l1, if_neg (by clear hw1; omega), hw1]; rfl) h
 | succ d ih =>
  intro j out hj ho h
  have hlt : j < x.length := by clear hw1; omega
  have hw : wrap64 ((j : Int) + 1) = ((j + 1 : Nat) : Int) := by clear hw1; rw [wrap_id (by omega)]; rfl
  have hh := hasint_ev out x[j] (by clear hw hw1; omega)
  rw [List.drop_eq_getElem_cons hlt] at h
  replace h : Ev (fun k => gramaryeref11_from.l0 k true (addAll (if x[j] ∈ out then out else out ++ [x[j]]) (x.drop (j + 1))) ((i + 1 : Nat) : Int) toks look of L) r := h
  refine Ev.step (fun k => by rw [gramaryeref11_from.l1, if_pos (by clear hw hw1; omega), if_pos (by clear hw hw1; omega), rd_int' hlt, hw]) (Ev.bind hh ?_)
  by_cases c : x[j] ∈ out
  ·rw [if_pos c] at h
   exact Ev.ite_pos (decide_eq_true c) (ih (j + 1) out (by clear hw hw1; omega) (by clear hw hw1; omega) h)
  ·rw [if_neg c] at h
   exact Ev.ite_neg (by simpa using c) (Ev.ite_pos (by clear hw hw1; omega) (ih (j + 1) _ (by clear hw hw1; omega) (by rw [List.length_append]; simp; clear hw hw1; omega) h))
omit hof hL hl hb in
theorem short_range {N : Nat} {l : List Int} (h : l.Nodup) (hr : ∀ m ∈ l, 0 ≤ m ∧ m < (N : Int)) : l.length ≤ N := by
 have := short_of_subset l ((List.range N).map Int.ofNat) h (fun x hx => by
  obtain ⟨h1, h2⟩ := hr x hx
  exact List.mem_map.2 ⟨x.toNat, List.mem_range.2 (by omega), by show ((x.toNat : Nat) : Int) = x; omega⟩)
 rwa [List.length_map, List.length_range] at this
theorem fr_l0 (P : Int → Prop) (hP : ∀ a m, P a → (0 ≤ a ∧ a < (of.length : Int)) → isN L a m = true → (0 ≤ m ∧ m < (of.length : Int)) → P m) : ∀ (d i : Nat) (out : List Int), i + d = of.length → out.Nodup → (∀ m ∈ out, (0 ≤ m ∧ m < (of.length : Int)) ∧ P m) → i ≤ out.length →
  ∃ r : List Int, Ev (fun k => gramaryeref11_from.l0 k true out i toks look of L) r ∧ (∀ m ∈ r, (0 ≤ m ∧ m < (of.length : Int)) ∧ P m) ∧ r.length ≤ of.length := by
 intro d
 induction d with
 | zero =>
  intro i out hi hn ho hle
  have hs := short_range (N := of.length) hn (fun m hm => (ho m hm).1)
  exact ⟨out, Ev.step (fun k => by rw [gramaryeref11_from.l0, if_neg (by omega)]) (Ev.now _), ho, hs⟩
 | succ d ih =>
  intro i out hi hn ho hle
  have hs := short_range (N := of.length) hn (fun m hm => (ho m hm).1)
  by_cases c : i < out.length
  ·have ha := ho _ (List.getElem_mem c)
   have hx := next_ev toks look of hof L hL hb hl out[i]
   obtain ⟨n1, n2⟩ := nextF_mem (L := L) (n := out[i]) of.length 0
   obtain ⟨a1, a2, a3⟩ := addAll_facts (fun m => (0 ≤ m ∧ m < (of.length : Int)) ∧ P m) (nextF L out[i] of.length 0) out hn ho (fun m hm => by
    obtain ⟨h1, h2⟩ := n1 m hm
    exact ⟨by omega, hP out[i] m ha.2 ha.1 h2 (by omega)⟩)
   obtain ⟨r, hr, hr2⟩ := ih (i + 1) _ (by omega) a1 a2 (by omega)
   refine ⟨r, Ev.step (fun k => by rw [gramaryeref11_from.l0, if_pos (by omega), if_pos (by omega), rd_int' c]) (Ev.bind hx ?_), hr2⟩
   exact fr_l1 toks look of L i (by omega) (nextF L out[i] of.length 0) (by omega) r _ 0 out (Nat.zero_add _) (by omega) (by rw [List.drop_zero]; exact hr)
  ·exact ⟨out, Ev.step (fun k => by rw [gramaryeref11_from.l0, if_neg (by omega)]) (Ev.now _), ho, hs⟩
omit hof hL hl hb in
theorem rch_l0 (l : List Int) (hll : l.length ≤ 1000000000) (hof : of.length ≤ 1000000) : ∀ (d i : Nat), i + d = of.length → Ev (fun k => gramaryeref11_Reached.l0 k l ((List.range i).map fun m : Nat => decide ((m : Int) ∈ l)) i toks look of L) ((List.range of.length).map fun m : Nat => decide ((m : Int) ∈ l)) := by
 intro d
 induction d with
 | zero =>
  intro i hi
  rw [show i = of.length by omega]
  exact Ev.step (fun k => by rw [gramaryeref11_Reached.l0, if_neg (by omega)]) (Ev.now _)
 | succ d ih =>
  intro i hi
  have hw : wrap64 ((i : Int) + 1) = ((i + 1 : Nat) : Int) := by rw [wrap_id (by omega)]; rfl
  have hi2 := ih (i + 1) (by clear hw; omega)
  rw [List.range_succ, List.map_append] at hi2
  refine Ev.step (fun k => by rw [gramaryeref11_Reached.l0, if_pos (by clear hw; omega), hw]) ?_
  refine Ev.bind (hasint_ev l i hll) ?_
  exact Ev.ite_pos (by rw [List.length_map, List.length_range]; clear hw; omega) hi2
theorem reached_ev (h1 : 1 ≤ of.length) (P : Int → Prop) (h0 : P 0) (hP : ∀ a m, P a → (0 ≤ a ∧ a < (of.length : Int)) → isN L a m = true → (0 ≤ m ∧ m < (of.length : Int)) → P m) :
  ∃ R : List Bool, Ev (fun k => gramaryeref11_Reached.f k toks look of L) R ∧ R.length = of.length ∧ ∀ i : Int, 0 ≤ i ∧ i < of.length → rdOf false R i = true → P i := by
 obtain ⟨l, hl1, hl2, hl3⟩ := fr_l0 toks look of hof L hL hb hl P hP of.length 0 [0] (by omega) (List.pairwise_singleton _ _) (fun m hm => by rw [List.mem_singleton.1 hm]; exact ⟨by omega, h0⟩) (by simp)
 refine ⟨(List.range of.length).map fun m : Nat => decide ((m : Int) ∈ l), ?_, by rw [List.length_map, List.length_range], fun i hi h => ?_⟩
 ·have hr := rch_l0 toks look of L l (by omega) hof of.length 0 (by omega)
  unfold gramaryeref11_Reached.f gramaryeref11_from.f gramaryebase_Ints.f
  refine Ev.bind (Ev.bind0 (a := [0]) ?_ hl1) hr
  rfl
 ·rw [rdb_at (by rw [List.length_map, List.length_range]; exact hi)] at h
  simp only [List.getElem_map, List.getElem_range, decide_eq_true_eq] at h
  have e : ((i.toNat : Nat) : Int) = i := by omega
  rw [e] at h
  exact (hl2 i h).2
end
theorem bt_at {s : ByteArray} {i : Nat} (h : i < s.data.toList.length) : bt s (i : Int) = ((s.data.toList[i]).toNat : Int) := bt_get (by rw [← size_list]; exact h)
theorem may_whole (t : ByteArray) (look : Int) (hlook : 1 ≤ look ∧ look ≤ 4) (h : WholeT look.toNat t) : Ev (fun k => gramaryeref12_May.f k t look) true := by
 obtain ⟨hs, a, m, he, ha⟩ := h
 have hlen : a.length + m = t.size := by rw [← size_list, he, List.length_append, List.length_replicate]
 have hbt : ∀ i : Nat, i < t.size → (i < a.length → 1 ≤ bt t i ∧ bt t i ≤ 60) ∧ (a.length ≤ i → bt t i = 0) := by
  intro i hi
  rw [bt_at (by rw [size_list]; exact hi)]
  constructor
  ·intro hia
   have e : t.data.toList[i]'(by rw [size_list]; exact hi) = a[i] := by simp only [he]; rw [List.getElem_append_left hia]
   rw [e]
   have := ha _ (List.getElem_mem hia)
   omega
  ·intro hia
   have e : t.data.toList[i]'(by rw [size_list]; exact hi) = 0 := by simp only [he]; rw [List.getElem_append_right hia]; exact List.getElem_replicate ..
   rw [e]; rfl
 have key : ∀ (d i : Nat), i + d = t.size → Ev (fun k => gramaryeref12_May.l0 k t i) true := by
  intro d
  induction d with
  | zero =>
   intro i hi
   exact Ev.step (fun k => by rw [gramaryeref12_May.l0, if_neg (by omega)]) (Ev.now _)
  | succ d ih =>
   intro i hi
   have hw : wrap64 ((i : Int) + 1) = ((i + 1 : Nat) : Int) := by rw [wrap_id (by omega)]; rfl
   obtain ⟨b1, b2⟩ := hbt i (by clear hw; omega)
   have hi2 := ih (i + 1) (by clear hw; omega)
   refine Ev.step (fun k => by rw [gramaryeref12_May.l0, if_pos (by clear hw; omega), if_pos (by clear hw; omega), hw]) ?_
   refine Ev.ite_neg (by clear hw; omega) ?_
   by_cases c : (i : Int) > 0
   ·have hw2 : wrap64 ((i : Int) - 1) = ((i - 1 : Nat) : Int) := by clear hw; rw [wrap_id (by omega)]; omega
    obtain ⟨p1, p2⟩ := hbt (i - 1) (by clear hw hw2; omega)
    refine Ev.ite_pos c ?_
    rw [hw2]
    refine Ev.ite_pos (by clear hw hw2; omega) (Ev.ite_pos (by clear hw hw2; omega) ?_)
    by_cases z : bt t ((i - 1 : Nat) : Int) = 0
    ·refine Ev.ite_pos z (Ev.ite_pos (b2 ?_) hi2)
     clear hw hw2
     rcases Nat.lt_or_ge (i - 1) a.length with q | q
     ·have := p1 q; omega
     ·omega
    ·exact Ev.ite_neg z hi2
   ·exact Ev.ite_neg c hi2
 unfold gramaryeref12_May.f
 refine Ev.ite_neg (by omega) (Ev.ite_neg (by omega) ?_)
 exact Ev.step (fun k => by rw [gramaryeref12_May.j0, if_neg (by rw [decide_eq_true_eq]; omega)]; rfl) (key t.size 0 (by omega))
section
variable (toks look : Int) (hlook : 1 ≤ look ∧ look ≤ 4) (of : List Int) (L : List Prod') (S : Sets) (hS : GoodSM 600 S) (hn : S.length = of.length) (hlen : S.length ≤ 1000000) (R : List Bool) (hR : R.length = of.length) (all : Bool) (hne : all = true → ∀ i : Int, 0 ≤ i ∧ i < of.length → rdOf false R i = true → rd_L6 S i ≠ []) (hw : ∀ a ∈ S, ∀ x ∈ a, WholeT look.toNat x)
include hlook hS hn hlen hR hne hw
theorem fw_l2 (n : Nat) (hnn : n < S.length) (h : Ev (fun k => gramaryelaw15_FollowWhole.l1 k S R all ((n + 1 : Nat) : Int) toks look of L) true) : ∀ (d i : Nat), i + d = (rd_L6 S n).length → Ev (fun k => gramaryelaw15_FollowWhole.l2 k S R all n i toks look of L) true := by
 have hin := rd_sets (sets := S) (i := n) (by omega)
 have h6 := (hS _ hin).1.1
 have hw1 : wrap64 ((n : Int) + 1) = ((n + 1 : Nat) : Int) := by rw [wrap_id (by omega)]; rfl
 intro d
 induction d with
 | zero =>
  intro i hi
  exact Ev.step (fun k => by rw [gramaryelaw15_FollowWhole.l2, if_pos (by clear hw1; omega), if_pos (by clear hw1; omega), if_neg (by clear hw1; omega), hw1]) h
 | succ d ih =>
  intro i hi
  have hlt : i < (rd_L6 S n).length := by clear hw1; omega
  have hw2 : wrap64 ((i : Int) + 1) = ((i + 1 : Nat) : Int) := by clear hw1; rw [wrap_id (by omega)]; rfl
  have ht := hw _ hin _ (List.getElem_mem hlt)
  have hm := may_whole _ look hlook ht
  refine Ev.step (fun k => by rw [gramaryelaw15_FollowWhole.l2, if_pos (by clear hw1 hw2; omega), if_pos (by clear hw1 hw2; omega), if_pos (by clear hw1 hw2; omega), if_pos (by clear hw1 hw2; omega), rd_nat hlt, hw2]) ?_
  exact Ev.ite_pos (by rw [ht.1]; clear hw1 hw2; omega) (Ev.bind hm (Ev.ite_pos rfl (ih (i + 1) (by clear hw1 hw2; omega))))
theorem fw_l1 : ∀ (d n : Nat), n + d = S.length → Ev (fun k => gramaryelaw15_FollowWhole.l1 k S R all n toks look of L) true := by
 intro d
 induction d with
 | zero =>
  intro n hnn
  exact Ev.step (fun k => by rw [gramaryelaw15_FollowWhole.l1, if_neg (by omega)]) (Ev.some (by rw [hn]; exact beq_self_eq_true _))
 | succ d ih =>
  intro n hnn
  have h2 := fw_l2 toks look hlook of L S hS hn hlen R hR all hne hw n (by omega) (ih (n + 1) (by omega)) _ 0 (Nat.zero_add _)
  have hj : Ev (fun k => gramaryelaw15_FollowWhole.j2 k S R all n false toks look of L) true := Ev.step (fun k => by rw [gramaryelaw15_FollowWhole.j2, if_neg (by simp)]; rfl) h2
  refine Ev.step (fun k => by rw [gramaryelaw15_FollowWhole.l1, if_pos (by omega)]) ?_
  by_cases c : all = true
  ·refine Ev.ite_pos c (Ev.ite_pos (by omega) (Ev.ite_pos (by omega) ?_))
   by_cases r : rdOf false R (n : Int) = true
   ·have hnn2 := hne c n (by omega) r
    have e : (((rd_L6 S (n : Int)).length : Int) == 0) = false := by
     rw [beq_eq_false_iff_ne]
     intro h
     exact hnn2 (List.length_eq_zero_iff.1 (by omega))
    rw [e]
    exact Ev.ite_pos r hj
   ·exact Ev.ite_neg r hj
  ·exact Ev.ite_neg c hj
end
theorem fw_start (toks look : Int) (hlook : 1 ≤ look ∧ look ≤ 4) (of : List Int) (L : List Prod') (S : Sets) (hS : GoodSM 600 S) (hn : S.length = of.length) (hlen : S.length ≤ 1000000) (R : List Bool) (hR : R.length = of.length) (E : List Bool) (hE : E.length = of.length) (hne : (∀ i : Int, 0 ≤ i ∧ i < of.length → rdOf false E i = true) → ∀ i : Int, 0 ≤ i ∧ i < of.length → rdOf false R i = true → rd_L6 S i ≠ []) (hw : ∀ a ∈ S, ∀ x ∈ a, WholeT look.toNat x) :
  ∀ (d n : Nat) (all : Bool), n + d = E.length → (all = true → ∀ i : Int, 0 ≤ i ∧ i < n → rdOf false E i = true) → Ev (fun k => gramaryelaw15_FollowWhole.l0 k S R E all n toks look of L) true := by
 intro d
 induction d with
 | zero =>
  intro n all hnn ha
  exact Ev.step (fun k => by rw [gramaryelaw15_FollowWhole.l0, if_neg (by omega)]; rfl) (fw_l1 toks look hlook of L S hS hn hlen R hR all (fun c => hne fun i hi => ha c i (by omega)) hw S.length 0 (by omega))
 | succ d ih =>
  intro n all hnn ha
  have hw : wrap64 ((n : Int) + 1) = ((n + 1 : Nat) : Int) := by rw [wrap_id (by omega)]; rfl
  refine Ev.step (fun k => by rw [gramaryelaw15_FollowWhole.l0, if_pos (by clear hw; omega), hw]) ?_
  by_cases c : all = true
  ·refine Ev.ite_pos c (Ev.ite_pos (by clear hw; omega) (ih (n + 1) _ (by clear hw; omega) fun h i hi => ?_))
   by_cases e : i = n
   ·rw [e]; exact h
   ·exact ha c i (by clear hw; omega)
  ·exact Ev.ite_neg c (ih (n + 1) false (by clear hw; omega) fun h => by cases h)
theorem mayE_toks {toks look : Int} {n : Nat} {L : List Prod'} (h : mayE toks look n L = 0) : toks ≤ 60 := by
 unfold mayE at h
 by_cases h1 : toks < 1 ∨ 60 < toks ∨ n < 1 ∨ 500 < n ∨ L.length < 1 ∨ 2000 < L.length ∨ (L.any fun p => decide (500 < p.f1.length)) = true
 ·rw [if_pos h1] at h; cases h
 ·omega
theorem whole_law (toks look : Int) (of : List Int) (L : List Prod') (hl : ∀ p ∈ L, p.f1.length ≤ 1000000) (hL : L.length ≤ 1000000) (h0 : (followA toks look of.length L).2 = 0) :
  Ev (fun k => (gramaryeref11_Reached.f k toks look of L).bind fun t364 => (gramaryeref10_Ends.f k toks look of L).bind fun t367 => gramaryelaw15_FollowWhole.l0 k (followA toks look of.length L).1 t364 t367 true 0 toks look of L) true := by
 have hz := ofA_zero (toks := toks) (look := look) (of := of) hl
 have hF0 : (ofA toks look of.length L).2 = 0 → mayE toks look of.length L = 0 → loopG (catA (mx look 0).toNat) 600 L (600 * of.length + 1) (List.replicate of.length []) = some (ofA toks look of.length L).1 := by
  unfold ofA
  intro h hm
  rw [if_pos hm] at h ⊢
  cases hh : loopG (catA (mx look 0).toNat) 600 L (600 * of.length + 1) (List.replicate of.length []) with
  | none => rw [hh] at h; cases h
  | some s => rfl
 unfold followA at h0 ⊢
 generalize ofA toks look of.length L = X at hz hF0 h0 ⊢
 by_cases hx : X.2 = 0
 ·obtain ⟨hm, hS, hn⟩ := hz hx
  have hF0 := hF0 hx hm
  obtain ⟨h1, h2, h3, h4⟩ := mayE_zero hm
  have htk := mayE_toks hm
  have hK : (mx look 0).toNat = look.toNat := by unfold mx; split <;> omega
  rw [if_pos hx] at h0 ⊢
  cases hh : linksL (mx look 0).toNat X.1 L with
  | none => rw [hh] at h0; cases h0
  | some xs =>
   rw [hh] at h0
   dsimp only at h0 ⊢
   cases hs : floopA (mx look 0).toNat xs (600 * of.length + 1) (initF look of.length) with
   | none => rw [hs] at h0; cases h0
   | some s =>
    dsimp only
    have hKe := K_le h3
    obtain ⟨fF, gF, lF⟩ := loopG_fix (catA_size hKe) (by omega) h4 _ _ _ (empties_good 600 of.length) (List.length_replicate ..) hF0
    have tF := loopG_all TokT (fun a b => tok_cat a b) (fun b hb => nomatch hb) (toks := toks) (n := of.length) (fun k a b => tok_one k a (by omega)) (catA_size hKe) (by omega) h4 _ _ _ (empties_good 600 of.length) (List.length_replicate ..) hF0 (fun a ha x hx => by rw [(List.mem_replicate.1 ha).2] at hx; exact nomatch hx)
    obtain ⟨g1, -⟩ := linksL_good hKe L (n := of.length) h4 hl xs hh
    have gt := linksL_toks htk tF lF L h4 xs hh
    obtain ⟨i1, i2⟩ := initF_good h3 of.length
    have hwi : ∀ a ∈ initF look of.length, ∀ x ∈ a, WholeT (mx look 0).toNat x := by
     refine sets_set_all (fun a ha x hx => by rw [(List.mem_replicate.1 ha).2] at hx; exact nomatch hx) 0 fun x hx => ?_
     rw [List.mem_singleton.1 hx, hK]
     exact whole_zero _
    obtain ⟨⟨s1, s2⟩, s3, s4, s5⟩ := floop_facts hKe xs g1 gt _ _ _ i1 i2 hs hwi
    rw [hK] at s4
    have hends := mark_ev toks look of L (by omega) h4 hl true (by omega)
    obtain ⟨e1, e2⟩ := markL_all true (n := of.length) (fun i => rd_L6 X.1 i ≠ []) h4 (fun p hp out hout hrow => by
     obtain ⟨f1, f2⟩ := fF p hp
     have hne := rowG_ne (C := catA (mx look 0).toNat) (M := 600) (sets := X.1) (fun a b => catA_ne _ a b) p.f1 [(⟨#[]⟩ : ByteArray)] (fun s hs2 => by
      unfold symS
      have hs3 := List.all_eq_true.1 hrow s hs2
      by_cases c : s.f0 = true
      ·rw [if_pos c]; simp
      ·rw [if_neg c] at hs3 ⊢
       have hb2 := any_mem (prod_bad (any_mem h4 hp)).2 hs2
       unfold symBad at hb2
       rw [if_neg c] at hb2
       exact hout s.f1 (by simpa using hb2) hs3) (by simp) f1
     obtain ⟨y, hy⟩ := List.exists_mem_of_ne_nil _ hne
     exact List.ne_nil_of_mem (f2 y hy)) (of.length + 1) (List.replicate of.length false) (List.length_replicate ..) (fun i hi h => by
     rw [rdb_at (by rw [List.length_replicate]; exact hi), List.getElem_replicate] at h; cases h)
    generalize markL true L (of.length + 1) (List.replicate of.length false) = E at hends e1 e2
    obtain ⟨R, r1, r2, r3⟩ := reached_ev toks look of (by omega) L (by omega) h4 hl (by omega) (fun i => (∀ i : Int, 0 ≤ i ∧ i < of.length → rdOf false E i = true) → rd_L6 s i ≠ []) (fun _ => by
     have hz0 : zeroT look.toNat ∈ rd_L6 (initF look of.length) 0 := by
      rw [rd_at (by omega)]
      unfold initF
      simp only [Int.toNat_zero, List.getElem_set_self]
      exact List.mem_singleton.2 rfl
     exact List.ne_nil_of_mem (s5 0 (by omega) _ hz0)) (fun a m pa ha hN hmm hE => by
     obtain ⟨p, hp, hp2⟩ := List.any_eq_true.1 hN
     rw [Bool.and_eq_true, decide_eq_true_eq] at hp2
     obtain ⟨q, hq, hq2⟩ := List.any_eq_true.1 hp2.2
     rw [Bool.and_eq_true, beq_iff_eq] at hq2
     obtain ⟨r, r1, r2, r3⟩ := linksL_mem L xs hh p hp q hq (by simpa using hq2.1)
     have hne := rowG_ne (C := catA (mx look 0).toNat) (M := 600) (sets := X.1) (fun a b => catA_ne _ a b) r [(⟨#[]⟩ : ByteArray)] (fun z hz2 => by
      unfold symS
      by_cases c : z.f0 = true
      ·rw [if_pos c]; simp
      ·rw [if_neg c]
       have hb2 := any_mem (prod_bad (any_mem h4 hp)).2 (r1 z hz2)
       unfold symBad at hb2
       rw [if_neg c] at hb2
       have hr2 : 0 ≤ z.f1 ∧ z.f1 < (of.length : Int) := by simpa using hb2
       exact e2 z.f1 hr2 (hE z.f1 hr2)) (by simp) r2
     have hfx := s3 _ r3
     have hcn := catA_ne (mx look 0).toNat _ _ hne (pa hE)
     obtain ⟨y, hy⟩ := List.exists_mem_of_ne_nil _ hcn
     have := hfx y (by rw [hp2.1]; exact hy)
     rw [hq2.2] at this
     exact List.ne_nil_of_mem this)
    refine Ev.bind r1 (Ev.bind (by unfold gramaryeref10_Ends.f; exact Ev.bind hends (Ev.now _)) ?_)
    exact fw_start toks look h3 of L s s1 s2 (by omega) R r2 E e1 (fun hE i hi h => r3 i hi h hE) s4 E.length 0 true (by omega) (fun _ i hi => by omega)
 ·rw [if_neg hx] at h0
  exact absurd h0 hx
theorem FollowWhole : gramaryelaw15_FollowWhole.Pure := by
 intro toks look of L hW
 refine Ev.rounds (g := fun k => gramaryelaw15_FollowWhole.f k toks look of L) ?_
 unfold gramaryelaw15_FollowWhole.f
 clear hW
 have f1 := gfew_ev toks look of L
 have hl : ∀ p ∈ fewL L, p.f1.length ≤ 1000000 := fun p hp => by have := (fewL_le L).2 p hp; omega
 have hl5 : ∀ p ∈ fewL L, p.f1.length ≤ 400000 := fun p hp => by have := (fewL_le L).2 p hp; omega
 have hL4 : (fewL L).length ≤ 1000000 := by have := (fewL_le L).1; omega
 have o1 := follow_ev toks look (of.take 8) (fewL L) hl5 hL4
 obtain ⟨-, g2⟩ := followA_good toks look (of.take 8) (fewL L) hl
 have hw := whole_law toks look (of.take 8) (fewL L) hl hL4
 generalize followA toks look (of.take 8).length (fewL L) = X at o1 g2 hw
 refine Ev.bind follow_works (Ev.ite_pos rfl (Ev.bind f1 (Ev.bind o1 ?_)))
 by_cases h0 : X.2 = 0
 ·exact Ev.ite_pos h0 (hw h0)
 ·exact Ev.ite_neg h0 (Ev.some (by rw [g2 h0]; rfl))
end Go.Proofs.Ytnihlieggknpaaa.Pure
