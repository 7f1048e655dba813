/- For all plain rules (cut to eight nonterminals, fourteen productions of four symbols, as the statement has it) and all rows (cut to four symbols): the beginnings of a row are as the document says, or refused. No other condition. -/
-- Written by pure.py for this claim.
import Derived.Test.YtpegkfococfkpaaHFirstRowsx
import Derived.Test.YtpegkfococfkpaaSFirstRowsVPure
import Derived.Sort.Walk0
namespace Go.Proofs.Ytpegkfococfkpaa.Pure
open Go.RowKit Go.Plus Go.Proofs.Ytpegkfococfkpaa.HFirstRows Go.Proofs.YtpegkfococfkpaaW.PrintWords Go.Proofs.YtpegkfococfkpaaW.PrintLast Go.Proofs.YtpegkfococfkpaaW.PrintMore
set_option linter.unusedVariables false
set_option linter.unusedSimpArgs false
abbrev Sym := S39
abbrev Prod' := S80
theorem rdS {l : List Sym} {i : Nat} (h : i < l.length) : rd_T39 l (i : Int) = l[i] := by
 unfold rd_T39
 simp [List.getD_eq_getElem?_getD, h]
theorem rdP {l : List Prod'} {i : Nat} (h : i < l.length) : rd_T80 l (i : Int) = l[i] := by
 unfold rd_T80
 simp [List.getD_eq_getElem?_getD, h]
def symBad (toks : Int) (n : Nat) (s : Sym) : Bool := if s.f0 = true then !(decide (1 ≤ s.f1) && decide (s.f1 ≤ toks)) else !(decide (0 ≤ s.f1) && decide (s.f1 < (n : Int)))
def prodBad (toks : Int) (n : Nat) (p : Prod') : Bool := !(decide (0 ≤ p.f0) && decide (p.f0 < (n : Int))) || p.f1.any (symBad toks n)
def mayE (toks look : Int) (n : Nat) (L : List Prod') : Int :=
 if toks < 1 ∨ 60 < toks ∨ n < 1 ∨ 500 < n ∨ L.length < 1 ∨ 2000 < L.length ∨ (L.any fun p => decide (500 < p.f1.length)) = true then 8 else if look < 1 ∨ 4 < look then 11 else if L.any (prodBad toks n) = true then 4 else 0
theorem sym_some (toks look : Int) (of : List Int) (L : List Prod') (b : Bool) (n : Int) : bnf_sym.f toks look of L b n = some (!symBad toks of.length ⟨b, n⟩) := by
 unfold bnf_sym.f bnf_from1.f symBad
 cases b
 ·by_cases h : n ≥ 0
  ·simp [h]
  ·simp [h]
 ·by_cases h : n ≥ 1
  ·simp [h]
  ·simp [h]
theorem drop_any {α : Type} {l : List α} {i : Nat} (h : i < l.length) (f : α → Bool) : (l.drop i).any f = (f l[i] || (l.drop (i + 1)).any f) := by
 rw [List.drop_eq_getElem_cons h, List.any_cons]
theorem idxSym (toks look : Int) (of : List Int) (L : List Prod') (l : List Sym) (hl : l.length ≤ 1000000000) : ∀ (d i : Nat), i + d = l.length → ∃ z : Int, decide (z ≥ 0) = (l.drop i).any (symBad toks of.length) ∧ Ev (fun k => slices_IndexFunc_api_Sym__bnf_prod_1.l0 k l l.length i toks look of L) (z, toks, look) := by
 intro d
 induction d with
 | zero =>
  intro i hi
  exact ⟨-1, by rw [List.drop_of_length_le (by omega)]; rfl, Ev.step (fun k => by rw [slices_IndexFunc_api_Sym__bnf_prod_1.l0, if_neg (by omega)]) (Ev.now _)⟩
 | succ d ih =>
  intro i hi
  have hlt : i < l.length := by omega
  have hw : wrap64 ((i : Int) + 1) = ((i + 1 : Nat) : Int) := by rw [wrap_id (by omega)]; rfl
  have e : bnf_prod_1.f l[i].f0 l[i].f1 toks look of L = some (symBad toks of.length l[i], toks, look) := by
   unfold bnf_prod_1.f
   rw [sym_some, Option.bind_some, Bool.not_not]
  rw [drop_any hlt]
  cases hb : symBad toks of.length l[i]
  ·obtain ⟨z, h0, hz⟩ := ih (i + 1) (by omega)
   refine ⟨z, by rw [h0]; rfl, Ev.step (fun k => by rw [slices_IndexFunc_api_Sym__bnf_prod_1.l0, if_pos (by clear hw; omega), if_pos (by clear hw; omega), if_pos (by clear hw; omega), rdS hlt, e, Option.bind_some, hw]) (Ev.ite_neg (by rw [hb]; simp) hz)⟩
  ·refine ⟨i, by simp, Ev.step (fun k => by rw [slices_IndexFunc_api_Sym__bnf_prod_1.l0, if_pos (by clear hw; omega), if_pos (by clear hw; omega), if_pos (by clear hw; omega), rdS hlt, e, Option.bind_some]) (Ev.ite_pos hb (Ev.now _))⟩
theorem prod_ev (toks look : Int) (of : List Int) (L : List Prod') (n : Int) (r : List Sym) (hr : r.length ≤ 1000000000) : Ev (fun k => bnf_prod.f k toks look of L n r) (!prodBad toks of.length ⟨n, r⟩) := by
 unfold bnf_prod.f prodBad
 by_cases h1 : n ≥ 0
 ·refine Ev.ite_pos h1 ?_
  by_cases h2 : n < (of.length : Int)
  ·refine Ev.ite_pos h2 ?_
   obtain ⟨z, h0, hz⟩ := idxSym toks look of L r hr r.length 0 (by omega)
   rw [List.drop_zero] at h0
   unfold slices_ContainsFunc_api_Sym__bnf_prod_1.f slices_IndexFunc_api_Sym__bnf_prod_1.f
   refine Ev.bind (Ev.bind hz (Ev.now _)) (Ev.some ?_)
   rw [h0]
   simp [h1, h2]
  ·refine Ev.ite_neg h2 (Ev.some ?_)
   simp [h2]
 ·refine Ev.ite_neg h1 (Ev.some ?_)
  have : ¬ 0 ≤ n := h1
  simp [this]
theorem idxProd (toks look : Int) (of : List Int) (L l : List Prod') (hl : l.length ≤ 1000000000) (hr : ∀ p ∈ l, p.f1.length ≤ 1000000000) : ∀ (d i : Nat), i + d = l.length → ∃ z : Int, decide (z ≥ 0) = (l.drop i).any (prodBad toks of.length) ∧ Ev (fun k => slices_IndexFunc_api_Prod__bnf_May_1.l0 k l l.length i toks look of L) (z, toks, look) := by
 intro d
 induction d with
 | zero =>
  intro i hi
  exact ⟨-1, by rw [List.drop_of_length_le (by omega)]; rfl, Ev.step (fun k => by rw [slices_IndexFunc_api_Prod__bnf_May_1.l0, if_neg (by omega)]) (Ev.now _)⟩
 | succ d ih =>
  intro i hi
  have hlt : i < l.length := by omega
  have hw : wrap64 ((i : Int) + 1) = ((i + 1 : Nat) : Int) := by rw [wrap_id (by omega)]; rfl
  have e : Ev (fun k => bnf_May_1.f k l[i].f0 l[i].f1 toks look of L) (prodBad toks of.length l[i], toks, look) := by
   unfold bnf_May_1.f
   exact Ev.bind (prod_ev toks look of L l[i].f0 l[i].f1 (hr _ (List.getElem_mem _))) (Ev.some (by rw [Bool.not_not]))
  rw [drop_any hlt]
  cases hb : prodBad toks of.length l[i]
  ·rw [hb] at e
   obtain ⟨z, h0, hz⟩ := ih (i + 1) (by omega)
   refine ⟨z, by rw [h0]; rfl, Ev.step (fun k => by rw [slices_IndexFunc_api_Prod__bnf_May_1.l0, if_pos (by clear hw; omega), if_pos (by clear hw; omega), if_pos (by clear hw; omega), rdP hlt, hw]) (Ev.bind e (Ev.ite_neg (show ¬ ((false, toks, look) : Bool × Int × Int).1 = true from Bool.false_ne_true) hz))⟩
  ·rw [hb] at e
   refine ⟨i, by simp, Ev.step (fun k => by rw [slices_IndexFunc_api_Prod__bnf_May_1.l0, if_pos (by clear hw; omega), if_pos (by clear hw; omega), if_pos (by clear hw; omega), rdP hlt]) (Ev.bind e (Ev.ite_pos rfl (Ev.now _)))⟩
theorem idxLong (l : List Prod') (hl : l.length ≤ 1000000000) : ∀ (d i : Nat), i + d = l.length → ∃ z : Int, decide (z ≥ 0) = (l.drop i).any (fun p => decide (500 < p.f1.length)) ∧ Ev (fun k => slices_IndexFunc_api_Prod__bnf_long.l0 k l l.length i) z := by
 intro d
 induction d with
 | zero =>
  intro i hi
  exact ⟨-1, by rw [List.drop_of_length_le (by omega)]; rfl, Ev.step (fun k => by rw [slices_IndexFunc_api_Prod__bnf_long.l0, if_neg (by omega)]) (Ev.now _)⟩
 | succ d ih =>
  intro i hi
  have hlt : i < l.length := by omega
  have hw : wrap64 ((i : Int) + 1) = ((i + 1 : Nat) : Int) := by rw [wrap_id (by omega)]; rfl
  have e : bnf_long.f l[i].f0 l[i].f1 = some (decide (500 < l[i].f1.length)) := by
   unfold bnf_long.f
   refine congrArg some (decide_eq_decide.2 ?_)
   omega
  rw [drop_any hlt]
  cases hb : decide (500 < l[i].f1.length)
  ·obtain ⟨z, h0, hz⟩ := ih (i + 1) (by omega)
   refine ⟨z, by rw [h0]; rfl, Ev.step (fun k => by rw [slices_IndexFunc_api_Prod__bnf_long.l0, if_pos (by clear hw; omega), if_pos (by clear hw; omega), if_pos (by clear hw; omega), rdP hlt, e, Option.bind_some, hw]) (Ev.ite_neg (by rw [hb]; simp) hz)⟩
  ·refine ⟨i, by simp, Ev.step (fun k => by rw [slices_IndexFunc_api_Prod__bnf_long.l0, if_pos (by clear hw; omega), if_pos (by clear hw; omega), if_pos (by clear hw; omega), rdP hlt, e, Option.bind_some]) (Ev.ite_pos hb (Ev.now _))⟩
theorem from1_some (a b : Int) : bnf_from1.f a b = some (decide (1 ≤ a ∧ a ≤ b)) := by
 unfold bnf_from1.f
 by_cases h : a ≥ 1
 ·rw [if_pos h]; simp [show 1 ≤ a from h]
 ·rw [if_neg h]; simp [show ¬ 1 ≤ a from h]
theorem may_j0 (toks look : Int) (of : List Int) (L : List Prod') (hl : L.length ≤ 1000000000) (hr : ∀ p ∈ L, p.f1.length ≤ 1000000000) (b : Bool) : Ev (fun k => bnf_May.j0 k b toks look of L) (if b = true then 8 else if look < 1 ∨ 4 < look then 11 else if L.any (prodBad toks of.length) = true then 4 else 0) := by
 refine Ev.step (fun k => by rw [bnf_May.j0]) ?_
 cases b
 ·refine Ev.ite_neg (by simp) (Ev.bind0 (from1_some _ _) ?_)
  rw [if_neg (by simp)]
  by_cases h : 1 ≤ look ∧ look ≤ 4
  ·rw [if_neg (by omega)]
   refine Ev.ite_pos (decide_eq_true h) ?_
   obtain ⟨z, h0, hz⟩ := idxProd toks look of L L hl hr L.length 0 (by omega)
   rw [List.drop_zero] at h0
   unfold slices_ContainsFunc_api_Prod__bnf_May_1.f slices_IndexFunc_api_Prod__bnf_May_1.f
   refine Ev.bind (Ev.bind hz (Ev.now _)) ?_
   rw [← h0]
   refine Ev.congr (f := fun k => some (if decide (z ≥ 0) = true then (4 : Int) else 0)) (fun k => ?_) (Ev.now _)
   by_cases hz0 : z ≥ 0
   ·simp [hz0]
   ·simp [hz0]
  ·rw [if_pos (by omega)]
   exact Ev.ite_neg (by simpa using h) (Ev.now _)
 ·rw [if_pos rfl]; exact Ev.ite_pos rfl (Ev.now _)
theorem may_ev (toks look : Int) (of : List Int) (L : List Prod') (hl : L.length ≤ 1000000000) (hr : ∀ p ∈ L, p.f1.length ≤ 1000000000) : Ev (fun k => bnf_May.f k toks look of L) (mayE toks look of.length L) := by
 unfold bnf_May.f mayE
 have ht := may_j0 toks look of L hl hr true
 rw [if_pos rfl] at ht
 refine Ev.bind0 (from1_some _ _) ?_
 by_cases h1 : 1 ≤ toks ∧ toks ≤ 60
 ·refine Ev.ite_pos (decide_eq_true h1) (Ev.bind0 (from1_some _ _) ?_)
  by_cases h2 : 1 ≤ (of.length : Int) ∧ (of.length : Int) ≤ 500
  ·refine Ev.ite_pos (decide_eq_true h2) (Ev.bind0 (from1_some _ _) ?_)
   by_cases h3 : 1 ≤ (L.length : Int) ∧ (L.length : Int) ≤ 2000
   ·refine Ev.ite_pos (decide_eq_true h3) ?_
    obtain ⟨z, h0, hz⟩ := idxLong L hl L.length 0 (by omega)
    rw [List.drop_zero] at h0
    unfold slices_ContainsFunc_api_Prod__bnf_long.f slices_IndexFunc_api_Prod__bnf_long.f
    refine Ev.bind (Ev.bind hz (Ev.now _)) ?_
    have hj := may_j0 toks look of L hl hr (decide (z ≥ 0))
    rw [h0] at hj ⊢
    by_cases h4 : (L.any fun p => decide (500 < p.f1.length)) = true
    ·rw [if_pos h4] at hj
     rw [if_pos (by simp only [h4, or_true])]
     exact hj
    ·rw [if_neg h4] at hj
     rw [if_neg (by rintro (h|h|h|h|h|h|h) <;> first | omega | exact h4 h)]
     exact hj
   ·rw [if_pos (by omega)]
    exact Ev.ite_neg (by simpa using h3) ht
  ·rw [if_pos (by omega)]
   exact Ev.ite_neg (by simpa using h2) ht
 ·rw [if_pos (by omega)]
  exact Ev.ite_neg (by simpa using h1) ht
theorem rmay_l0 (toks look : Int) (of : List Int) (L : List Prod') (hl : L.length ≤ 1000000000) (r : Int) (hno : (L.any fun p => decide (500 < p.f1.length)) = false → Ev (fun k => if look < 1 then gramaryeref09_May.j2 k true toks look of L else gramaryeref09_May.j2 k (decide (look > 4)) toks look of L) r) : ∀ (d i : Nat), i + d = L.length → ((L.take i).any fun p => decide (500 < p.f1.length)) = false →
  Ev (fun k => gramaryeref09_May.l0 k i toks look of L) (if (L.any fun p => decide (500 < p.f1.length)) = true then 8 else r) := by
 intro d
 induction d with
 | zero =>
  intro i hi hb
  rw [List.take_of_length_le (by omega)] at hb
  rw [hb, if_neg (by simp)]
  exact Ev.step (fun k => by rw [gramaryeref09_May.l0, if_neg (by omega)]) (hno hb)
 | succ d ih =>
  intro i hi hb
  have hlt : i < L.length := by omega
  have hw : wrap64 ((i : Int) + 1) = ((i + 1 : Nat) : Int) := by rw [wrap_id (by omega)]; rfl
  refine Ev.step (fun k => by rw [gramaryeref09_May.l0, if_pos (by clear hw; omega), if_pos (by clear hw; omega), rdP hlt, hw]) ?_
  by_cases h : (L[i].f1.length : Int) > 500
  ·rw [if_pos (List.any_eq_true.2 ⟨L[i], List.getElem_mem _, decide_eq_true (by omega)⟩)]
   exact Ev.ite_pos h (Ev.now _)
  ·refine Ev.ite_neg h (ih (i + 1) (by clear hw; omega) ?_)
   rw [List.take_succ_eq_append_getElem hlt, List.any_append, hb]
   simp; omega
theorem rmay_l2 (toks look : Int) (of : List Int) (L : List Prod') (p0 : Int) (q : List Sym) (hq : q.length ≤ 1000000000) (x4 : Nat) (r : Int) (hno : q.any (symBad toks of.length) = false → Ev (fun k => gramaryeref09_May.l1 k (wrap64 ((x4 : Int) + 1)) toks look of L) r) : ∀ (d i : Nat), i + d = q.length → (q.take i).any (symBad toks of.length) = false →
  Ev (fun k => gramaryeref09_May.l2 k x4 i toks look of L p0 q) (if q.any (symBad toks of.length) = true then 4 else r) := by
 intro d
 induction d with
 | zero =>
  intro i hi hb
  rw [List.take_of_length_le (by omega)] at hb
  rw [hb, if_neg (by simp)]
  exact Ev.step (fun k => by rw [gramaryeref09_May.l2, if_neg (by omega)]) (hno hb)
 | succ d ih =>
  intro i hi hb
  have hlt : i < q.length := by omega
  have hw : wrap64 ((i : Int) + 1) = ((i + 1 : Nat) : Int) := by rw [wrap_id (by omega)]; rfl
  refine Ev.step (fun k => by rw [gramaryeref09_May.l2, if_pos (by clear hw; omega), if_pos (by clear hw; omega), rdS hlt, hw]) ?_
  have bad : symBad toks of.length q[i] = true → (if q.any (symBad toks of.length) = true then 4 else r) = 4 := fun h => if_pos (List.any_eq_true.2 ⟨q[i], List.getElem_mem _, h⟩)
  have good : symBad toks of.length q[i] = false → Ev (fun k => gramaryeref09_May.l2 k x4 ((i + 1 : Nat) : Int) toks look of L p0 q) (if q.any (symBad toks of.length) = true then 4 else r) := fun h => ih (i + 1) (by clear hw; omega) (by
   rw [List.take_succ_eq_append_getElem hlt, List.any_append, hb]; simp [h])
  unfold symBad at bad good
  by_cases h0 : q[i].f0 = true
  ·rw [if_pos h0] at bad good
   refine Ev.ite_pos h0 ?_
   by_cases h1 : q[i].f1 < 1
   ·rw [show (if q.any (symBad toks of.length) = true then (4 : Int) else r) = 4 from bad (by first | (simp; omega) | (simp; intro h; omega))]
    exact Ev.ite_pos h1 (Ev.now _)
   ·refine Ev.ite_neg h1 ?_
    by_cases h2 : q[i].f1 > toks
    ·rw [show (if q.any (symBad toks of.length) = true then (4 : Int) else r) = 4 from bad (by first | (simp; omega) | (simp; intro h; omega))]
     exact Ev.ite_pos h2 (Ev.now _)
    ·exact Ev.ite_neg h2 (Ev.congr (fun k => by try simp only [h0]; try simp) (good (by simp; omega)))
  ·rw [if_neg h0] at bad good
   refine Ev.ite_neg h0 ?_
   by_cases h1 : q[i].f1 < 0
   ·rw [show (if q.any (symBad toks of.length) = true then (4 : Int) else r) = 4 from bad (by first | (simp; omega) | (simp; intro h; omega))]
    exact Ev.congr (fun k => by rw [if_pos h1]) (Ev.now _)
   ·by_cases h2 : q[i].f1 ≥ (of.length : Int)
    ·rw [show (if q.any (symBad toks of.length) = true then (4 : Int) else r) = 4 from bad (by first | (simp; omega) | (simp; intro h; omega))]
     exact Ev.congr (fun k => by rw [if_neg h1, if_pos h2]) (Ev.now _)
    ·exact Ev.congr (fun k => by rw [if_neg h1, if_neg h2]) (good (by simp; omega))
theorem rmay_l1 (toks look : Int) (of : List Int) (L : List Prod') (hl : L.length ≤ 1000000000) (hr : ∀ p ∈ L, p.f1.length ≤ 1000000000) : ∀ (d i : Nat), i + d = L.length → (L.take i).any (prodBad toks of.length) = false →
  Ev (fun k => gramaryeref09_May.l1 k i toks look of L) (if L.any (prodBad toks of.length) = true then 4 else 0) := by
 intro d
 induction d with
 | zero =>
  intro i hi hb
  rw [List.take_of_length_le (by omega)] at hb
  rw [hb, if_neg (by simp)]
  exact Ev.step (fun k => by rw [gramaryeref09_May.l1, if_neg (by omega)]) (Ev.now _)
 | succ d ih =>
  intro i hi hb
  have hlt : i < L.length := by omega
  have hw : wrap64 ((i : Int) + 1) = ((i + 1 : Nat) : Int) := by rw [wrap_id (by omega)]; rfl
  have bad : prodBad toks of.length L[i] = true → (if L.any (prodBad toks of.length) = true then (4 : Int) else 0) = 4 := fun h => if_pos (List.any_eq_true.2 ⟨L[i], List.getElem_mem _, h⟩)
  have good : prodBad toks of.length L[i] = false → Ev (fun k => gramaryeref09_May.l1 k (wrap64 ((i : Int) + 1)) toks look of L) (if L.any (prodBad toks of.length) = true then 4 else 0) := fun h => by
   rw [hw]
   exact ih (i + 1) (by clear hw; omega) (by rw [List.take_succ_eq_append_getElem hlt, List.any_append, hb]; simp [h])
  refine Ev.step (fun k => by rw [gramaryeref09_May.l1, if_pos (by clear hw; omega), if_pos (by clear hw; omega), rdP hlt]) ?_
  have jt : Ev (fun k => gramaryeref09_May.j4 k i true toks look of L L[i].f0 L[i].f1) 4 := Ev.step (fun k => by rw [gramaryeref09_May.j4, if_pos rfl]) (Ev.now _)
  by_cases h1 : L[i].f0 < 0
  ·rw [bad (by unfold prodBad; simp [show ¬ 0 ≤ L[i].f0 by omega])]
   exact Ev.ite_pos h1 jt
  ·refine Ev.ite_neg h1 ?_
   by_cases h2 : L[i].f0 ≥ (of.length : Int)
   ·rw [bad (by unfold prodBad; simp [show ¬ L[i].f0 < (of.length : Int) by omega]), decide_eq_true h2]
    exact jt
   ·rw [decide_eq_false h2]
    refine Ev.step (fun k => by rw [gramaryeref09_May.j4, if_neg (by simp)]) ?_
    have hpb : prodBad toks of.length L[i] = L[i].f1.any (symBad toks of.length) := by
     unfold prodBad
     simp [show 0 ≤ L[i].f0 by omega, show L[i].f0 < (of.length : Int) by omega]
    have h := rmay_l2 toks look of L L[i].f0 L[i].f1 (hr _ (List.getElem_mem _)) i (if L.any (prodBad toks of.length) = true then 4 else 0) (fun hf => good (by rw [hpb]; exact hf)) L[i].f1.length 0 (by omega) rfl
    by_cases h3 : L[i].f1.any (symBad toks of.length) = true
    ·rw [if_pos h3] at h
     rw [bad (by rw [hpb]; exact h3)]
     exact h
    ·rw [if_neg h3] at h
     exact h
theorem rmay_ev (toks look : Int) (of : List Int) (L : List Prod') (hl : L.length ≤ 1000000000) (hr : ∀ p ∈ L, p.f1.length ≤ 1000000000) : Ev (fun k => gramaryeref09_May.f k toks look of L) (mayE toks look of.length L) := by
 have jt : Ev (fun k => gramaryeref09_May.j0 k true toks look of L) 8 := Ev.step (fun k => by rw [gramaryeref09_May.j0, if_pos rfl]) (Ev.now _)
 have j2 : Ev (fun k => if look < 1 then gramaryeref09_May.j2 k true toks look of L else gramaryeref09_May.j2 k (decide (look > 4)) toks look of L) (if look < 1 ∨ 4 < look then 11 else if L.any (prodBad toks of.length) = true then 4 else 0) := by
  have t2 : Ev (fun k => gramaryeref09_May.j2 k true toks look of L) 11 := Ev.step (fun k => by rw [gramaryeref09_May.j2, if_pos rfl]) (Ev.now _)
  by_cases h1 : look < 1
  ·rw [if_pos (.inl h1)]
   exact Ev.ite_pos h1 t2
  ·refine Ev.ite_neg h1 ?_
   by_cases h2 : look > 4
   ·rw [if_pos (.inr h2), decide_eq_true h2]
    exact t2
   ·rw [if_neg (by omega), decide_eq_false h2]
    exact Ev.step (fun k => by rw [gramaryeref09_May.j2, if_neg (by simp)]; rfl) (rmay_l1 toks look of L hl hr L.length 0 (by omega) rfl)
 have jf : Ev (fun k => gramaryeref09_May.j0 k false toks look of L) (if (L.any fun p => decide (500 < p.f1.length)) = true then 8 else if look < 1 ∨ 4 < look then 11 else if L.any (prodBad toks of.length) = true then 4 else 0) :=
  Ev.step (fun k => by rw [gramaryeref09_May.j0, if_neg (by simp)]; rfl) (rmay_l0 toks look of L hl _ (fun _ => j2) L.length 0 (by omega) rfl)
 unfold gramaryeref09_May.f mayE
 by_cases h1 : toks < 1
 ·rw [if_pos (by omega)]; exact Ev.ite_pos h1 jt
 by_cases h2 : toks > 60
 ·rw [if_pos (by omega)]; exact Ev.ite_neg h1 (Ev.ite_pos h2 jt)
 by_cases h3 : (of.length : Int) < 1
 ·rw [if_pos (by omega)]; exact Ev.ite_neg h1 (Ev.ite_neg h2 (Ev.ite_pos h3 jt))
 by_cases h4 : (of.length : Int) > 500
 ·rw [if_pos (by omega)]; exact Ev.ite_neg h1 (Ev.ite_neg h2 (Ev.ite_neg h3 (Ev.ite_pos h4 jt)))
 by_cases h5 : (L.length : Int) < 1
 ·rw [if_pos (by omega)]; exact Ev.ite_neg h1 (Ev.ite_neg h2 (Ev.ite_neg h3 (Ev.ite_neg h4 (Ev.ite_pos h5 jt))))
 refine Ev.ite_neg h1 (Ev.ite_neg h2 (Ev.ite_neg h3 (Ev.ite_neg h4 (Ev.ite_neg h5 ?_))))
 by_cases h6 : (L.length : Int) > 2000
 ·rw [if_pos (by omega), decide_eq_true h6]; exact jt
 ·rw [decide_eq_false h6]
  by_cases h7 : (L.any fun p => decide (500 < p.f1.length)) = true
  ·rw [if_pos h7] at jf
   rw [if_pos (by simp only [h7, or_true])]
   exact jf
  ·rw [if_neg h7] at jf
   rw [if_neg (by rintro (h|h|h|h|h|h|h) <;> first | omega | exact h7 h)]
   exact jf
instance riseDec (l : List Txt) : Decidable (Rises l) := inferInstanceAs (Decidable (l.Pairwise (· < ·)))
abbrev keysOf := pack_set_string.keys
abbrev txts := pack_set_string.texts
theorem keys_txts (l : List Txt) : keysOf (txts l) = l := by
 unfold keysOf txts pack_set_string.keys pack_set_string.texts
 rw [List.map_map]
 conv => rhs; rw [← List.map_id l]
 exact List.map_congr_left fun x _ => by simp
theorem txts_keys (l : List ByteArray) : txts (keysOf l) = l := by
 unfold keysOf txts pack_set_string.keys pack_set_string.texts
 rw [List.map_map]
 conv => rhs; rw [← List.map_id l]
 exact List.map_congr_left fun x _ => by
  apply ByteArray.ext
  simp
theorem keys_append (a b : List ByteArray) : keysOf (a ++ b) = keysOf a ++ keysOf b := List.map_append
theorem keys_length (a : List ByteArray) : (keysOf a).length = a.length := List.length_map ..
theorem txts_length (a : List Txt) : (txts a).length = a.length := List.length_map ..
def setT (l : List ByteArray) : List ByteArray := txts (tset (keysOf l))
theorem setT_length (l : List ByteArray) : (setT l).length ≤ l.length := by
 unfold setT
 rw [txts_length]
 have := tset_length_le (keysOf l)
 rw [keys_length] at this
 exact this
theorem keys_setT (l : List ByteArray) : keysOf (setT l) = tset (keysOf l) := keys_txts _
theorem set_some (l : List ByteArray) (h : l.length ≤ 1000000000000) : pack_set_string.f l = some (setT l) := by
 unfold pack_set_string.f
 rw [if_pos (by omega)]
 rfl
theorem join_some (a b : List ByteArray) (ha : a.length ≤ 100000000000) (hb : b.length ≤ 100000000000) : pack_Join.f a b = some (setT (a ++ b)) := by
 unfold pack_Join.f
 rw [if_pos (by omega), set_some _ (by rw [List.length_append]; omega)]
theorem rd_nat {l : List ByteArray} {i : Nat} (h : i < l.length) : rdOf ByteArray.empty l (i : Int) = l[i] := by
 unfold rdOf
 simp [List.getD_eq_getElem?_getD, h]
theorem data_append0 (a b : ByteArray) : (a ++ b).data.toList = a.data.toList ++ b.data.toList := by simp
def tc (K : Nat) (x y : ByteArray) : ByteArray := ⟨((x.data.toList ++ y.data.toList).take K).toArray⟩
theorem ext_list {a b : ByteArray} (h : a.data.toList = b.data.toList) : a = b := by
 apply ByteArray.ext
 apply Array.toList_inj.1 h
theorem tcat_some (x y : ByteArray) (k : Int) (hx : x.size ≤ 1000000000000) (hy : y.size ≤ 1000000000000) (hk : -9223372036854775808 ≤ k ∧ k ≤ 9223372036854775807) : tuple_Cat.f x y k = some (tc (mx k 0).toNat x y) := by
 have hsx := size_list x
 have hsy := size_list y
 unfold tuple_Cat.f
 by_cases h : (x.size : Int) ≥ k
 ·have hm : 0 ≤ mx k 0 ∧ mx k 0 ≤ x.size := by unfold mx; split <;> omega
  rw [if_pos h, if_pos hm.1, if_pos hm.2]
  congr 1
  apply ext_list
  rw [extract_list]
  unfold tc
  simp only [List.drop_zero]
  rw [List.take_append_of_le_length (by omega)]
 ·have hm : mx k 0 = k := by unfold mx; split <;> omega
  by_cases hb : k ≤ 9223372036854775807 - 0 ∧ 0 ≤ k - x.size ∧ k - (x.size : Int) ≤ 9223372036854775807
  ·have hw : wrap64 (k - (x.size : Int)) = k - (x.size : Int) := wrap_id (by omega)
   have hn : 0 ≤ mn (k - (x.size : Int)) (y.size : Int) ∧ mn (k - (x.size : Int)) (y.size : Int) ≤ y.size := by unfold mn; split <;> omega
   rw [if_neg h, hw, if_pos hn.1, if_pos hn.2, if_pos (by rw [ByteArray.size_extract]; clear hw; omega)]
   congr 1
   apply ext_list
   rw [data_append0, extract_list]
   unfold tc
   simp only [List.drop_zero]
   rw [hm, List.take_append]
   rw [List.take_of_length_le (show x.data.toList.length ≤ k.toNat by clear hw; omega)]
   congr 1
   have e : (mn (k - (x.size : Int)) (y.size : Int)).toNat = min (k.toNat - x.data.toList.length) y.data.toList.length := by
    rw [hsx, hsy]
    unfold mn
    clear hw
    split <;> omega
   rw [e, List.take_eq_take_iff]
   omega
  ·exact absurd ⟨by omega, by omega, by omega⟩ hb
def rowOf (K : Nat) (b : List ByteArray) (x : ByteArray) : List ByteArray := if K ≤ x.size ∧ 0 < b.length then [x.extract 0 K] else b.map (tc K x)
theorem rowOf_length (K : Nat) (b : List ByteArray) (x : ByteArray) : (rowOf K b x).length ≤ b.length := by
 unfold rowOf
 split
 ·rename_i h; exact h.2
 ·simp
section
variable (b : List ByteArray) (k : Int) (hk : -9223372036854775808 ≤ k ∧ k ≤ 9223372036854775807) (hb : b.length ≤ 1000000) (hbs : ∀ y ∈ b, y.size ≤ 1000000000000)
include hk hb hbs
theorem cat_l1 (x : ByteArray) (hx : x.size ≤ 1000000000000) (A : List ByteArray) (i : Int) (r : List ByteArray) : ∀ (d j : Nat) (acc : List ByteArray), j + d = b.length → acc.length + d ≤ 1000000000000 →
  Ev (fun n => pack_Cat.l0 n b k (acc ++ (b.drop j).map (tc (mx k 0).toNat x)) A A.length (wrap64 (i + 1))) r → Ev (fun n => pack_Cat.l1 n b k acc x A A.length i b b.length j) r := by
 intro d
 induction d with
 | zero =>
  intro j acc hj _ h
  rw [List.drop_of_length_le (by omega), List.map_nil, List.append_nil] at h
  exact Ev.step (fun n => by rw [pack_Cat.l1, if_neg (by omega)]) h
 | succ d ih =>
  intro j acc hj ha h
  have hlt : j < b.length := by omega
  have hw : wrap64 ((j : Int) + 1) = ((j + 1 : Nat) : Int) := by rw [wrap_id (by omega)]; rfl
  refine Ev.step (fun n => by rw [pack_Cat.l1, if_pos (by clear hw; omega), if_pos (by clear hw; omega), if_pos (by clear hw; omega), rd_nat hlt, hw]) ?_
  refine Ev.bind0 (tcat_some x b[j] k hx (hbs _ (List.getElem_mem _)) hk) (Ev.ite_pos (by clear hw; omega) ?_)
  refine ih (j + 1) _ (by omega) (by simp; omega) ?_
  rw [List.drop_eq_getElem_cons hlt, List.map_cons] at h
  simpa using h
theorem cat_l0 (a : List ByteArray) (hal : a.length ≤ 100000) (has : ∀ x ∈ a, x.size ≤ 1000000000000) : ∀ (d i : Nat) (acc : List ByteArray), i + d = a.length → acc.length + d * b.length ≤ 100000000000 →
  Ev (fun n => pack_Cat.l0 n b k acc a a.length i) (setT (acc ++ (a.drop i).flatMap (rowOf (mx k 0).toNat b))) := by
 intro d
 induction d with
 | zero =>
  intro i acc hi ha
  rw [List.drop_of_length_le (by omega), List.flatMap_nil, List.append_nil]
  exact Ev.step (fun n => by rw [pack_Cat.l0, if_neg (by omega)]) (Ev.bind0 (set_some acc (by omega)) (Ev.now _))
 | succ d ih =>
  intro i acc hi ha
  have hlt : i < a.length := by omega
  have hw : wrap64 ((i : Int) + 1) = ((i + 1 : Nat) : Int) := by rw [wrap_id (by omega)]; rfl
  have hsz := has _ (List.getElem_mem hlt)
  have hmx : 0 ≤ mx k 0 := by unfold mx; split <;> omega
  have hlen := rowOf_length (mx k 0).toNat b a[i]
  have hmul : (d + 1) * b.length = d * b.length + b.length := Nat.succ_mul _ _
  rw [List.drop_eq_getElem_cons hlt, List.flatMap_cons, ← List.append_assoc]
  have ih' := ih (i + 1) (acc ++ rowOf (mx k 0).toNat b a[i]) (by omega) (by rw [List.length_append]; omega)
  refine Ev.step (fun n => by rw [pack_Cat.l0, if_pos (by clear hw; omega), if_pos (by clear hw; omega), if_pos (by clear hw; omega), rd_nat hlt]) ?_
  have hj1t : ∀ (hc1 : mx k 0 ≤ (a[i].size : Int)) (hc2 : 0 < b.length), Ev (fun n => pack_Cat.j1 n b k acc a[i] a a.length i true) (setT (acc ++ rowOf (mx k 0).toNat b a[i] ++ (a.drop (i + 1)).flatMap (rowOf (mx k 0).toNat b))) := by
   intro hc1 hc2
   refine Ev.step (fun n => by rw [pack_Cat.j1, if_pos rfl, if_pos hmx, if_pos hc1, if_pos (by clear hw; omega), hw]) ?_
   have e : rowOf (mx k 0).toNat b a[i] = [a[i].extract 0 (mx k 0).toNat] := by unfold rowOf; rw [if_pos ⟨by clear hw; omega, hc2⟩]
   rw [e] at ih' ⊢
   exact ih'
  have hj1f : ¬ ((mx k 0).toNat ≤ a[i].size ∧ 0 < b.length) → Ev (fun n => pack_Cat.j1 n b k acc a[i] a a.length i false) (setT (acc ++ rowOf (mx k 0).toNat b a[i] ++ (a.drop (i + 1)).flatMap (rowOf (mx k 0).toNat b))) := by
   intro hc
   refine Ev.step (fun n => by rw [pack_Cat.j1, if_neg (by simp)]) ?_
   have e : rowOf (mx k 0).toNat b a[i] = b.map (tc (mx k 0).toNat a[i]) := by unfold rowOf; rw [if_neg hc]
   refine cat_l1 b k hk hb hbs a[i] hsz a i _ b.length 0 acc (by omega) (by clear hw; omega) ?_
   rw [List.drop_zero, hw, ← e]
   exact ih'
  by_cases hc1 : (a[i].size : Int) ≥ mx k 0
  ·refine Ev.ite_pos hc1 ?_
   by_cases hc2 : 0 < b.length
   ·rw [show decide ((b.length : Int) > 0) = true from decide_eq_true (by clear hw; omega)]
    exact hj1t hc1 hc2
   ·rw [show decide ((b.length : Int) > 0) = false from decide_eq_false (by clear hw; omega)]
    exact hj1f (fun h => hc2 h.2)
  ·refine Ev.ite_neg hc1 (hj1f (fun h => hc1 (by have := h.1; clear hw; omega)))
theorem cat_ev (a : List ByteArray) (hal : a.length ≤ 100000) (has : ∀ x ∈ a, x.size ≤ 1000000000000) : Ev (fun n => pack_Cat.f n a b k) (setT (a.flatMap (rowOf (mx k 0).toNat b))) := by
 unfold pack_Cat.f
 have h := cat_l0 b k hk hb hbs a hal has a.length 0 [] (by omega) (by
  have : a.length * b.length ≤ 100000 * 1000000 := Nat.mul_le_mul hal hb
  simp; omega)
 simpa using h
end
theorem mem_row (K : Nat) (a b : List ByteArray) (t : Txt) : t ∈ keysOf (a.flatMap (rowOf K b)) ↔ ∃ x ∈ a, ∃ y ∈ b, t = (x.data.toList ++ y.data.toList).take K := by
 unfold keysOf pack_set_string.keys
 simp only [List.mem_map, List.mem_flatMap]
 constructor
 ·rintro ⟨z, ⟨x, hx, hz⟩, rfl⟩
  refine ⟨x, hx, ?_⟩
  unfold rowOf at hz
  split at hz
  ·rename_i hc
   obtain ⟨y, hy⟩ := List.exists_mem_of_length_pos hc.2
   refine ⟨y, hy, ?_⟩
   rw [List.mem_singleton.1 hz, extract_list]
   simp only [List.drop_zero]
   rw [List.take_append_of_le_length (by have := size_list x; omega)]
  ·obtain ⟨y, hy, rfl⟩ := List.mem_map.1 hz
   exact ⟨y, hy, rfl⟩
 ·rintro ⟨x, hx, y, hy, rfl⟩
  unfold rowOf
  by_cases hc : K ≤ x.size ∧ 0 < b.length
  ·refine ⟨x.extract 0 K, ⟨x, hx, by rw [if_pos hc]; simp⟩, ?_⟩
   rw [extract_list]
   simp only [List.drop_zero]
   rw [List.take_append_of_le_length (by have := size_list x; omega)]
  ·exact ⟨tc K x y, ⟨x, hx, by rw [if_neg hc]; exact List.mem_map.2 ⟨y, hy, rfl⟩⟩, rfl⟩
theorem mem_keys {l : List ByteArray} {x : ByteArray} : x.data.toList ∈ keysOf l ↔ x ∈ l := by
 unfold keysOf pack_set_string.keys
 rw [List.mem_map]
 constructor
 ·rintro ⟨y, hy, e⟩
  rw [← ext_list e]; exact hy
 ·exact fun h => ⟨x, h, rfl⟩
theorem mem_setT {l : List ByteArray} {x : ByteArray} : x ∈ setT l ↔ x ∈ l := by
 rw [← mem_keys, keys_setT, (tset_rises _).2, mem_keys]
theorem setT_congr {a b : List ByteArray} (h : ∀ x, x ∈ a ↔ x ∈ b) : setT a = setT b := by
 unfold setT
 rw [tset_congr (a := keysOf a) (b := keysOf b) fun t => ?_]
 unfold keysOf pack_set_string.keys
 simp only [List.mem_map, h]
theorem rmid_eq (lo hi n : Nat) (h : hi ≤ n) (hn : n ≤ 1000000000000) : wrap64 (Int.tdiv (wrap64 ((lo : Int) + (hi : Int))) 2) = (((lo + hi) / 2 : Nat) : Int) ∨ ¬ lo ≤ hi := by
 by_cases hl : lo ≤ hi
 ·left
  have h1 : wrap64 ((lo : Int) + (hi : Int)) = ((lo + hi : Nat) : Int) := by rw [wrap_id (by omega)]; rfl
  have h2 : Int.tdiv ((lo + hi : Nat) : Int) 2 = (((lo + hi) / 2 : Nat) : Int) := by
   rw [Int.tdiv_eq_ediv_of_nonneg (by omega)]; rfl
  rw [h1, h2]
  clear h1 h2
  rw [wrap_id (by omega)]
 ·exact .inr hl
def putB (l : List ByteArray) (t : ByteArray) : List ByteArray := txts (putT (keysOf l) t.data.toList)
theorem keysOf_at' {l : List ByteArray} {i : Nat} (h : i < l.length) : (keysOf l)[i]'(by rw [keys_length]; exact h) = l[i].data.toList := by
 unfold keysOf pack_set_string.keys
 rw [List.getElem_map]
theorem less_iff' (a b : ByteArray) : Op.bytesLess a.toList b.toList = true ↔ a.data.toList < b.data.toList := by
 rw [Go.Proofs.bytesLess_eq, Lib.toList_data, Lib.toList_data, decide_eq_true_iff]
theorem put_l0 (l : List ByteArray) (t : ByteArray) (hr : Rises (keysOf l)) (hl : l.length ≤ 1000000000000) : ∀ (d lo hi : Nat), hi - lo = d → lo ≤ lower (keysOf l) t.data.toList → lower (keysOf l) t.data.toList ≤ hi → hi ≤ l.length →
  Ev (fun k => gramaryeref13_Put.l0 k l t lo hi) (putB l t) := by
 have hk := keys_length l
 intro d
 induction d using Nat.strongRecOn with
 | _ d ih =>
  intro lo hi hd h1 h2 h3
  by_cases hlt : lo < hi
  ·have hm : wrap64 (Int.tdiv (wrap64 ((lo : Int) + (hi : Int))) 2) = (((lo + hi) / 2 : Nat) : Int) := (rmid_eq lo hi l.length h3 hl).resolve_right (fun h => h (Nat.le_of_lt hlt))
   obtain ⟨m, hme⟩ : ∃ m, m = (lo + hi) / 2 := ⟨_, rfl⟩
   have hm1 : lo ≤ m ∧ m < hi := by clear hm; omega
   rw [← hme] at hm
   have hw : wrap64 ((m : Int) + 1) = ((m + 1 : Nat) : Int) := by clear hm; rw [wrap_id (by omega)]; rfl
   have q1 : (lo : Int) < (hi : Int) := by clear hm hw; omega
   have q2 : (0 : Int) ≤ (m : Int) := Int.natCast_nonneg m
   have q3 : m < l.length := by clear hm hw; omega
   have q4 : (m : Int) < (l.length : Int) := Int.ofNat_lt.2 q3
   refine Ev.step (fun k => by rw [gramaryeref13_Put.l0, if_pos q1, hm, hw, if_pos q2, if_pos q4, rd_nat q3]) ?_
   have hi' := lower_iff hr t.data.toList m (by clear hm hw; omega)
   rw [keysOf_at' q3] at hi'
   by_cases hc : l[m].data.toList < t.data.toList
   ·refine Ev.ite_pos ((less_iff' _ _).2 hc) ?_
    exact ih (hi - (m + 1)) (by clear hm hw; omega) (m + 1) hi rfl (by have := hi'.1 hc; clear hm hw; omega) h2 h3
   ·refine Ev.ite_neg (fun h => hc ((less_iff' _ _).1 h)) ?_
    exact ih (m - lo) (by clear hm hw; omega) lo m rfl h1 (by have : ¬ m < lower (keysOf l) t.data.toList := fun h => hc (hi'.2 h); clear hm hw; omega) (by clear hm hw; omega)
  ·have e : lo = lower (keysOf l) t.data.toList := by omega
   have hlo : lo ≤ l.length := by omega
   have hput : ¬ (keysOf l)[lo]? = some t.data.toList → putB l t = l.take lo ++ [t] ++ l.drop lo := fun h => by
    unfold putB putT
    rw [← e, if_neg h]
    unfold txts keysOf pack_set_string.keys pack_set_string.texts
    simp [List.map_take, List.map_drop, Function.comp_def]
   have hsame : (keysOf l)[lo]? = some t.data.toList → putB l t = l := fun h => by
    unfold putB putT
    rw [← e, if_pos h, txts_keys]
   have z0 : ((lo : Nat) : Int).toNat = lo := Int.toNat_natCast lo
   have s1 : (([] : List ByteArray)).length + (l.take lo).length < 8796093022208 := by simp; omega
   have s2 : (([] : List ByteArray) ++ l.take lo).length + [t].length < 8796093022208 := by simp; omega
   have s3 : (([] : List ByteArray) ++ l.take lo ++ [t]).length + (l.drop lo).length < 8796093022208 := by simp; omega
   clear h1 h2
   by_cases hend : lo < l.length
   ·have hg : (keysOf l)[lo]? = some (l[lo].data.toList) := by
     rw [List.getElem?_eq_getElem (by omega), keysOf_at' hend]
    by_cases hc : l[lo].toList = t.toList
    ·have hc' := hc
     rw [Lib.toList_data, Lib.toList_data] at hc'
     rw [hsame (by rw [hg, hc'])]
     exact Ev.step (fun k => by rw [gramaryeref13_Put.l0, if_neg (by omega), if_pos (by omega), if_pos (by omega), rd_nat hend, if_pos hc]) (Ev.now _)
    ·have hc' := hc
     rw [Lib.toList_data, Lib.toList_data] at hc'
     rw [hput (fun h => hc' (by rw [hg] at h; exact Option.some.inj h))]
     refine Ev.step (fun k => by rw [gramaryeref13_Put.l0, if_neg (by omega), if_pos (by omega), if_pos (by omega), rd_nat hend, if_neg hc]) (Ev.const ?_)
     simp only [Option.bind_some, z0]
     rw [if_pos (by omega), if_pos s1, if_pos s2, if_pos s3, List.nil_append]
   ·rw [hput (fun h => by rw [List.getElem?_eq_none (by omega)] at h; cases h)]
    refine Ev.step (fun k => by rw [gramaryeref13_Put.l0, if_neg (by omega), if_neg (by omega)]) (Ev.const ?_)
    simp only [Option.bind_some, z0]
    rw [if_pos (by omega), if_pos (by omega), if_pos s1, if_pos s2, if_pos s3, List.nil_append]
theorem put_ev (l : List ByteArray) (t : ByteArray) (hr : Rises (keysOf l)) (hl : l.length ≤ 1000000000000) : Ev (fun k => gramaryeref13_Put.f k l t) (putB l t) := by
 unfold gramaryeref13_Put.f
 have h := lower_le (keysOf l) t.data.toList
 rw [keys_length] at h
 exact put_l0 l t hr hl _ 0 l.length rfl (Nat.zero_le _) h (Nat.le_refl _)
theorem putB_setT (L : List ByteArray) (t : ByteArray) : putB (setT L) t = setT (L ++ [t]) := by
 unfold putB
 rw [keys_setT]
 unfold setT
 rw [keys_append]
 exact congrArg txts (putAll_tset (keysOf L) [t.data.toList])
theorem rcat_some (x y : ByteArray) (k : Int) (hx : x.size ≤ 1000000000000) (hy : y.size ≤ 1000000000000) : gramaryeref12_Cat.f x y k = some (tc (mx k 0).toNat x y) := by
 unfold gramaryeref12_Cat.f
 have hs : (x ++ y).size = x.size + y.size := ByteArray.size_append
 have hm : 0 ≤ mx (mn ((x ++ y).size : Int) k) 0 ∧ mx (mn ((x ++ y).size : Int) k) 0 ≤ ((x ++ y).size : Int) := by
  unfold mx mn; split <;> split <;> omega
 rw [if_pos (by omega), if_pos hm.1, if_pos hm.2]
 refine congrArg some (ext_list ?_)
 have he : (((x ++ y).extract 0 (mx (mn ((x ++ y).size : Int) k) 0).toNat).data.toList) = (x.data.toList ++ y.data.toList).take (mx (mn ((x ++ y).size : Int) k) 0).toNat := by
  rw [ByteArray.data_extract, Array.toList_extract, data_append0]
  simp [List.extract]
 rw [he]
 unfold tc
 have hl : (x.data.toList ++ y.data.toList).length = (x ++ y).size := by
  rw [← data_append0]; simp
 by_cases h : k < ((x ++ y).size : Int)
 ·have : mn ((x ++ y).size : Int) k = k := by unfold mn; rw [if_pos h]
  rw [this]
 ·have e1 : mn ((x ++ y).size : Int) k = ((x ++ y).size : Int) := by unfold mn; rw [if_neg h]
  have e2 : mx k 0 = k := by unfold mx; rw [if_neg (by omega)]
  have e3 : mx ((x ++ y).size : Int) 0 = ((x ++ y).size : Int) := by unfold mx; rw [if_neg (by omega)]
  rw [e1, e2, e3, List.take_of_length_le (by omega), List.take_of_length_le (by omega)]
theorem rcat_l1 (a b : List ByteArray) (k : Int) (hal : a.length ≤ 100000) (hbl : b.length ≤ 100000) (has : ∀ x ∈ a, x.size ≤ 1000000000000) (hbs : ∀ y ∈ b, y.size ≤ 1000000000000) (i : Nat) (hi : i < a.length) (r : List ByteArray) :
  ∀ (d j : Nat) (L : List ByteArray), j + d = b.length → L.length + d ≤ 100000000000 → Ev (fun n => gramaryeref13_Cat.l0 n a b k (setT (L ++ (b.drop j).map (tc (mx k 0).toNat a[i]))) ((i + 1 : Nat) : Int)) r →
   Ev (fun n => gramaryeref13_Cat.l1 n a b k (setT L) i j) r := by
 intro d
 induction d with
 | zero =>
  intro j L hj hL h
  have hw : wrap64 ((i : Int) + 1) = ((i + 1 : Nat) : Int) := by rw [wrap_id (by omega)]; rfl
  rw [List.drop_of_length_le (by clear hw; omega), List.map_nil, List.append_nil] at h
  exact Ev.step (fun n => by rw [gramaryeref13_Cat.l1, if_neg (by clear hw; omega), hw]) h
 | succ d ih =>
  intro j L hj hL h
  have hlt : j < b.length := by omega
  have hw : wrap64 ((j : Int) + 1) = ((j + 1 : Nat) : Int) := by rw [wrap_id (by omega)]; rfl
  have hsl := setT_length L
  refine Ev.step (fun n => by rw [gramaryeref13_Cat.l1, if_pos (by clear hw; omega), if_pos (by clear hw; omega), if_pos (by clear hw; omega), if_pos (by clear hw; omega), rd_nat hi, rd_nat hlt, rcat_some a[i] b[j] k (has _ (List.getElem_mem _)) (hbs _ (List.getElem_mem _)), Option.bind_some, hw]) ?_
  have hp := put_ev (setT L) (tc (mx k 0).toNat a[i] b[j]) (by rw [keys_setT]; exact (tset_rises _).1) (by clear hw; omega)
  rw [putB_setT] at hp
  refine Ev.bind hp (ih (j + 1) _ (by clear hw; omega) (by rw [List.length_append, List.length_singleton]; clear hw; omega) ?_)
  rw [List.append_assoc, List.singleton_append]
  rw [List.drop_eq_getElem_cons hlt, List.map_cons] at h
  exact h
theorem rcat_l0 (a b : List ByteArray) (k : Int) (hal : a.length ≤ 100000) (hbl : b.length ≤ 100000) (has : ∀ x ∈ a, x.size ≤ 1000000000000) (hbs : ∀ y ∈ b, y.size ≤ 1000000000000) :
  ∀ (d i : Nat) (L : List ByteArray), i + d = a.length → L.length + d * b.length ≤ 10000000000 → Ev (fun n => gramaryeref13_Cat.l0 n a b k (setT L) i) (setT (L ++ (a.drop i).flatMap fun x => b.map (tc (mx k 0).toNat x))) := by
 intro d
 induction d with
 | zero =>
  intro i L hi hL
  rw [List.drop_of_length_le (by omega), List.flatMap_nil, List.append_nil]
  exact Ev.step (fun n => by rw [gramaryeref13_Cat.l0, if_neg (by omega)]) (Ev.now _)
 | succ d ih =>
  intro i L hi hL
  have hlt : i < a.length := by omega
  rw [Nat.succ_mul] at hL
  refine Ev.step (fun n => by rw [gramaryeref13_Cat.l0, if_pos (by omega)]) ?_
  refine rcat_l1 a b k hal hbl has hbs i hlt _ b.length 0 L (by omega) (by omega) ?_
  have h := ih (i + 1) (L ++ b.map (tc (mx k 0).toNat a[i])) (by omega) (by rw [List.length_append, List.length_map]; omega)
  rw [List.append_assoc] at h
  rw [List.drop_eq_getElem_cons hlt, List.flatMap_cons, List.drop_zero]
  exact h
theorem rcat_ev (a b : List ByteArray) (k : Int) (hal : a.length ≤ 10000) (hbl : b.length ≤ 10000) (has : ∀ x ∈ a, x.size ≤ 1000000000000) (hbs : ∀ y ∈ b, y.size ≤ 1000000000000) :
  Ev (fun n => gramaryeref13_Cat.f n a b k) (setT (a.flatMap fun x => b.map (tc (mx k 0).toNat x))) := by
 unfold gramaryeref13_Cat.f
 have h := rcat_l0 a b k (by omega) (by omega) has hbs a.length 0 [] (by omega) (by
  have := Nat.mul_le_mul hal hbl
  rw [List.length_nil]; omega)
 rw [show setT [] = [] from by unfold setT; rw [show keysOf [] = [] from rfl, tset_of_rises rises_nil]; rfl, List.drop_zero, List.nil_append] at h
 exact h
instance memDec (x : ByteArray) (l : List ByteArray) : Decidable (x ∈ l) := decidable_of_iff (∃ y ∈ l, y = x) ⟨fun ⟨_, h, e⟩ => e ▸ h, fun h => ⟨x, h, rfl⟩⟩
theorem putB_setT' (L : List ByteArray) (t : ByteArray) : putB (setT L) t = setT (L ++ [t]) := by
 unfold putB
 rw [keys_setT]
 unfold setT
 rw [keys_append]
 exact congrArg txts (putAll_tset (keysOf L) [t.data.toList])
theorem key_inj {a b : ByteArray} : a.toList = b.toList ↔ a = b := by
 rw [Lib.toList_data, Lib.toList_data]
 exact ⟨ext_list, fun h => h ▸ rfl⟩
theorem same_dec (a b : List ByteArray) (hl : a.length ≤ 1000000000000) : Ev (fun k => gramaryebase_SameTexts.f k a b) (decide (a = b)) := by
 unfold gramaryebase_SameTexts.f
 by_cases hab : a.length = b.length
 ·refine Ev.ite_pos (by omega) ?_
  have : ∀ (d i : Nat), i + d = a.length → Ev (fun k => gramaryebase_SameTexts.l0 k a b i) (decide (a.drop i = b.drop i)) := by
   intro d
   induction d with
   | zero =>
    intro i hi
    rw [List.drop_of_length_le (by omega), List.drop_of_length_le (by omega)]
    exact Ev.step (fun k => by rw [gramaryebase_SameTexts.l0, if_neg (by omega)]; rfl) (Ev.now _)
   | succ d ih =>
    intro i hi
    have h1 : i < a.length := by omega
    have h2 : i < b.length := by omega
    have hw : wrap64 ((i : Int) + 1) = ((i + 1 : Nat) : Int) := by rw [wrap_id (by omega)]; rfl
    refine Ev.step (fun k => by rw [gramaryebase_SameTexts.l0, if_pos (by clear hw; omega), if_pos (by clear hw; omega), if_pos (by clear hw; omega), rd_nat h1, rd_nat h2, hw]) ?_
    rw [List.drop_eq_getElem_cons h1, List.drop_eq_getElem_cons h2]
    by_cases e : a[i] = b[i]
    ·refine Ev.ite_pos (key_inj.2 e) ?_
     rw [show decide (a[i] :: a.drop (i + 1) = b[i] :: b.drop (i + 1)) = decide (a.drop (i + 1) = b.drop (i + 1)) from decide_eq_decide.2 (by rw [List.cons.injEq]; exact ⟨fun h => h.2, fun h => ⟨e, h⟩⟩)]
     exact ih (i + 1) (by clear hw; omega)
    ·refine Ev.ite_neg (fun h => e (key_inj.1 h)) ?_
     rw [decide_eq_false (by rw [List.cons.injEq]; exact fun h => e h.1)]
     exact Ev.now _
  have h := this a.length 0 (by omega)
  rw [List.drop_zero, List.drop_zero] at h
  exact h
 ·rw [decide_eq_false (fun h => hab (by rw [h]))]
  exact Ev.ite_neg (by omega) (Ev.now _)
theorem setT_nil : setT [] = [] := by unfold setT; rw [show keysOf [] = [] from rfl, tset_of_rises rises_nil]; rfl
theorem rmake_ev (l : List ByteArray) (hl : l.length ≤ 100000000) : Ev (fun k => gramaryeref13_Make.f k l) (setT l) := by
 have : ∀ (d i : Nat), i + d = l.length → Ev (fun k => gramaryeref13_Make.l0 k l (setT (l.take i)) i) (setT l) := by
  intro d
  induction d with
  | zero =>
   intro i hi
   rw [List.take_of_length_le (by omega)]
   exact Ev.step (fun k => by rw [gramaryeref13_Make.l0, if_neg (by omega)]) (Ev.now _)
  | succ d ih =>
   intro i hi
   have h1 : i < l.length := by omega
   have hw : wrap64 ((i : Int) + 1) = ((i + 1 : Nat) : Int) := by rw [wrap_id (by omega)]; rfl
   refine Ev.step (fun k => by rw [gramaryeref13_Make.l0, if_pos (by clear hw; omega), if_pos (by clear hw; omega), rd_nat h1, hw]) ?_
   have hp := put_ev (setT (l.take i)) l[i] (by rw [keys_setT]; exact (tset_rises _).1) (by have := setT_length (l.take i); rw [List.length_take] at this; clear hw; omega)
   rw [putB_setT', ← List.take_succ_eq_append_getElem h1] at hp
   exact Ev.bind hp (ih (i + 1) (by clear hw; omega))
 have h := this l.length 0 (by omega)
 rw [List.take_zero, setT_nil] at h
 exact h
theorem rjoin_ev (a b : List ByteArray) (ha : a.length ≤ 10000000) (hb : b.length ≤ 10000000) : Ev (fun k => gramaryeref13_Join.f k a b) (setT (a ++ b)) := by
 have : ∀ (d i : Nat), i + d = b.length → Ev (fun k => gramaryeref13_Join.l0 k b (setT (a ++ b.take i)) i) (setT (a ++ b)) := by
  intro d
  induction d with
  | zero =>
   intro i hi
   rw [List.take_of_length_le (by omega)]
   exact Ev.step (fun k => by rw [gramaryeref13_Join.l0, if_neg (by omega)]) (Ev.now _)
  | succ d ih =>
   intro i hi
   have h1 : i < b.length := by omega
   have hw : wrap64 ((i : Int) + 1) = ((i + 1 : Nat) : Int) := by rw [wrap_id (by omega)]; rfl
   refine Ev.step (fun k => by rw [gramaryeref13_Join.l0, if_pos (by clear hw; omega), if_pos (by clear hw; omega), rd_nat h1, hw]) ?_
   have hp := put_ev (setT (a ++ b.take i)) b[i] (by rw [keys_setT]; exact (tset_rises _).1) (by have := setT_length (a ++ b.take i); rw [List.length_append, List.length_take] at this; clear hw; omega)
   rw [putB_setT', List.append_assoc, ← List.take_succ_eq_append_getElem h1] at hp
   exact Ev.bind hp (ih (i + 1) (by clear hw; omega))
 unfold gramaryeref13_Join.f
 have h := this b.length 0 (by omega)
 rw [List.take_zero, List.append_nil] at h
 exact Ev.bind (rmake_ev a (by omega)) h
abbrev Sets := List (List ByteArray)
def setP (l : List ByteArray) : List ByteArray := txts (putAll [] (keysOf l))
theorem setP_eq (l : List ByteArray) : setP l = setT l := congrArg txts (putAll_nil _)
def catA (K : Nat) (a b : List ByteArray) : List ByteArray := setP (a.flatMap fun x => b.map (tc K x))
def rowA (K : Nat) (sets : Sets) : List Sym → List ByteArray → List ByteArray × Bool
 | [], out => (out, true)
 | s :: l, out => if 600 < (catA K out (if s.f0 = true then [strOfNums [s.f1 % 256]] else rd_L6 sets s.f1)).length then ([], false) else rowA K sets l (catA K out (if s.f0 = true then [strOfNums [s.f1 % 256]] else rd_L6 sets s.f1))
def roundA (K : Nat) : List Prod' → Sets → Bool → Sets × Bool × Bool
 | [], sets, more => (sets, more, true)
 | p :: ps, sets, more => if (rowA K sets p.f1 [(⟨#[]⟩ : ByteArray)]).2 = false then (sets, false, false) else if 600 < (setP (rd_L6 sets p.f0 ++ (rowA K sets p.f1 [(⟨#[]⟩ : ByteArray)]).1)).length then (sets, false, false) else roundA K ps (sets.set p.f0.toNat (setP (rd_L6 sets p.f0 ++ (rowA K sets p.f1 [(⟨#[]⟩ : ByteArray)]).1))) (more || decide ((rd_L6 sets p.f0).length < (setP (rd_L6 sets p.f0 ++ (rowA K sets p.f1 [(⟨#[]⟩ : ByteArray)]).1)).length))
def loopA (K : Nat) (ps : List Prod') : Nat → Sets → Option Sets
 | 0, _ => none
 | m + 1, sets => if (roundA K ps sets false).2.2 = false then none else if (roundA K ps sets false).2.1 = false then some (roundA K ps sets false).1 else loopA K ps m (roundA K ps sets false).1
def Good (a : List ByteArray) : Prop := a.length ≤ 600 ∧ ∀ x ∈ a, x.size ≤ 4
def GoodS (sets : Sets) : Prop := ∀ a ∈ sets, Good a ∧ setT a = a
theorem tc_le (K : Nat) (x y : ByteArray) : (tc K x y).size ≤ K := by
 rw [← size_list]
 unfold tc
 simp only [List.toList_toArray, List.length_take]
 omega
theorem catA_size {K : Nat} (hK : K ≤ 4) (a b : List ByteArray) : ∀ x ∈ catA K a b, x.size ≤ 4 := by
 intro x hx
 unfold catA at hx
 rw [setP_eq, mem_setT, List.mem_flatMap] at hx
 obtain ⟨y, hy, hx⟩ := hx
 obtain ⟨z, hz, rfl⟩ := List.mem_map.1 hx
 exact Nat.le_trans (tc_le _ _ _) hK
theorem rd_sets {sets : Sets} {i : Int} (h : 0 ≤ i ∧ i < sets.length) : rd_L6 sets i ∈ sets := by
 unfold rd_L6
 rw [List.getD_eq_getElem?_getD, List.getElem?_eq_getElem (by omega)]
 exact List.getElem_mem _
theorem strOfNums_size (n : Int) : (strOfNums [n]).size = 1 := rfl
theorem tok_good (n : Int) : Good [strOfNums [n]] := ⟨by simp, fun x hx => by rw [List.mem_singleton.1 hx, strOfNums_size]; omega⟩
set_option linter.unusedSectionVars false
section
variable (toks look : Int) (hlook : 1 ≤ look ∧ look ≤ 4)
include hlook
theorem K_le : (mx look 0).toNat ≤ 4 := by unfold mx; split <;> omega
theorem pcat_ev {a b : List ByteArray} (ha : Good a) (hb : Good b) : Ev (fun k => pack_Cat.f k a b look) (catA (mx look 0).toNat a b) := by
 have h := cat_ev b look (by omega) (by have := hb.1; omega) (fun y hy => by have := hb.2 y hy; omega) a (by have := ha.1; omega) (fun x hx => by have := ha.2 x hx; omega)
 unfold catA
 rw [setP_eq, setT_congr (b := a.flatMap (rowOf (mx look 0).toNat b)) fun z => ?_]
 ·exact h
 ·rw [← mem_keys (l := a.flatMap (rowOf _ b)), mem_row]
  simp only [List.mem_flatMap, List.mem_map]
  constructor
  ·rintro ⟨x, hx, y, hy, rfl⟩; exact ⟨x, hx, y, hy, rfl⟩
  ·rintro ⟨x, hx, y, hy, h⟩; exact ⟨x, hx, y, hy, (ext_list h).symm⟩
theorem rcatG_ev {a b : List ByteArray} (ha : Good a) (hb : Good b) : Ev (fun k => gramaryeref13_Cat.f k a b look) (catA (mx look 0).toNat a b) := by
 unfold catA
 rw [setP_eq]
 exact rcat_ev a b look (by have := ha.1; omega) (by have := hb.1; omega) (fun x hx => by have := ha.2 x hx; omega) (fun y hy => by have := hb.2 y hy; omega)
theorem sym_good {sets : Sets} (hS : GoodS sets) {s : Sym} (hs : symBad toks sets.length s = false) : Good (if s.f0 = true then [strOfNums [s.f1 % 256]] else rd_L6 sets s.f1) ∧ (s.f0 = false → 0 ≤ s.f1 ∧ s.f1 < sets.length) := by
 unfold symBad at hs
 cases h : s.f0
 ·rw [h] at hs
  have h2 : 0 ≤ s.f1 ∧ s.f1 < sets.length := by simpa using hs
  exact ⟨(hS _ (rd_sets h2)).1, fun _ => h2⟩
 ·exact ⟨tok_good _, fun h => by cases h⟩
theorem row_ev {sets : Sets} (hS : GoodS sets) : ∀ (l : List Sym) (out : List ByteArray), Good out → l.any (symBad toks sets.length) = false →
  Ev (fun k => first_Of.row (fun a b => pack_Cat.f k a b look) sets 600 l out) (rowA (mx look 0).toNat sets l out) := by
 intro l
 induction l with
 | nil => intro out _ _; exact Ev.now _
 | cons s l ih =>
  intro out ho hb
  rw [List.any_cons, Bool.or_eq_false_iff] at hb
  obtain ⟨hg, hn⟩ := sym_good toks look hlook hS hb.1
  have hc := pcat_ev look hlook ho hg
  unfold rowA
  refine Ev.congr (fun k => by rw [first_Of.row]) (Ev.bind0 (a := if s.f0 = true then [strOfNums [s.f1 % 256]] else rd_L6 sets s.f1) ?_ (Ev.bind hc ?_))
  ·cases h : s.f0
   ·rw [if_neg Bool.false_ne_true, if_neg Bool.false_ne_true, if_pos (hn h)]
   ·rw [if_pos rfl, if_pos rfl]; rfl
  ·by_cases h : 600 < (catA (mx look 0).toNat out (if s.f0 = true then [strOfNums [s.f1 % 256]] else rd_L6 sets s.f1)).length
   ·rw [if_pos h]; exact Ev.ite_pos (by omega) (Ev.now _)
   ·rw [if_neg h]; exact Ev.ite_neg (by omega) (ih _ ⟨by omega, catA_size (K_le look hlook) _ _⟩ hb.2)
theorem rrow_ev {sets : Sets} (hS : GoodS sets) (l : List Sym) (hl : l.length ≤ 1000000000) (hb : l.any (symBad toks sets.length) = false) : ∀ (d i : Nat) (out : List ByteArray), i + d = l.length → Good out →
  Ev (fun k => gramaryeref14_Row.l0 k l look sets 600 out i) (rowA (mx look 0).toNat sets (l.drop i) out) := by
 intro d
 induction d with
 | zero =>
  intro i out hi _
  rw [List.drop_of_length_le (by omega)]
  exact Ev.step (fun k => by rw [gramaryeref14_Row.l0, if_neg (by omega)]; rfl) (Ev.now _)
 | succ d ih =>
  intro i out hi ho
  have hlt : i < l.length := by omega
  have hw : wrap64 ((i : Int) + 1) = ((i + 1 : Nat) : Int) := by rw [wrap_id (by omega)]; rfl
  have hbs : symBad toks sets.length l[i] = false := by
   cases hh : symBad toks sets.length l[i]
   ·rfl
   ·rw [List.any_eq_true.2 ⟨l[i], List.getElem_mem _, hh⟩] at hb; cases hb
  obtain ⟨hg, hn⟩ := sym_good toks look hlook hS hbs
  have hc := rcatG_ev look hlook ho hg
  rw [List.drop_eq_getElem_cons hlt]
  unfold rowA
  refine Ev.step (fun k => by rw [gramaryeref14_Row.l0, if_pos (by clear hw; omega), if_pos (by clear hw; omega), rdS hlt, hw]) ?_
  have done : Ev (fun k => (gramaryeref13_Cat.f k out (if l[i].f0 = true then [strOfNums [l[i].f1 % 256]] else rd_L6 sets l[i].f1) look).bind fun t => if (t.length : Int) > 600 then some (([] : List ByteArray), false) else gramaryeref14_Row.l0 k l look sets 600 t ((i + 1 : Nat) : Int)) (if 600 < (catA (mx look 0).toNat out (if l[i].f0 = true then [strOfNums [l[i].f1 % 256]] else rd_L6 sets l[i].f1)).length then ([], false) else rowA (mx look 0).toNat sets (l.drop (i + 1)) (catA (mx look 0).toNat out (if l[i].f0 = true then [strOfNums [l[i].f1 % 256]] else rd_L6 sets l[i].f1))) := by
   refine Ev.bind hc ?_
   by_cases h : 600 < (catA (mx look 0).toNat out (if l[i].f0 = true then [strOfNums [l[i].f1 % 256]] else rd_L6 sets l[i].f1)).length
   ·rw [if_pos h]; exact Ev.ite_pos (by clear hw; omega) (Ev.now _)
   ·rw [if_neg h]; exact Ev.ite_neg (by clear hw; omega) (ih _ _ (by clear hw; omega) ⟨by clear hw; omega, catA_size (K_le look hlook) _ _⟩)
  cases h : l[i].f0
  ·simp only [h] at done ⊢
   simp only [if_neg Bool.false_ne_true] at done ⊢
   obtain ⟨h1, h2⟩ := hn h
   exact Ev.ite_pos h1 (Ev.ite_pos h2 done)
  ·simp only [h] at done ⊢
   simp only [if_true] at done ⊢
   exact done
end
theorem rowA_good {K : Nat} (hK : K ≤ 4) (sets : Sets) : ∀ (l : List Sym) (out : List ByteArray), Good out → Good (rowA K sets l out).1 := by
 intro l
 induction l with
 | nil => intro out h; exact h
 | cons s l ih =>
  intro out h
  unfold rowA
  by_cases h6 : 600 < (catA K out (if s.f0 = true then [strOfNums [s.f1 % 256]] else rd_L6 sets s.f1)).length
  ·rw [if_pos h6]; exact ⟨Nat.zero_le _, fun x hx => nomatch hx⟩
  ·rw [if_neg h6]; exact ih _ ⟨Nat.not_lt.1 h6, catA_size hK _ _⟩
theorem empty_good : Good [(⟨#[]⟩ : ByteArray)] := ⟨by simp, fun x hx => by rw [List.mem_singleton.1 hx]; decide⟩
theorem setT_idem (l : List ByteArray) : setT (setT l) = setT l := setT_congr fun x => mem_setT
theorem setT_inj {a b : List ByteArray} (ha : setT a = a) (hb : setT b = b) (hs : ∀ x ∈ a, x ∈ b) (hl : b.length ≤ a.length) : a = b := by
 have hra : Rises (keysOf a) := by rw [← ha, keys_setT]; exact (tset_rises _).1
 have hrb : Rises (keysOf b) := by rw [← hb, keys_setT]; exact (tset_rises _).1
 have hk : keysOf a = keysOf b := by
  refine rises_eq hra hrb fun x => ⟨fun hx => ?_, fun hx => ?_⟩
  ·obtain ⟨y, hy, rfl⟩ := List.mem_map.1 hx
   exact mem_keys.2 (hs y hy)
  ·refine Classical.byContradiction fun hn => ?_
   have h : (x :: keysOf a).length ≤ (keysOf b).length := short_of_subset _ _ (List.pairwise_cons.2 ⟨fun y hy e => hn (e ▸ hy), hra.imp fun h => (txt_lt_iff _ _).1 h |>.2⟩) (fun y hy => by
    rcases List.mem_cons.1 hy with e | h
    ·exact e ▸ hx
    ·obtain ⟨z, hz, rfl⟩ := List.mem_map.1 h
     exact mem_keys.2 (hs z hz))
   rw [List.length_cons, keys_length, keys_length] at h
   omega
 rw [← txts_keys a, hk, txts_keys]
def total (sets : Sets) : Nat := (sets.map List.length).sum
theorem total_le : ∀ {sets : Sets}, GoodS sets → total sets ≤ 600 * sets.length := by
 intro sets
 induction sets with
 | nil => intro _; exact Nat.le_refl _
 | cons a sets ih =>
  intro h
  have h1 := (h a List.mem_cons_self).1.1
  have h2 := ih fun x hx => h x (List.mem_cons_of_mem _ hx)
  unfold total at h2 ⊢
  rw [List.map_cons, List.sum_cons, List.length_cons]
  omega
theorem total_set : ∀ (sets : Sets) (i : Nat) (h : i < sets.length) (j : List ByteArray), total (sets.set i j) + (sets[i]).length = total sets + j.length := by
 intro sets
 induction sets with
 | nil => intro i h; simp at h
 | cons a sets ih =>
  intro i h j
  cases i with
  | zero =>
   unfold total
   simp only [List.set_cons_zero, List.map_cons, List.sum_cons, List.getElem_cons_zero]
   omega
  | succ i =>
   have := ih i (by simpa using h) j
   unfold total at this ⊢
   simp only [List.set_cons_succ, List.map_cons, List.sum_cons, List.getElem_cons_succ]
   omega
theorem rd_at {sets : Sets} {i : Int} (h : 0 ≤ i ∧ i < sets.length) : rd_L6 sets i = sets[i.toNat]'(by omega) := by
 unfold rd_L6
 rw [List.getD_eq_getElem?_getD, List.getElem?_eq_getElem (by omega)]
 rfl
theorem goodS_set {sets : Sets} (hS : GoodS sets) (i : Nat) {j : List ByteArray} (hj : Good j) (hf : setT j = j) : GoodS (sets.set i j) := by
 intro a ha
 rcases List.mem_or_eq_of_mem_set ha with h | h
 ·exact hS a h
 ·exact h ▸ ⟨hj, hf⟩
theorem prod_bad {toks : Int} {n : Nat} {p : Prod'} (h : prodBad toks n p = false) : (0 ≤ p.f0 ∧ p.f0 < n) ∧ p.f1.any (symBad toks n) = false := by
 unfold prodBad at h
 rw [Bool.or_eq_false_iff] at h
 exact ⟨by simpa using h.1, h.2⟩
theorem join_good {sets : Sets} {i : Int} (hS : GoodS sets) (h : 0 ≤ i ∧ i < sets.length) {x : List ByteArray} (hx : Good x) (hl : (setP (rd_L6 sets i ++ x)).length ≤ 600) : Good (setP (rd_L6 sets i ++ x)) ∧ setT (setP (rd_L6 sets i ++ x)) = setP (rd_L6 sets i ++ x) := by
 refine ⟨⟨hl, fun y hy => ?_⟩, by rw [setP_eq, setT_idem]⟩
 rw [setP_eq, mem_setT, List.mem_append] at hy
 rcases hy with hy | hy
 ·exact (hS _ (rd_sets h)).1.2 y hy
 ·exact hx.2 y hy
theorem join_grows {sets : Sets} {i : Int} (hS : GoodS sets) (h : 0 ≤ i ∧ i < sets.length) (x : List ByteArray) : (rd_L6 sets i).length ≤ (setP (rd_L6 sets i ++ x)).length ∧ ((setP (rd_L6 sets i ++ x)).length ≤ (rd_L6 sets i).length → rd_L6 sets i = setP (rd_L6 sets i ++ x)) := by
 have hf := (hS _ (rd_sets h)).2
 have hsub : ∀ y ∈ rd_L6 sets i, y ∈ setP (rd_L6 sets i ++ x) := fun y hy => by
  rw [setP_eq, mem_setT]; exact List.mem_append_left _ hy
 refine ⟨?_, fun hl => setT_inj hf (by rw [setP_eq, setT_idem]) hsub hl⟩
 have hr : Rises (keysOf (rd_L6 sets i)) := by rw [← hf, keys_setT]; exact (tset_rises _).1
 have hh := rises_short hr (b := keysOf (setP (rd_L6 sets i ++ x))) fun y hy => by
  obtain ⟨z, hz, rfl⟩ := List.mem_map.1 hy
  exact mem_keys.2 (hsub z hz)
 rwa [keys_length, keys_length] at hh
theorem roundA_spec {K : Nat} (hK : K ≤ 4) {toks : Int} {n : Nat} : ∀ (ps : List Prod') (sets : Sets) (more : Bool), GoodS sets → sets.length = n → ps.any (prodBad toks n) = false →
  GoodS (roundA K ps sets more).1 ∧ (roundA K ps sets more).1.length = n ∧ total sets ≤ total (roundA K ps sets more).1 ∧ (more = false → (roundA K ps sets more).2.1 = true → total sets < total (roundA K ps sets more).1) := by
 intro ps
 induction ps with
 | nil => intro sets more hS hn _; exact ⟨hS, hn, Nat.le_refl _, fun h1 h2 => by rw [show (roundA K [] sets more).2.1 = more from rfl, h1] at h2; cases h2⟩
 | cons p ps ih =>
  intro sets more hS hn hb
  rw [List.any_cons, Bool.or_eq_false_iff] at hb
  obtain ⟨hp, hr⟩ := prod_bad hb.1
  rw [← hn] at hp
  unfold roundA
  have hx := rowA_good hK sets p.f1 _ empty_good
  generalize (rowA K sets p.f1 [(⟨#[]⟩ : ByteArray)]) = x at hx ⊢
  by_cases h1 : x.2 = false
  ·rw [if_pos h1]; exact ⟨hS, hn, Nat.le_refl _, fun _ h2 => by cases h2⟩
  rw [if_neg h1]
  by_cases h2 : 600 < (setP (rd_L6 sets p.f0 ++ x.1)).length
  ·rw [if_pos h2]; exact ⟨hS, hn, Nat.le_refl _, fun _ h2 => by cases h2⟩
  rw [if_neg h2]
  obtain ⟨hj, hf⟩ := join_good hS hp hx (Nat.not_lt.1 h2)
  obtain ⟨hg, -⟩ := join_grows hS hp x.1
  have ht := total_set sets p.f0.toNat (by omega) (setP (rd_L6 sets p.f0 ++ x.1))
  rw [← rd_at hp] at ht
  obtain ⟨i1, i2, i3, i4⟩ := ih (sets.set p.f0.toNat (setP (rd_L6 sets p.f0 ++ x.1))) (more || decide ((rd_L6 sets p.f0).length < (setP (rd_L6 sets p.f0 ++ x.1)).length)) (goodS_set hS _ hj hf) (by rw [List.length_set]; exact hn) hb.2
  refine ⟨i1, i2, by omega, fun hm hm2 => ?_⟩
  by_cases h3 : (rd_L6 sets p.f0).length < (setP (rd_L6 sets p.f0 ++ x.1)).length
  ·omega
  ·have := i4 (by rw [hm, decide_eq_false h3]; rfl) hm2
   omega
section
variable (toks look : Int) (of : List Int) (hlook : 1 ≤ look ∧ look ≤ 4)
include hlook
theorem round_ev : ∀ (ps : List Prod') (sets : Sets) (more : Bool), GoodS sets → sets.length = of.length → ps.any (prodBad toks of.length) = false → (∀ p ∈ ps, p.f1.length ≤ 1000000) →
  Ev (fun k => first_Of.round (fun a b => pack_Cat.f k a b look) 600 ps sets more) (roundA (mx look 0).toNat ps sets more) := by
 intro ps
 induction ps with
 | nil => intro sets more _ _ _ _; exact Ev.now _
 | cons p ps ih =>
  intro sets more hS hn hb hl
  rw [List.any_cons, Bool.or_eq_false_iff] at hb
  obtain ⟨hp, hr⟩ := prod_bad hb.1
  rw [← hn] at hp hr
  unfold roundA
  have hx := rowA_good (K_le look hlook) sets p.f1 _ empty_good
  have hrow := row_ev toks look hlook hS p.f1 _ empty_good hr
  generalize (rowA (mx look 0).toNat sets p.f1 [(⟨#[]⟩ : ByteArray)]) = x at hx hrow ⊢
  refine Ev.congr (fun k => by rw [first_Of.round]) (Ev.ite_pos (hl p List.mem_cons_self) (Ev.bind hrow ?_))
  by_cases h1 : x.2 = false
  ·rw [if_pos h1]; exact Ev.ite_pos h1 (Ev.now _)
  rw [if_neg h1]
  have hm := (hS _ (rd_sets hp)).1.1
  refine Ev.ite_neg h1 (Ev.ite_pos hp (Ev.bind0 (join_some _ _ (by omega) (by have := hx.1; omega)) ?_))
  rw [← setP_eq]
  by_cases h2 : 600 < (setP (rd_L6 sets p.f0 ++ x.1)).length
  ·rw [if_pos h2]; exact Ev.ite_pos (by omega) (Ev.now _)
  rw [if_neg h2]
  obtain ⟨hj, hf⟩ := join_good hS hp hx (Nat.not_lt.1 h2)
  have hi := ih (sets.set p.f0.toNat (setP (rd_L6 sets p.f0 ++ x.1))) (more || decide ((rd_L6 sets p.f0).length < (setP (rd_L6 sets p.f0 ++ x.1)).length)) (goodS_set hS _ hj hf) (by rw [List.length_set]; exact hn) hb.2 (fun q hq => hl q (List.mem_cons_of_mem _ hq))
  refine Ev.ite_neg (by omega) ?_
  rw [show decide ((((setP (rd_L6 sets p.f0 ++ x.1)).length : Nat) : Int) > ((rd_L6 sets p.f0).length : Int)) = decide ((rd_L6 sets p.f0).length < (setP (rd_L6 sets p.f0 ++ x.1)).length) from decide_eq_decide.2 (by omega)]
  exact hi
theorem rround_ev (L : List Prod') (hL : L.length ≤ 1000000000) (hb : L.any (prodBad toks of.length) = false) (hl : ∀ p ∈ L, p.f1.length ≤ 1000000) (r : Sets × Bool) : ∀ (d i : Nat) (sets : Sets) (more : Bool), i + d = L.length → GoodS sets → sets.length = of.length →
  ((roundA (mx look 0).toNat (L.drop i) sets more).2.2 = true → Ev (fun k => gramaryeref14_Grown.l1 k look 600 (roundA (mx look 0).toNat (L.drop i) sets more).1 (roundA (mx look 0).toNat (L.drop i) sets more).2.1 toks look of L) r) →
  Ev (fun k => gramaryeref14_Grown.l2 k look 600 sets more i toks look of L) (if (roundA (mx look 0).toNat (L.drop i) sets more).2.2 = true then r else ([], false)) := by
 intro d
 induction d with
 | zero =>
  intro i sets more hi _ _ hc
  rw [List.drop_of_length_le (by omega)] at hc ⊢
  exact Ev.step (fun k => by rw [gramaryeref14_Grown.l2, if_neg (by omega)]; rfl) (hc rfl)
 | succ d ih =>
  intro i sets more hi hS hn hc
  have hlt : i < L.length := by omega
  have hw : wrap64 ((i : Int) + 1) = ((i + 1 : Nat) : Int) := by rw [wrap_id (by omega)]; rfl
  have hbp : prodBad toks of.length L[i] = false := by
   cases hh : prodBad toks of.length L[i]
   ·rfl
   ·rw [List.any_eq_true.2 ⟨L[i], List.getElem_mem _, hh⟩] at hb; cases hb
  obtain ⟨hp, hr⟩ := prod_bad hbp
  rw [← hn] at hp hr
  have hll := hl _ (List.getElem_mem hlt)
  rw [List.drop_eq_getElem_cons hlt] at hc ⊢
  unfold roundA at hc ⊢
  have hx := rowA_good (K_le look hlook) sets L[i].f1 _ empty_good
  have hrow := rrow_ev toks look hlook hS L[i].f1 (by clear hw; omega) hr L[i].f1.length 0 _ (by clear hw; omega) empty_good
  rw [List.drop_zero] at hrow
  generalize (rowA (mx look 0).toNat sets L[i].f1 [(⟨#[]⟩ : ByteArray)]) = x at hx hrow hc ⊢
  refine Ev.step (fun k => by rw [gramaryeref14_Grown.l2, if_pos (by clear hw; omega), if_pos (by clear hw; omega), rdP hlt, hw]) (Ev.bind (by unfold gramaryeref14_Row.f; exact hrow) ?_)
  by_cases h1 : x.2 = false
  ·rw [if_pos h1] at hc ⊢; exact Ev.ite_neg (by rw [h1]; simp) (Ev.now _)
  rw [if_neg h1] at hc ⊢
  have hm := (hS _ (rd_sets hp)).1.1
  refine Ev.ite_pos (by simpa using h1) (Ev.ite_pos hp.1 (Ev.ite_pos hp.2 (Ev.bind (by
   have hj := rjoin_ev (rd_L6 sets L[i].f0) x.1 (by clear hw; omega) (by have := hx.1; clear hw; omega)
   rw [← setP_eq] at hj
   exact hj) ?_)))
  by_cases h2 : 600 < (setP (rd_L6 sets L[i].f0 ++ x.1)).length
  ·rw [if_pos h2] at hc ⊢; exact Ev.ite_pos (by clear hw; omega) (Ev.now _)
  rw [if_neg h2] at hc ⊢
  obtain ⟨hj, hf⟩ := join_good hS hp hx (Nat.not_lt.1 h2)
  obtain ⟨-, hg⟩ := join_grows hS hp x.1
  refine Ev.ite_neg (by clear hw; omega) ?_
  have hi := ih (i + 1) (sets.set L[i].f0.toNat (setP (rd_L6 sets L[i].f0 ++ x.1))) (more || decide ((rd_L6 sets L[i].f0).length < (setP (rd_L6 sets L[i].f0 ++ x.1)).length)) (by clear hw; omega) (goodS_set hS _ hj hf) (by rw [List.length_set]; exact hn) hc
  by_cases h3 : (rd_L6 sets L[i].f0).length < (setP (rd_L6 sets L[i].f0 ++ x.1)).length
  ·refine Ev.ite_pos (by clear hw; omega) ?_
   rw [decide_eq_true h3, Bool.or_true] at hi ⊢
   exact hi
  ·refine Ev.ite_neg (by clear hw; omega) ?_
   have he := hg (Nat.not_lt.1 h3)
   rw [decide_eq_false h3, Bool.or_false] at hi ⊢
   have hse : sets.set L[i].f0.toNat (setP (rd_L6 sets L[i].f0 ++ x.1)) = sets := by
    rw [← he, rd_at hp]
    exact List.set_getElem_self _
   rw [hse] at hi ⊢
   exact hi
theorem loop_ev (L : List Prod') (hL : L.length ≤ 1000000000) (hb : L.any (prodBad toks of.length) = false) (hl : ∀ p ∈ L, p.f1.length ≤ 1000000) : ∀ (m : Nat) (sets : Sets), GoodS sets → sets.length = of.length → 600 * of.length - total sets < m →
  (∃ N, ∀ k, N ≤ k → ∀ q, N ≤ q → first_Of.loop (fun a b => pack_Cat.f k a b look) 600 L q sets = some (loopA (mx look 0).toNat L m sets)) ∧
  Ev (fun k => gramaryeref14_Grown.l1 k look 600 sets true toks look of L) (match loopA (mx look 0).toNat L m sets with | none => ([], false) | some s => (s, true)) ∧
  ∀ s, loopA (mx look 0).toNat L m sets = some s → GoodS s ∧ s.length = of.length := by
 intro m
 induction m with
 | zero => intro sets _ _ h; omega
 | succ m ih =>
  intro sets hS hn hm
  obtain ⟨g1, g2, g3, g4⟩ := roundA_spec (K_le look hlook) L sets false hS hn hb
  obtain ⟨N, hN⟩ := round_ev toks look of hlook L sets false hS hn hb hl
  replace hN : ∀ k, N ≤ k → first_Of.round (fun a b => pack_Cat.f k a b look) 600 L sets false = some (roundA (mx look 0).toNat L sets false) := hN
  have hrr := fun r => rround_ev toks look of hlook L hL hb hl r L.length 0 sets false (by omega) hS hn
  simp only [List.drop_zero] at hrr
  have hl1 : ∀ r, Ev (fun k => gramaryeref14_Grown.l2 k look 600 sets false (0 : Nat) toks look of L) r → Ev (fun k => gramaryeref14_Grown.l1 k look 600 sets true toks look of L) r := fun r h => Ev.step (fun k => by rw [gramaryeref14_Grown.l1, if_pos rfl]; rfl) h
  unfold loopA
  generalize roundA (mx look 0).toNat L sets false = x at g1 g2 g3 g4 hN hrr ⊢
  by_cases h1 : x.2.2 = false
  ·rw [if_pos h1]
   refine ⟨⟨N + 1, fun k hk q hq => ?_⟩, ?_, fun s h => by cases h⟩
   ·obtain ⟨q, rfl⟩ : ∃ q', q = q' + 1 := ⟨q - 1, by omega⟩
    rw [first_Of.loop, hN k (by omega), Option.bind_some, if_pos h1]
   ·have := hrr ([], true) (fun h => by rw [h1] at h; cases h)
    rw [if_neg (by rw [h1]; simp)] at this
    exact hl1 _ this
  rw [if_neg h1]
  by_cases h2 : x.2.1 = false
  ·rw [if_pos h2]
   refine ⟨⟨N + 1, fun k hk q hq => ?_⟩, ?_, fun s h => by cases h; exact ⟨g1, g2⟩⟩
   ·obtain ⟨q, rfl⟩ : ∃ q', q = q' + 1 := ⟨q - 1, by omega⟩
    rw [first_Of.loop, hN k (by omega), Option.bind_some, if_neg h1, if_pos h2]
   ·have := hrr (x.1, true) (fun h => by rw [h2]; exact Ev.step (fun k => by rw [gramaryeref14_Grown.l1, if_neg (by simp)]) (Ev.now _))
    rw [if_pos (by simpa using h1)] at this
    exact hl1 _ this
  rw [if_neg h2]
  have g5 := g4 rfl (by simpa using h2)
  have g6 := total_le g1
  rw [g2] at g6
  obtain ⟨⟨M, hM⟩, i2, i3⟩ := ih x.1 g1 g2 (by omega)
  refine ⟨⟨N + M + 1, fun k hk q hq => ?_⟩, ?_, i3⟩
  ·obtain ⟨q, rfl⟩ : ∃ q', q = q' + 1 := ⟨q - 1, by omega⟩
   rw [first_Of.loop, hN k (by omega), Option.bind_some, if_neg h1, if_neg h2]
   exact hM k (by omega) q (by omega)
  ·have := hrr _ (fun _ => by rw [show x.2.1 = true by simpa using h2]; exact i2)
   rw [if_pos (by simpa using h1)] at this
   exact hl1 _ this
end
theorem mayE_zero {toks look : Int} {n : Nat} {L : List Prod'} (h : mayE toks look n L = 0) : (1 ≤ n ∧ n ≤ 500) ∧ (1 ≤ L.length ∧ L.length ≤ 2000) ∧ (1 ≤ look ∧ look ≤ 4) ∧ L.any (prodBad toks n) = false := by
 unfold mayE at h
 by_cases h1 : toks < 1 ∨ 60 < toks ∨ n < 1 ∨ 500 < n ∨ L.length < 1 ∨ 2000 < L.length ∨ (L.any fun p => decide (500 < p.f1.length)) = true
 ·rw [if_pos h1] at h; cases h
 rw [if_neg h1] at h
 by_cases h2 : look < 1 ∨ 4 < look
 ·rw [if_pos h2] at h; cases h
 rw [if_neg h2] at h
 by_cases h3 : L.any (prodBad toks n) = true
 ·rw [if_pos h3] at h; cases h
 exact ⟨by omega, by omega, by omega, by simpa using h3⟩
def cutP (m : Nat) (p : Prod') : Prod' := ⟨p.f0, p.f1.take m⟩
theorem gfew_l0 (t l : Int) (of : List Int) : ∀ (L : List Prod') (hL : L.length ≤ 1000000000) (d i : Nat), i + d = L.length →
  Ev (fun k => gramaryelaw14_few.l0 k i t l of L) (t, l, of, L.take i ++ (L.drop i).map (cutP 4)) := by
 intro L hL d
 induction d generalizing L with
 | zero =>
  intro i hi
  rw [List.drop_of_length_le (by omega), List.take_of_length_le (by omega), List.map_nil, List.append_nil]
  exact Ev.step (fun k => by rw [gramaryelaw14_few.l0, if_neg (by omega)]) (Ev.now _)
 | succ d ih =>
  intro i hi
  have hlt : i < L.length := by omega
  have hw : wrap64 ((i : Int) + 1) = ((i + 1 : Nat) : Int) := by rw [wrap_id (by omega)]; rfl
  have hm : 0 ≤ mn (L[i].f1.length : Int) 4 ∧ mn (L[i].f1.length : Int) 4 ≤ L[i].f1.length ∧ L[i].f1.take (mn (L[i].f1.length : Int) 4).toNat = L[i].f1.take 4 := by
   unfold mn
   split
   ·exact ⟨by clear hw; omega, by clear hw; omega, rfl⟩
   ·refine ⟨by clear hw; omega, by clear hw; omega, ?_⟩
    rw [Int.toNat_natCast, List.take_length, List.take_of_length_le (by clear hw; omega)]
  have h := ih (L.set i (cutP 4 L[i])) (by rw [List.length_set]; exact hL) (i + 1) (by rw [List.length_set]; clear hw; omega)
  have e : (L.set i (cutP 4 L[i])).take (i + 1) ++ ((L.set i (cutP 4 L[i])).drop (i + 1)).map (cutP 4) = L.take i ++ (L.drop i).map (cutP 4) := by
   rw [List.drop_set_of_lt (by omega), List.take_succ_eq_append_getElem (by rw [List.length_set]; exact hlt), List.getElem_set_self, List.take_set_of_le (Nat.le_refl _), List.append_assoc, List.drop_eq_getElem_cons hlt]
   rfl
  rw [e] at h
  refine Ev.step (fun k => by rw [gramaryelaw14_few.l0, if_pos (by clear hw; omega), if_pos (by clear hw; omega), rdP hlt, if_pos hm.1, if_pos hm.2.1, hm.2.2, hw]; rfl) h
theorem Few_l0 (t l t' l' : Int) (of of' : List Int) (L : List Prod') (m : Nat) (hm : m ≤ 1000) : ∀ (d i : Nat), m - i = d → i ≤ m →
  Ev (fun k => gramaryeref09_Few.l0 k m i t l of L t' l' of' ((L.take i).map (cutP 8))) (t', l', of', (L.take m).map (cutP 8)) := by
 intro d
 induction d with
 | zero =>
  intro i hi hi2
  rw [show i = m by omega]
  by_cases hlt : m < L.length
  ·exact Ev.step (fun k => by rw [gramaryeref09_Few.l0, if_pos (by omega), if_neg (by omega)]) (Ev.now _)
  ·exact Ev.step (fun k => by rw [gramaryeref09_Few.l0, if_neg (by omega)]) (Ev.now _)
 | succ d ih =>
  intro i hi hi2
  by_cases hlt : i < L.length
  ·have hw : wrap64 ((i : Int) + 1) = ((i + 1 : Nat) : Int) := by rw [wrap_id (by omega)]; rfl
   have hm : 0 ≤ mn (L[i].f1.length : Int) 8 ∧ mn (L[i].f1.length : Int) 8 ≤ L[i].f1.length ∧ L[i].f1.take (mn (L[i].f1.length : Int) 8).toNat = L[i].f1.take 8 := by
    unfold mn
    split
    ·exact ⟨by clear hw; omega, by clear hw; omega, rfl⟩
    ·refine ⟨by clear hw; omega, by clear hw; omega, ?_⟩
     rw [Int.toNat_natCast, List.take_length, List.take_of_length_le (by clear hw; omega)]
   have h := ih (i + 1) (by clear hw; omega) (by clear hw; omega)
   rw [List.take_succ_eq_append_getElem hlt, List.map_append] at h
   refine Ev.step (fun k => by rw [gramaryeref09_Few.l0, if_pos (by clear hw; omega), if_pos (by clear hw; omega), if_pos (by clear hw; omega), rdP hlt, Option.bind_some, if_pos hm.1, if_pos hm.2.1, hm.2.2, Option.bind_some, if_pos (by simp; clear hw; omega), if_pos (by simp; clear hw; omega), hw]; rfl) h
  ·rw [List.take_of_length_le (by omega), List.take_of_length_le (by omega)]
   exact Ev.step (fun k => by rw [gramaryeref09_Few.l0, if_neg (by omega)]) (Ev.now _)
def fewL (L : List Prod') : List Prod' := (L.take 14).map (cutP 4)
theorem take_mn {α : Type} (l : List α) (n : Nat) : (0 ≤ mn (l.length : Int) n ∧ mn (l.length : Int) n ≤ l.length) ∧ l.take (mn (l.length : Int) n).toNat = l.take n := by
 unfold mn
 split
 ·exact ⟨⟨by omega, by omega⟩, rfl⟩
 ·refine ⟨⟨by omega, by omega⟩, ?_⟩
  rw [Int.toNat_natCast, List.take_length, List.take_of_length_le (by omega)]
theorem gfew_ev (t l : Int) (of : List Int) (L : List Prod') : Ev (fun k => gramaryelaw14_few.f k t l of L) (t, l, of.take 8, fewL L) := by
 have h1 := Few_l0 t l t l of (of.take 8) L 14 (by omega) 14 0 rfl (by omega)
 have h2 := gfew_l0 t l (of.take 8) ((L.take 14).map (cutP 8)) (by simp; omega) _ 0 (Nat.zero_add _)
 rw [List.take_zero, List.drop_zero, List.nil_append, List.map_map] at h2
 rw [show cutP 4 ∘ cutP 8 = cutP 4 from funext fun p => by unfold cutP; simp [List.take_take]] at h2
 obtain ⟨hm, he⟩ := take_mn of 8
 unfold gramaryelaw14_few.f gramaryeref09_Few.f gramaryebase_Ints.f
 refine Ev.bind (Ev.ite_pos hm.1 (Ev.ite_pos hm.2 (Ev.bind0 (a := of.take 8) ?_ h1))) h2
 erw [he]
 rw [Option.bind_some, if_pos (by simp; omega)]
 rfl
theorem fewL_few (L : List Prod') : fewL (fewL L) = fewL L := by
 unfold fewL
 rw [List.take_of_length_le (by simp; omega), List.map_map, show cutP 4 ∘ cutP 4 = cutP 4 from funext fun p => by unfold cutP; simp [List.take_take]]
theorem fewL_le (L : List Prod') : (fewL L).length ≤ 14 ∧ ∀ p ∈ fewL L, p.f1.length ≤ 4 := by
 unfold fewL
 refine ⟨by simp; omega, fun p hp => ?_⟩
 obtain ⟨q, -, rfl⟩ := List.mem_map.1 hp
 unfold cutP
 simp; omega
def ofA (toks look : Int) (n : Nat) (L : List Prod') : Sets × Int :=
 if mayE toks look n L = 0 then (match loopA (mx look 0).toNat L (600 * n + 1) (List.replicate n []) with | none => ([], 15) | some s => (s, 0)) else ([], mayE toks look n L)
theorem empties_good (n : Nat) : GoodS (List.replicate n []) := by
 intro a ha
 rw [(List.mem_replicate.1 ha).2]
 exact ⟨⟨Nat.zero_le _, fun x hx => nomatch hx⟩, setT_nil⟩
theorem of_ev (toks look : Int) (of : List Int) (L : List Prod') (hl : ∀ p ∈ L, p.f1.length ≤ 1000000) (hL : L.length ≤ 1000000) : Ev (fun k => first_Of.f k toks look of L) (ofA toks look of.length L) := by
 unfold first_Of.f first_Of.grow ofA
 refine Ev.bind (may_ev toks look of L (by omega) (fun p hp => by have := hl p hp; omega)) ?_
 by_cases h0 : mayE toks look of.length L = 0
 ·obtain ⟨h1, h2, h3, h4⟩ := mayE_zero h0
  rw [if_pos h0]
  obtain ⟨⟨N, hN⟩, -, -⟩ := loop_ev toks look of h3 L (by omega) h4 hl (600 * of.length + 1) (List.replicate of.length []) (empties_good _) (List.length_replicate ..) (by omega)
  refine Ev.ite_pos h0 (Ev.ite_pos ⟨by omega, by omega, by omega⟩ (Ev.bind (a := loopA (mx look 0).toNat L (600 * of.length + 1) (List.replicate of.length [])) ⟨N, fun k hk => hN k hk k hk⟩ ?_))
  cases loopA (mx look 0).toNat L (600 * of.length + 1) (List.replicate of.length []) with
  | none => exact Ev.now _
  | some s => exact Ev.now _
 ·rw [if_neg h0]
  exact Ev.ite_neg h0 (Ev.now _)
theorem rgrown_l0 (toks look : Int) (of : List Int) (hof : of.length ≤ 1000000) (L : List Prod') (r : Sets × Bool) (h : Ev (fun k => gramaryeref14_Grown.l1 k look 600 (List.replicate of.length []) true toks look of L) r) : ∀ (d i : Nat), i + d = of.length → Ev (fun k => gramaryeref14_Grown.l0 k look 600 (List.replicate i []) i toks look of L) r := by
 intro d
 induction d with
 | zero =>
  intro i hi
  rw [show i = of.length by omega]
  exact Ev.step (fun k => by rw [gramaryeref14_Grown.l0, if_neg (by omega)]) h
 | succ d ih =>
  intro i hi
  have hw : wrap64 ((i : Int) + 1) = ((i + 1 : Nat) : Int) := by rw [wrap_id (by omega)]; rfl
  have hi2 := ih (i + 1) (by clear hw; omega)
  rw [List.replicate_succ'] at hi2
  exact Ev.step (fun k => by rw [gramaryeref14_Grown.l0, if_pos (by clear hw; omega), if_pos (by rw [List.length_replicate]; clear hw; omega), hw]) hi2
theorem rof_ev (toks look : Int) (of : List Int) (L : List Prod') (hl : ∀ p ∈ L, p.f1.length ≤ 1000000) (hL : L.length ≤ 1000000) : Ev (fun k => gramaryeref14_Of.f k toks look of L) (ofA toks look of.length L) := by
 unfold gramaryeref14_Of.f ofA
 refine Ev.bind (rmay_ev toks look of L (by omega) (fun p hp => by have := hl p hp; omega)) ?_
 by_cases h0 : mayE toks look of.length L = 0
 ·obtain ⟨h1, h2, h3, h4⟩ := mayE_zero h0
  rw [if_pos h0]
  obtain ⟨-, hN, -⟩ := loop_ev toks look of h3 L (by omega) h4 hl (600 * of.length + 1) (List.replicate of.length []) (empties_good _) (List.length_replicate ..) (by omega)
  have hg := rgrown_l0 toks look of (by omega) L _ hN of.length 0 (by omega)
  unfold gramaryeref14_Grown.f
  refine Ev.ite_pos h0 (Ev.bind hg ?_)
  cases loopA (mx look 0).toNat L (600 * of.length + 1) (List.replicate of.length []) with
  | none => exact Ev.now _
  | some s => exact Ev.now _
 ·rw [if_neg h0]
  exact Ev.ite_neg h0 (Ev.now _)
theorem ofA_good (toks look : Int) (of : List Int) (L : List Prod') (hl : ∀ p ∈ L, p.f1.length ≤ 1000000) (hL : L.length ≤ 1000000) : GoodS (ofA toks look of.length L).1 ∧ (ofA toks look of.length L).1.length ≤ 500 := by
 unfold ofA
 by_cases h0 : mayE toks look of.length L = 0
 ·obtain ⟨h1, h2, h3, h4⟩ := mayE_zero h0
  rw [if_pos h0]
  obtain ⟨-, -, hG⟩ := loop_ev toks look of h3 L (by omega) h4 hl (600 * of.length + 1) (List.replicate of.length []) (empties_good _) (List.length_replicate ..) (by omega)
  cases hh : loopA (mx look 0).toNat L (600 * of.length + 1) (List.replicate of.length []) with
  | none => exact ⟨fun a (h : a ∈ ([] : Sets)) => (nomatch h), Nat.zero_le _⟩
  | some s => exact ⟨(hG s hh).1, by rw [(hG s hh).2]; omega⟩
 ·rw [if_neg h0]
  exact ⟨fun a (h : a ∈ ([] : Sets)) => (nomatch h), Nat.zero_le _⟩
def sampleL : List Prod' := [⟨0, [⟨true, 1⟩, ⟨false, 0⟩]⟩, ⟨0, [⟨true, 2⟩]⟩]
theorem sample_of : ofA 2 2 1 sampleL = ([[⟨#[1, 1]⟩, ⟨#[1, 2]⟩, ⟨#[2]⟩]], 0) := by kernel_rfl
theorem first_works : Ev (fun k => gramaryelaw14_works.f k) true := by
 unfold gramaryelaw14_works.f gramaryelaw14_sample.f
 refine Ev.bind0 rfl ?_
 have h := of_ev 2 2 [-1] sampleL (fun p hp => by
  unfold sampleL at hp
  rcases List.mem_cons.1 hp with rfl | hp
  ·simp
  ·rw [List.mem_singleton.1 hp]; simp) (by unfold sampleL; simp)
 rw [show ([-1] : List Int).length = 1 from rfl, sample_of] at h
 refine Ev.bind h (Ev.ite_pos rfl (Ev.ite_pos rfl (Ev.ite_pos (by decide) ?_)))
 have hs := same_dec [⟨#[1, 1]⟩, ⟨#[1, 2]⟩, ⟨#[2]⟩] [⟨#[1, 1]⟩, ⟨#[1, 2]⟩, ⟨#[2]⟩] (by simp)
 rw [decide_eq_true rfl] at hs
 exact Ev.bind hs (Ev.now _)
theorem ofA_zero {toks look : Int} {of : List Int} {L : List Prod'} (hl : ∀ p ∈ L, p.f1.length ≤ 1000000) (hL : L.length ≤ 1000000) (h : (ofA toks look of.length L).2 = 0) : (1 ≤ look ∧ look ≤ 4) ∧ (ofA toks look of.length L).1.length = of.length := by
 unfold ofA at h ⊢
 by_cases h0 : mayE toks look of.length L = 0
 ·obtain ⟨h1, h2, h3, h4⟩ := mayE_zero h0
  rw [if_pos h0] at h ⊢
  obtain ⟨-, -, hG⟩ := loop_ev toks look of h3 L (by omega) h4 hl (600 * of.length + 1) (List.replicate of.length []) (empties_good _) (List.length_replicate ..) (by omega)
  refine ⟨h3, ?_⟩
  cases hh : loopA (mx look 0).toNat L (600 * of.length + 1) (List.replicate of.length []) with
  | none => rw [hh] at h; cases h
  | some s => exact (hG s hh).2
 ·rw [if_neg h0] at h
  exact absurd h h0
theorem symbol_some (toks look : Int) (of : List Int) (L : List Prod') (b : Bool) (n : Int) : first_symbol.f toks look of L b n = some (!symBad toks of.length ⟨b, n⟩) := by
 unfold first_symbol.f symBad
 cases b
 ·by_cases h : n ≥ 0
  ·simp [h]
  ·simp [h]
 ·by_cases h : n ≥ 1
  ·simp [h]
  ·simp [h]
theorem idxRow (toks look : Int) (of : List Int) (L : List Prod') (l : List Sym) (hl : l.length ≤ 1000000000) : ∀ (d i : Nat), i + d = l.length → ∃ z : Int, decide (z ≥ 0) = (l.drop i).any (symBad toks of.length) ∧ Ev (fun k => slices_IndexFunc_api_Sym__first_Row_1.l0 k l l.length i toks look of L) (z, toks, look) := by
 intro d
 induction d with
 | zero =>
  intro i hi
  exact ⟨-1, by rw [List.drop_of_length_le (by omega)]; rfl, Ev.step (fun k => by rw [slices_IndexFunc_api_Sym__first_Row_1.l0, if_neg (by omega)]) (Ev.now _)⟩
 | succ d ih =>
  intro i hi
  have hlt : i < l.length := by omega
  have hw : wrap64 ((i : Int) + 1) = ((i + 1 : Nat) : Int) := by rw [wrap_id (by omega)]; rfl
  have e : first_Row_1.f l[i].f0 l[i].f1 toks look of L = some (symBad toks of.length l[i], toks, look) := by
   unfold first_Row_1.f
   rw [symbol_some, Option.bind_some, Bool.not_not]
  rw [drop_any hlt]
  cases hb : symBad toks of.length l[i]
  ·obtain ⟨z, h0, hz⟩ := ih (i + 1) (by omega)
   refine ⟨z, by rw [h0]; rfl, Ev.step (fun k => by rw [slices_IndexFunc_api_Sym__first_Row_1.l0, if_pos (by clear hw; omega), if_pos (by clear hw; omega), if_pos (by clear hw; omega), rdS hlt, e, Option.bind_some, hw]) (Ev.ite_neg (by rw [hb]; simp) hz)⟩
  ·refine ⟨i, by simp, Ev.step (fun k => by rw [slices_IndexFunc_api_Sym__first_Row_1.l0, if_pos (by clear hw; omega), if_pos (by clear hw; omega), if_pos (by clear hw; omega), rdS hlt, e, Option.bind_some]) (Ev.ite_pos hb (Ev.now _))⟩
def rowR (toks look : Int) (n : Nat) (L : List Prod') (l : List Sym) : List ByteArray × Int :=
 if (ofA toks look n L).2 = 0 then (if l.any (symBad toks n) = true then ([], 4) else if (rowA (mx look 0).toNat (ofA toks look n L).1 l [(⟨#[]⟩ : ByteArray)]).2 = true then ((rowA (mx look 0).toNat (ofA toks look n L).1 l [(⟨#[]⟩ : ByteArray)]).1, 0) else ([], 15)) else ([], (ofA toks look n L).2)
theorem frow_ev (toks look : Int) (of : List Int) (L : List Prod') (l : List Sym) (hl : ∀ p ∈ L, p.f1.length ≤ 1000000) (hL : L.length ≤ 1000000) (hll : l.length ≤ 1000000) : Ev (fun k => first_Row.f k toks look of L l) (rowR toks look of.length L l) := by
 have hof := of_ev toks look of L hl hL
 obtain ⟨g1, g2⟩ := ofA_good toks look of L hl hL
 have gz := ofA_zero (toks := toks) (look := look) (of := of) hl hL
 unfold rowR first_Row.f
 unfold first_Of.f at hof
 generalize ofA toks look of.length L = X at hof g1 g2 gz ⊢
 refine Ev.bind hof ?_
 by_cases h0 : X.2 = 0
 ·obtain ⟨hlook, hlen⟩ := gz h0
  rw [if_pos h0]
  obtain ⟨z, hz0, hz⟩ := idxRow toks look of L l (by omega) l.length 0 (by omega)
  rw [List.drop_zero] at hz0
  unfold slices_ContainsFunc_api_Sym__first_Row_1.f slices_IndexFunc_api_Sym__first_Row_1.f
  refine Ev.ite_pos h0 (Ev.ite_pos hll (Ev.bind (Ev.bind hz (Ev.now _)) ?_))
  rw [hz0]
  by_cases hb : l.any (symBad toks of.length) = true
  ·rw [if_pos hb]
   exact Ev.ite_pos hb (Ev.now _)
  ·rw [if_neg hb]
   have hr := row_ev toks look hlook g1 l _ empty_good (by rw [hlen]; simpa using hb)
   generalize rowA (mx look 0).toNat X.1 l [(⟨#[]⟩ : ByteArray)] = y at hr ⊢
   refine Ev.ite_neg hb (Ev.bind hr ?_)
   by_cases hy : y.2 = true
   ·simp only [if_pos hy]; exact Ev.now _
   ·simp only [if_neg hy]; exact Ev.now _
 ·rw [if_neg h0]
  exact Ev.ite_neg h0 (Ev.now _)
theorem works_tail : Ev (fun k => (gramaryelaw14_works.f k).bind fun t => some t) true := Ev.bind first_works (Ev.now _)
theorem bad_tail {x5 : List ByteArray} {x6 c : Int} (h : x5 = [] ∧ x6 = c) : Ev (fun k => if x6 = c then (if (x5.length : Int) = 0 then ((gramaryelaw14_works.f k).bind fun t => some t) else some false) else some false) true := by
 obtain ⟨rfl, rfl⟩ := h
 exact Ev.ite_pos rfl (Ev.ite_pos rfl works_tail)
theorem rows_l0 (toks look : Int) (hlook : 1 ≤ look ∧ look ≤ 4) (of : List Int) (L : List Prod') (l : List Sym) (hll : l.length ≤ 1000000) (sets : Sets) (g1 : GoodS sets) (hlen : sets.length = of.length) (x5 : List ByteArray) (x6 : Int)
  (hbad : l.any (symBad toks of.length) = true → x5 = [] ∧ x6 = 4)
  (hgood : l.any (symBad toks of.length) = false → ((rowA (mx look 0).toNat sets l [(⟨#[]⟩ : ByteArray)]).2 = true → x5 = (rowA (mx look 0).toNat sets l [(⟨#[]⟩ : ByteArray)]).1 ∧ x6 = 0) ∧ (¬ (rowA (mx look 0).toNat sets l [(⟨#[]⟩ : ByteArray)]).2 = true → x5 = [] ∧ x6 = 15)) :
  ∀ (d i : Nat), i + d = l.length → (l.take i).any (symBad toks of.length) = false → Ev (fun k => gramaryelaw14_FirstRows.l0 k l x5 x6 sets i toks look of L) true := by
 intro d
 induction d with
 | zero =>
  intro i hi hb
  rw [List.take_of_length_le (by omega)] at hb
  have hr := rrow_ev toks look hlook g1 l (by omega) (by rw [hlen]; exact hb) l.length 0 _ (by omega) empty_good
  rw [List.drop_zero] at hr
  obtain ⟨h1, h2⟩ := hgood hb
  have hG := rowA_good (K_le look hlook) sets l _ empty_good
  generalize rowA (mx look 0).toNat sets l [(⟨#[]⟩ : ByteArray)] = y at hr h1 h2 hG
  refine Ev.step (fun k => by rw [gramaryelaw14_FirstRows.l0, if_neg (by omega)]) (Ev.bind (by unfold gramaryeref14_Row.f; exact hr) ?_)
  by_cases hy : y.2 = true
  ·obtain ⟨rfl, rfl⟩ := h1 hy
   have hs := same_dec y.1 y.1 (by have := hG.1; omega)
   rw [decide_eq_true rfl] at hs
   exact Ev.ite_pos hy (Ev.ite_pos rfl (Ev.bind hs (Ev.ite_pos rfl works_tail)))
  ·exact Ev.ite_neg hy (bad_tail (h2 hy))
 | succ d ih =>
  intro i hi hb
  have hlt : i < l.length := by omega
  have hw : wrap64 ((i : Int) + 1) = ((i + 1 : Nat) : Int) := by rw [wrap_id (by omega)]; rfl
  have bad : symBad toks of.length l[i] = true → x5 = [] ∧ x6 = 4 := fun h => hbad (List.any_eq_true.2 ⟨l[i], List.getElem_mem _, h⟩)
  have good : symBad toks of.length l[i] = false → Ev (fun k => gramaryelaw14_FirstRows.l0 k l x5 x6 sets ((i + 1 : Nat) : Int) toks look of L) true := fun h => ih (i + 1) (by clear hw; omega) (by
   rw [List.take_succ_eq_append_getElem hlt, List.any_append, hb]; simp [h])
  unfold symBad at bad good
  refine Ev.step (fun k => by rw [gramaryelaw14_FirstRows.l0, if_pos (by clear hw; omega), if_pos (by clear hw; omega), rdS hlt, hw]) ?_
  by_cases h0 : l[i].f0 = true
  ·rw [if_pos h0] at bad good
   refine Ev.ite_pos h0 ?_
   by_cases h1 : l[i].f1 < 1
   ·exact Ev.ite_pos h1 (bad_tail (bad (by first | (simp; omega) | (simp; intro h; omega))))
   ·refine Ev.ite_neg h1 ?_
    by_cases h2 : l[i].f1 > toks
    ·exact Ev.ite_pos h2 (bad_tail (bad (by first | (simp; omega) | (simp; intro h; omega))))
    ·exact Ev.ite_neg h2 (good (by simp; omega))
  ·rw [if_neg h0] at bad good
   refine Ev.ite_neg h0 ?_
   by_cases h1 : l[i].f1 < 0
   ·exact Ev.ite_pos h1 (bad_tail (bad (by first | (simp; omega) | (simp; intro h; omega))))
   ·refine Ev.ite_neg h1 ?_
    by_cases h2 : l[i].f1 ≥ (of.length : Int)
    ·exact Ev.ite_pos h2 (bad_tail (bad (by first | (simp; omega) | (simp; intro h; omega))))
    ·exact Ev.ite_neg h2 (good (by simp; omega))
theorem FirstRows : gramaryelaw14_FirstRows.Pure := by
 intro toks look of L l hW hs0 hs1
 refine Ev.rounds (g := fun k => gramaryelaw14_FirstRows.f k toks look of L l) ?_
 unfold gramaryelaw14_FirstRows.f
 clear hW hs0 hs1
 have f1 := gfew_ev toks look of L
 have f2 := gfew_ev toks look (of.take 8) (fewL L)
 rw [fewL_few, List.take_take, Nat.min_self] at f2
 have hl : ∀ p ∈ fewL L, p.f1.length ≤ 1000000 := fun p hp => by have := (fewL_le L).2 p hp; omega
 have hL4 : (fewL L).length ≤ 1000000 := by have := (fewL_le L).1; omega
 have hl4 : (l.take 4).length ≤ 4 := by rw [List.length_take]; omega
 have o1 := frow_ev toks look (of.take 8) (fewL L) (l.take 4) hl hL4 (by omega)
 have o2 := rof_ev toks look (of.take 8) (fewL L) hl hL4
 obtain ⟨g1, g2⟩ := ofA_good toks look (of.take 8) (fewL L) hl hL4
 have gz := ofA_zero (toks := toks) (look := look) (of := of.take 8) hl hL4
 obtain ⟨hm, he⟩ := take_mn l 4
 refine Ev.bind f1 (Ev.bind0 rfl (Ev.ite_pos hm.1 (Ev.ite_pos hm.2 (Ev.bind0 (congrArg some he) (Ev.ite_pos (by simp; omega) (Ev.bind0 rfl (Ev.bind f2 (Ev.bind0 rfl (Ev.ite_pos (by simp; omega) (Ev.bind o1 (Ev.bind o2 ?_)))))))))))
 unfold rowR
 generalize ofA toks look (of.take 8).length (fewL L) = X at g1 g2 gz ⊢
 by_cases h0 : X.2 = 0
 ·obtain ⟨hlook, hlen⟩ := gz h0
  rw [if_pos h0]
  refine Ev.ite_pos h0 (rows_l0 toks look hlook (of.take 8) (fewL L) (l.take 4) (by omega) X.1 g1 hlen _ _ ?_ ?_ (l.take 4).length 0 (by omega) rfl)
  ·intro hb; rw [if_pos hb]; exact ⟨rfl, rfl⟩
  ·intro hb
   rw [if_neg (by rw [hb]; simp)]
   exact ⟨fun h => by rw [if_pos h]; exact ⟨rfl, rfl⟩, fun h => by rw [if_neg h]; exact ⟨rfl, rfl⟩⟩
 ·rw [if_neg h0]
  exact Ev.ite_neg h0 (Ev.ite_pos rfl (Ev.ite_pos rfl works_tail))
end Go.Proofs.Ytpegkfococfkpaa.Pure
