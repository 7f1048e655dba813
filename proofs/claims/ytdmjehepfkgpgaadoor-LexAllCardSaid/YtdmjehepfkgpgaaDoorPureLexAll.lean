/- For every text the tokens, the place and the error are as the reference's; the text is cut to 2000 bytes, or to 65537 if it is longer than 65536, as the statement has it. No other condition. -/
import Derived.Test.YtdmjehepfkgpgaaDoorHLexAllx
import Derived.Test.YtdmjehepfkgpgaaDoorVPure
import Derived.Lib.IndexLaws
namespace Go.Proofs.YtdmjehepfkgpgaaDoor.Pure
open Go.RowKit Go.Plus Go.Proofs.YtdmjehepfkgpgaaDoor.HLexAll Go.Proofs.YtdmjehepfkgpgaaDoorW.PrintWords Go.Proofs.YtdmjehepfkgpgaaDoorW.PrintLast Go.Proofs.YtdmjehepfkgpgaaDoorW.PrintMore
set_option linter.unusedVariables false
set_option linter.unusedSimpArgs false
theorem kwLists : Plus.kwA.toList = [103, 114, 97, 109, 109, 97, 114] ∧ Plus.kwB.toList = [108, 111, 111, 107] ∧ Plus.kwC.toList = [115, 121, 110, 99] ∧ Plus.kwD.toList = [116, 111, 107, 101, 110] := by
  refine ⟨?_, ?_, ?_, ?_⟩ <;> rw [Lib.toList_data] <;> rfl
theorem refKw (s : ByteArray) : gramaryeref02_Keyword.f s = some (Plus.isKw s) := by
  unfold gramaryeref02_Keyword.f Plus.isKw
  obtain ⟨h1, h2, h3, h4⟩ := kwLists
  rw [h1, h2, h3, h4]
  have bc : ∀ a b : List UInt8, (a == b) = (b == a) := fun a b => Bool.eq_iff_iff.2 (by rw [beq_iff_eq, beq_iff_eq]; exact eq_comm)
  by_cases a : s.toList = [103, 114, 97, 109, 109, 97, 114]
  · rw [if_pos a, a]; rfl
  · rw [if_neg a, bc _ s.toList, beq_eq_false_iff_ne.2 a]
    by_cases b : s.toList = [108, 111, 111, 107]
    · rw [if_pos b, b]; rfl
    · rw [if_neg b, bc _ s.toList, beq_eq_false_iff_ne.2 b]
      by_cases c : s.toList = [115, 121, 110, 99]
      · rw [if_pos c, c]; rfl
      · rw [if_neg c, bc _ s.toList, beq_eq_false_iff_ne.2 c, bc _ s.toList]; rfl
theorem dig_l0 (s : ByteArray) (hs : s.size ≤ 65537) : ∀ (d i : Nat) (acc : Int), i + d = s.size →
    ∃ v e w b, (e = 0 ∨ e = 5) ∧ Ev (fun k => digit_Parse.l0 k s acc (s.size : Int) i) (v, e) ∧ Ev (fun k => gramaryebase_Whole.l0 k s acc i) (w, b) ∧
      (if b = true then (if w > 2147483647 then (some (0, 5)) else (some (w, 0))) else (some (0, 5))) = some ((v, e) : Int × Int) := by
  intro d
  induction d with
  | zero =>
    intro i acc hi
    obtain rfl : i = s.size := by omega
    have hn : ¬ (s.size : Int) < (s.size : Int) := by omega
    by_cases h : acc > 2147483647
    · exact ⟨0, 5, acc, true, .inr rfl, Ev.step (fun k => by rw [digit_Parse.l0, if_neg hn, if_pos h]) (Ev.now _), Ev.step (fun k => by rw [gramaryebase_Whole.l0, if_neg hn]) (Ev.now _), by rw [if_pos rfl, if_pos h]⟩
    · exact ⟨acc, 0, acc, true, .inl rfl, Ev.step (fun k => by rw [digit_Parse.l0, if_neg hn, if_neg h]) (Ev.now _), Ev.step (fun k => by rw [gramaryebase_Whole.l0, if_neg hn]) (Ev.now _), by rw [if_pos rfl, if_neg h]⟩
  | succ d ih =>
    intro i acc hi
    have hlt : (i : Int) < (s.size : Int) := by omega
    have h0 : 0 ≤ (i : Int) := by omega
    have hw : wrap64 ((i : Int) + 1) = ((i + 1 : Nat) : Int) := by rw [wrap_id (by omega)]; rfl
    by_cases h1 : bt s i < 48
    · exact ⟨0, 5, 0, false, .inr rfl, Ev.step (fun k => by rw [digit_Parse.l0, if_pos hlt, if_pos h0, if_pos hlt, if_pos h1]) (Ev.now _), Ev.step (fun k => by rw [gramaryebase_Whole.l0, if_pos hlt, if_pos h0, if_pos h1]) (Ev.now _), rfl⟩
    by_cases h2 : bt s i > 57
    · exact ⟨0, 5, 0, false, .inr rfl, Ev.step (fun k => by rw [digit_Parse.l0, if_pos hlt, if_pos h0, if_pos hlt, if_neg h1, if_pos h2]) (Ev.now _), Ev.step (fun k => by rw [gramaryebase_Whole.l0, if_pos hlt, if_pos h0, if_neg h1, if_pos h2]) (Ev.now _), rfl⟩
    obtain ⟨v, e, w, b, he, e1, e2, e3⟩ := ih (i + 1) (wrap64 (wrap64 (acc * 10) + ((bt s i - 48) % 256))) (by omega)
    refine ⟨v, e, w, b, he, Ev.step (fun k => by rw [digit_Parse.l0, if_pos hlt, if_pos h0, if_pos hlt, if_neg h1, if_neg h2, hw]) e1, Ev.step (fun k => by rw [gramaryebase_Whole.l0, if_pos hlt, if_pos h0, if_neg h1, if_neg h2, hw, Int.mul_comm 10 acc]) e2, e3⟩
/-- The reader of numbers and the reference's agree. -/
theorem parse_same (s : ByteArray) (hs : s.size ≤ 65537) : ∃ v e : Int, (e = 0 ∨ e = 5) ∧ Ev (fun k => digit_Parse.f k s) (v, e) ∧ Ev (fun k => gramaryeref03_Parse.f k s) (v, e) := by
  have fin : ∀ (w : Int) (b : Bool) (v e : Int), (if b = true then (if w > 2147483647 then (some (0, 5)) else (some (w, 0))) else (some (0, 5))) = some ((v, e) : Int × Int) → Ev (fun k => gramaryebase_Whole.f k s 10) (w, b) → Ev (fun k => gramaryeref03_Parse.f k s) (v, e) := by
    intro w b v e h1 h2
    unfold gramaryeref03_Parse.f
    exact Ev.bind h2 (Ev.const h1)
  have bad : Ev (fun k => digit_Parse.j0 k s true) (0, 5) := Ev.step (fun k => by rw [digit_Parse.j0, if_pos rfl]) (Ev.now _)
  have badW : Ev (fun k => gramaryebase_Whole.j0 k s true) (0, false) := Ev.step (fun k => by rw [gramaryebase_Whole.j0, if_pos rfl]) (Ev.now _)
  have nil : s.toList = ([] : List UInt8) ↔ s.size = 0 := by rw [Lib.toList_data, ← size_list, List.length_eq_zero_iff]
  by_cases h0 : s.size = 0
  · refine ⟨0, 5, .inr rfl, Ev.congr (fun k => by rw [digit_Parse.f, if_pos (by omega)]) bad, fin 0 false 0 5 rfl (Ev.congr (fun k => by rw [gramaryebase_Whole.f, if_pos (nil.2 h0)]) badW)⟩
  have n0 : ¬ (s.size : Int) = 0 := by omega
  have n0' : ¬ s.toList = ([] : List UInt8) := fun h => h0 (nil.1 h)
  by_cases h1 : (s.size : Int) > 10
  · refine ⟨0, 5, .inr rfl, Ev.congr (fun k => by rw [digit_Parse.f, if_neg n0, if_pos h1]) bad, fin 0 false 0 5 rfl (Ev.congr (fun k => by rw [gramaryebase_Whole.f, if_neg n0', if_pos h1]) badW)⟩
  have good : ∃ v e : Int, (e = 0 ∨ e = 5) ∧ Ev (fun k => digit_Parse.j0 k s false) (v, e) ∧ ∃ w b, Ev (fun k => gramaryebase_Whole.j0 k s false) (w, b) ∧ (if b = true then (if w > 2147483647 then (some (0, 5)) else (some (w, 0))) else (some (0, 5))) = some ((v, e) : Int × Int) := by
    obtain ⟨v, e, w, b, he, e1, e2, e3⟩ := dig_l0 s hs s.size 0 0 (by omega)
    exact ⟨v, e, he, Ev.step (fun k => by rw [digit_Parse.j0, if_neg (by decide)]; rfl) e1, w, b, Ev.step (fun k => by rw [gramaryebase_Whole.j0, if_neg (by decide)]; rfl) e2, e3⟩
  obtain ⟨v, e, he, e1, w, b, e2, e3⟩ := good
  by_cases h2 : (s.size : Int) > 1
  · have hp : 0 < (s.size : Int) := by omega
    cases h3 : (bt s 0 == 48)
    · exact ⟨v, e, he, Ev.congr (fun k => by rw [digit_Parse.f, if_neg n0, if_neg h1, if_pos h2, if_pos hp, h3]) e1, fin w b v e e3 (Ev.congr (fun k => by rw [gramaryebase_Whole.f, if_neg n0', if_neg h1, if_pos h2, if_pos hp, h3]) e2)⟩
    · exact ⟨0, 5, .inr rfl, Ev.congr (fun k => by rw [digit_Parse.f, if_neg n0, if_neg h1, if_pos h2, if_pos hp, h3]) bad, fin 0 false 0 5 rfl (Ev.congr (fun k => by rw [gramaryebase_Whole.f, if_neg n0', if_neg h1, if_pos h2, if_pos hp, h3]) badW)⟩
  · exact ⟨v, e, he, Ev.congr (fun k => by rw [digit_Parse.f, if_neg n0, if_neg h1, if_neg h2]) e1, fin w b v e e3 (Ev.congr (fun k => by rw [gramaryebase_Whole.f, if_neg n0', if_neg h1, if_neg h2]) e2)⟩
def inW (c : Int) : Bool := lex_scanner_piece.small c || lex_scanner_piece.num c || c == 95
def inC (c : Int) : Bool := lex_scanner_piece.great c || lex_scanner_piece.num c || c == 95
/-- Where a run of such bytes ends. -/
def runN (p : Int → Bool) (s : ByteArray) : Nat → Nat → Nat
  | 0, j => j
  | d + 1, j => if p (bt s j) = true then runN p s d (j + 1) else j
theorem runN_bds (p : Int → Bool) (s : ByteArray) : ∀ d j, j ≤ runN p s d j ∧ runN p s d j ≤ j + d
  | 0, j => ⟨Nat.le_refl _, Nat.le_refl _⟩
  | d + 1, j => by
    unfold runN
    split
    · have := runN_bds p s d (j + 1); omega
    · omega
def flagB (m : Int) (c : Int) : Bool := if m = 1 then inW c else lex_scanner_piece.num c
def stopB (m : Int) (c : Int) : Bool := if m = 2 then inC c else flagB m c
theorem span_j2 (s : ByteArray) (i m x7 c : Int) (k : Nat) : gramaryeref04_span.j2 (k + 1) s i m x7 c (lex_scanner_piece.num c) (flagB m c) = if stopB m c = true then gramaryeref04_span.l0 k s i m (wrap64 (x7 + 1)) else some x7 := by
  rw [gramaryeref04_span.j2]
  unfold stopB
  by_cases hm : m = 2
  · rw [if_pos hm, if_pos hm]
    unfold inC lex_scanner_piece.great
    cases lex_scanner_piece.num c
    · rw [if_neg (by decide)]
      by_cases h5 : c = 95
      · subst h5; rw [if_pos rfl, if_pos (by decide)]
      · rw [if_neg h5, beq_eq_false_iff_ne.2 h5]
        by_cases h1 : c ≥ 65
        · rw [if_pos h1]
          by_cases h2 : c ≤ 90
          · rw [if_pos h2, if_pos (by simp [h1, h2])]
          · rw [if_neg h2, if_neg (by simp [h2])]
        · rw [if_neg h1, if_neg (by simp [h1])]
    · rw [if_pos rfl, if_pos (by simp)]
  · rw [if_neg hm, if_neg hm]
theorem span_j1 (s : ByteArray) (i m x7 c : Int) (k : Nat) : gramaryeref04_span.j1 (k + 1) s i m x7 c (lex_scanner_piece.num c) = gramaryeref04_span.j2 k s i m x7 c (lex_scanner_piece.num c) (flagB m c) := by
  rw [gramaryeref04_span.j1]
  unfold flagB
  by_cases hm : m = 1
  · rw [if_pos hm, if_pos hm]
    unfold inW lex_scanner_piece.small
    cases lex_scanner_piece.num c
    · rw [if_neg (by decide)]
      by_cases h5 : c = 95
      · subst h5; rw [if_pos rfl]; rfl
      · rw [if_neg h5, beq_eq_false_iff_ne.2 h5]
        by_cases h1 : c ≥ 97
        · rw [if_pos h1]; simp [h1]
        · rw [if_neg h1]; simp [h1]
    · rw [if_pos rfl]; simp
  · rw [if_neg hm, if_neg hm]
theorem span_run (s : ByteArray) (hs : s.size ≤ 65537) (m : Int) (i : Nat) : ∀ (d j : Nat), i ≤ j → j + d = s.size → Ev (fun k => gramaryeref04_span.l0 k s i m ((j : Int) - i)) ((runN (stopB m) s d j : Int) - i) := by
  intro d
  induction d with
  | zero =>
    intro j hij hj
    have hw : wrap64 ((i : Int) + ((j : Int) - i)) = j := by rw [wrap_id (by omega)]; omega
    exact Ev.step (fun k => by rw [gramaryeref04_span.l0, hw, if_neg (by omega)]) (Ev.now ((j : Int) - i))
  | succ d ih =>
    intro j hij hj
    have hw : wrap64 ((i : Int) + ((j : Int) - i)) = j := by rw [wrap_id (by omega)]; omega
    have hw2 : wrap64 ((j : Int) - i + 1) = ((j + 1 : Nat) : Int) - i := by rw [wrap_id (by omega)]; omega
    have h1 : (j : Int) < (s.size : Int) := by omega
    have h2 : 0 ≤ (j : Int) := by omega
    have hn : ∀ k, (if bt s j ≥ 48 then gramaryeref04_span.j1 k s i m ((j : Int) - i) (bt s j) (decide (bt s j ≤ 57)) else gramaryeref04_span.j1 k s i m ((j : Int) - i) (bt s j) false) = gramaryeref04_span.j1 k s i m ((j : Int) - i) (bt s j) (lex_scanner_piece.num (bt s j)) := fun k => by
      unfold lex_scanner_piece.num
      by_cases h : bt s j ≥ 48
      · rw [if_pos h]; simp [h]
      · rw [if_neg h]; simp [h]
    refine Ev.step (fun k => by rw [gramaryeref04_span.l0, hw, if_pos h1, if_pos h2, hn]) ?_
    refine Ev.step (fun k => span_j1 s i m _ _ k) ?_
    refine Ev.step (fun k => span_j2 s i m _ _ k) ?_
    rw [hw2]
    cases hp : stopB m (bt s j)
    · simp only [runN, hp]
      exact Ev.now _
    · simp only [runN, hp, if_true]
      exact ih (j + 1) (by omega) (by omega)
theorem span_ev (s : ByteArray) (hs : s.size ≤ 65537) (m : Int) (i d : Nat) (h : i + d = s.size) : Ev (fun k => gramaryeref04_span.f k s i m) ((runN (stopB m) s d i : Int) - i) := by
  have := span_run s hs m i d i (Nat.le_refl _) h
  rw [Int.sub_self] at this
  exact this
theorem stop1 : stopB 1 = inW := by funext c; unfold stopB flagB; rfl
theorem stop2 : stopB 2 = inC := by funext c; unfold stopB; rfl
theorem stop3 : stopB 3 = lex_scanner_piece.num := by funext c; unfold stopB flagB; rfl
theorem word_l2 (s : ByteArray) (fr : Nat) (err : Int) (r : lex_scanner_piece.R) : ∀ (d at_ : Nat), at_ + 1 + d = s.size → lex_scanner_named.f s (runN inW s d (at_ + 1) : Int) fr 2 ⟨#[]⟩ 0 fr err = some r → Ev (fun k => lex_scanner_piece.l2 k s at_ fr err) r := by
  intro d
  induction d with
  | zero =>
    intro at_ h hr
    exact Ev.step (fun k => by rw [lex_scanner_piece.l2, if_neg (by omega)]; rfl) (Ev.const hr)
  | succ d ih =>
    intro at_ h hr
    cases hp : inW (bt s ((at_ : Int) + 1))
    · have hp' : (lex_scanner_piece.small (bt s ((at_ : Int) + 1)) || lex_scanner_piece.num (bt s ((at_ : Int) + 1)) || bt s ((at_ : Int) + 1) == 95) = false := hp
      refine Ev.step (fun k => by rw [lex_scanner_piece.l2, if_pos (by omega), hp', if_neg (by decide)]) (Ev.const ?_)
      have e : runN inW s (d + 1) (at_ + 1) = at_ + 1 := by unfold runN; rw [if_neg (by rw [show ((at_ + 1 : Nat) : Int) = (at_ : Int) + 1 from rfl, hp]; decide)]
      rw [e] at hr
      exact hr
    · have hp' : (lex_scanner_piece.small (bt s ((at_ : Int) + 1)) || lex_scanner_piece.num (bt s ((at_ : Int) + 1)) || bt s ((at_ : Int) + 1) == 95) = true := hp
      refine Ev.step (fun k => by rw [lex_scanner_piece.l2, if_pos (by omega), hp', if_pos rfl]) (ih (at_ + 1) (by omega) ?_)
      have e : runN inW s (d + 1) (at_ + 1) = runN inW s d (at_ + 1 + 1) := by rw [runN, if_pos (show inW (bt s ((at_ + 1 : Nat) : Int)) = true from hp)]
      rw [e] at hr
      exact hr
theorem caps_l3 (s : ByteArray) (fr : Nat) (err : Int) (r : lex_scanner_piece.R) : ∀ (d at_ : Nat), at_ + 1 + d = s.size → lex_scanner_named.f s (runN inC s d (at_ + 1) : Int) fr 3 ⟨#[]⟩ 0 fr err = some r → Ev (fun k => lex_scanner_piece.l3 k s at_ fr err) r := by
  intro d
  induction d with
  | zero =>
    intro at_ h hr
    exact Ev.step (fun k => by rw [lex_scanner_piece.l3, if_neg (by omega)]; rfl) (Ev.const hr)
  | succ d ih =>
    intro at_ h hr
    cases hp : inC (bt s ((at_ : Int) + 1))
    · have hp' : (lex_scanner_piece.great (bt s ((at_ : Int) + 1)) || lex_scanner_piece.num (bt s ((at_ : Int) + 1)) || bt s ((at_ : Int) + 1) == 95) = false := hp
      refine Ev.step (fun k => by rw [lex_scanner_piece.l3, if_pos (by omega), hp', if_neg (by decide)]) (Ev.const ?_)
      have e : runN inC s (d + 1) (at_ + 1) = at_ + 1 := by unfold runN; rw [if_neg (by rw [show ((at_ + 1 : Nat) : Int) = (at_ : Int) + 1 from rfl, hp]; decide)]
      rw [e] at hr
      exact hr
    · have hp' : (lex_scanner_piece.great (bt s ((at_ : Int) + 1)) || lex_scanner_piece.num (bt s ((at_ : Int) + 1)) || bt s ((at_ : Int) + 1) == 95) = true := hp
      refine Ev.step (fun k => by rw [lex_scanner_piece.l3, if_pos (by omega), hp', if_pos rfl]) (ih (at_ + 1) (by omega) ?_)
      have e : runN inC s (d + 1) (at_ + 1) = runN inC s d (at_ + 1 + 1) := by rw [runN, if_pos (show inC (bt s ((at_ + 1 : Nat) : Int)) = true from hp)]
      rw [e] at hr
      exact hr
theorem nums_l4 (s : ByteArray) (fr : Nat) (err v e : Int) : ∀ (d at_ : Nat), at_ + 1 + d = s.size → Ev (fun k => digit_Parse.f k (s.extract fr (runN lex_scanner_piece.num s d (at_ + 1)))) (v, e) → Ev (fun k => lex_scanner_piece.l4 k s at_ fr err) (e == 0, s, (runN lex_scanner_piece.num s d (at_ + 1) : Int), (fr : Int), 4, ⟨#[]⟩, v, (fr : Int), e) := by
  intro d
  induction d with
  | zero =>
    intro at_ h hr
    have hr' : Ev (fun k => digit_Parse.f k (s.extract fr (at_ + 1))) (v, e) := hr
    exact Ev.step (fun k => by rw [lex_scanner_piece.l4, if_neg (by omega)]) (Ev.bind hr' (Ev.now _))
  | succ d ih =>
    intro at_ h hr
    cases hp : lex_scanner_piece.num (bt s ((at_ : Int) + 1))
    · have e : runN lex_scanner_piece.num s (d + 1) (at_ + 1) = at_ + 1 := by unfold runN; rw [if_neg (by rw [show ((at_ + 1 : Nat) : Int) = (at_ : Int) + 1 from rfl, hp]; decide)]
      rw [e] at hr ⊢
      exact Ev.step (fun k => by rw [lex_scanner_piece.l4, if_pos (by omega), hp, if_neg (by decide)]) (Ev.bind hr (Ev.now _))
    · have e : runN lex_scanner_piece.num s (d + 1) (at_ + 1) = runN lex_scanner_piece.num s d (at_ + 1 + 1) := by rw [runN, if_pos (show lex_scanner_piece.num (bt s ((at_ + 1 : Nat) : Int)) = true from hp)]
      rw [e] at hr ⊢
      exact Ev.step (fun k => by rw [lex_scanner_piece.l4, if_pos (by omega), hp, if_pos rfl]) (ih (at_ + 1) (by omega) hr)
theorem all_flag (s : ByteArray) (toks : List S32) (i : Nat) (k : Nat) (h : i < s.size) : gramaryeref04_All.l0 (k + 1) s toks i = gramaryeref04_All.j1 k s toks i (bt s i) (lex_scanner_piece.blank (bt s i)) := by
  rw [gramaryeref04_All.l0, if_pos (by omega), if_pos (by omega)]
  unfold lex_scanner_piece.blank
  by_cases h1 : bt s i = 32
  · rw [if_pos h1, h1]; rfl
  · rw [if_neg h1, beq_eq_false_iff_ne.2 h1]
    by_cases h2 : bt s i = 9
    · rw [if_pos h2, h2]; rfl
    · rw [if_neg h2, beq_eq_false_iff_ne.2 h2]
      by_cases h3 : bt s i = 10
      · rw [if_pos h3, h3]; rfl
      · rw [if_neg h3, beq_eq_false_iff_ne.2 h3]; rfl
theorem cmt (s : ByteArray) (hs : s.size ≤ 65537) : ∀ (d i : Nat), i + d = s.size → ∃ j, i ≤ j ∧ j ≤ s.size ∧ (j < s.size → bt s j = 10) ∧
    (∀ fr K S N pos err r, Ev (fun k => lex_scanner_piece.l0 k s j fr K S N pos err) r → Ev (fun k => lex_scanner_piece.l1 k s i fr K S N pos err) r) ∧
    (∀ toks R, Ev (fun k => gramaryeref04_All.l0 k s toks j) R → Ev (fun k => gramaryeref04_All.l1 k s toks i) R) := by
  intro d
  induction d with
  | zero =>
    intro i hi
    exact ⟨i, Nat.le_refl _, by omega, fun h => by omega, fun _ _ _ _ _ _ _ h => Ev.step (fun k => by rw [lex_scanner_piece.l1, if_neg (by omega)]) h, fun _ _ h => Ev.step (fun k => by rw [gramaryeref04_All.l1, if_neg (by omega)]) h⟩
  | succ d ih =>
    intro i hi
    by_cases hc : bt s i = 10
    · exact ⟨i, Nat.le_refl _, by omega, fun _ => hc, fun _ _ _ _ _ _ _ h => Ev.step (fun k => by rw [lex_scanner_piece.l1, if_pos (by omega), if_pos hc]) h, fun _ _ h => Ev.step (fun k => by rw [gramaryeref04_All.l1, if_pos (by omega), if_pos (by omega), if_pos hc]) h⟩
    · obtain ⟨j, h1, h2, h3, h4, h5⟩ := ih (i + 1) (by omega)
      have hw : wrap64 ((i : Int) + 1) = ((i + 1 : Nat) : Int) := by rw [wrap_id (by omega)]; rfl
      exact ⟨j, by omega, h2, h3, fun _ _ _ _ _ _ _ h => Ev.step (fun k => by rw [lex_scanner_piece.l1, if_pos (by omega), if_neg hc]) (h4 _ _ _ _ _ _ _ h), fun _ _ h => Ev.step (fun k => by rw [gramaryeref04_All.l1, if_pos (by omega), if_pos (by omega), if_neg hc, hw]) (h5 _ _ h)⟩
theorem skip (s : ByteArray) (hs : s.size ≤ 65537) : ∀ (d i : Nat), i + d = s.size → ∃ j, i ≤ j ∧ j ≤ s.size ∧ (j < s.size → lex_scanner_piece.blank (bt s j) = false ∧ bt s j ≠ 35) ∧
    (∀ fr K S N pos err r, Ev (fun k => lex_scanner_piece.l0 k s j fr K S N pos err) r → Ev (fun k => lex_scanner_piece.l0 k s i fr K S N pos err) r) ∧
    (∀ toks R, Ev (fun k => gramaryeref04_All.l0 k s toks j) R → Ev (fun k => gramaryeref04_All.l0 k s toks i) R) := by
  intro d
  induction d using Nat.strongRecOn with
  | _ d ih =>
    intro i hi
    by_cases hd : d = 0
    · exact ⟨i, Nat.le_refl _, by omega, fun h => by omega, fun _ _ _ _ _ _ _ h => h, fun _ _ h => h⟩
    cases hb : lex_scanner_piece.blank (bt s i)
    · by_cases hc : bt s i = 35
      · obtain ⟨j, h1, h2, h3, h4, h5⟩ := cmt s hs d i hi
        have hj : j ≠ i := fun e => by
          subst e
          have := h3 (by omega)
          omega
        obtain ⟨j', g1, g2, g3, g4, g5⟩ := ih (s.size - j) (by omega) j (by omega)
        refine ⟨j', by omega, g2, g3, fun _ _ _ _ _ _ _ h => Ev.step (fun k => by rw [lex_scanner_piece.l0, if_pos (by omega), hb, if_neg (by decide), if_pos hc]) (h4 _ _ _ _ _ _ _ (g4 _ _ _ _ _ _ _ h)), fun _ _ h => Ev.step (fun k => all_flag s _ i k (by omega)) (Ev.step (fun k => by rw [hb, gramaryeref04_All.j1, if_neg (by decide), if_pos hc]) (h5 _ _ (g5 _ _ h)))⟩
      · exact ⟨i, Nat.le_refl _, by omega, fun _ => ⟨hb, hc⟩, fun _ _ _ _ _ _ _ h => h, fun _ _ h => h⟩
    · obtain ⟨j, h1, h2, h3, h4, h5⟩ := ih (d - 1) (by omega) (i + 1) (by omega)
      have hw : wrap64 ((i : Int) + 1) = ((i + 1 : Nat) : Int) := by rw [wrap_id (by omega)]; rfl
      exact ⟨j, by omega, h2, h3, fun _ _ _ _ _ _ _ h => Ev.step (fun k => by rw [lex_scanner_piece.l0, if_pos (by omega), hb, if_pos rfl]) (h4 _ _ _ _ _ _ _ h), fun _ _ h => Ev.step (fun k => all_flag s _ i k (by omega)) (Ev.step (fun k => by rw [hb, gramaryeref04_All.j1, if_pos rfl, hw]) (h5 _ _ h))⟩
theorem bt_extract (s : ByteArray) (i e : Nat) (h : i < e) (he : e ≤ s.size) : bt (s.extract i e) 0 = bt s i := by
  have h1 : 0 < (s.extract i e).size := by rw [extract_size' he (by omega)]; omega
  have h2 := bt_get h1
  have h3 := bt_get (s := s) (i := i) (by omega)
  rw [h3]
  refine h2.trans ?_
  simp [extract_list]
theorem kw_cases (t : ByteArray) (h : Plus.isKw t = true) : t.size ≤ 20 ∧ 97 ≤ bt t 0 := by
  obtain ⟨h1, h2, h3, h4⟩ := kwLists
  unfold Plus.isKw at h
  rw [h1, h2, h3, h4] at h
  simp only [Bool.or_eq_true, beq_iff_eq] at h
  have key : ∀ l : List UInt8, l = t.toList → ∀ c : UInt8, 97 ≤ c.toNat → l.head? = some c → l.length ≤ 20 → t.size ≤ 20 ∧ 97 ≤ bt t 0 := by
    intro l hl c hc hh hn
    rw [Lib.toList_data] at hl
    have hz : t.size = l.length := by rw [hl, size_list]
    have hp : 0 < t.size := by rw [hz]; cases l with | nil => simp at hh | cons => simp
    refine ⟨by omega, ?_⟩
    have := bt_get hp
    have e : t.data.toList[0]'(by simpa using hp) = c := by
      have : t.data.toList.head? = some c := by rw [← hl]; exact hh
      rw [List.head?_eq_getElem?] at this
      exact (List.getElem?_eq_some_iff.1 this).2
    have h5 : bt t 0 = ((t.data.toList[0]'(by simpa using hp)).toNat : Int) := this
    rw [h5, e]
    omega
  rcases h with ((h | h) | h) | h
  · exact key _ h 103 (by decide) rfl (by decide)
  · exact key _ h 108 (by decide) rfl (by decide)
  · exact key _ h 115 (by decide) rfl (by decide)
  · exact key _ h 116 (by decide) rfl (by decide)
theorem named_ev (s : ByteArray) (i e : Nat) (kd : Int) (h : i ≤ e) (he : e ≤ s.size) : lex_scanner_named.f s (e : Int) (i : Int) kd ⟨#[]⟩ 0 (i : Int) 0 = if Plus.isKw (s.extract i e) = true then some (true, s, (e : Int), (i : Int), 1, s.extract i e, 0, (i : Int), 0) else if (s.extract i e).size > 20 then some (false, s, (e : Int), (i : Int), kd, s.extract i e, 0, (i : Int), 5) else some (true, s, (e : Int), (i : Int), kd, s.extract i e, 0, (i : Int), 0) := by
  unfold lex_scanner_named.f
  rw [if_pos (by omega), Int.toNat_natCast, Int.toNat_natCast]
  rfl
theorem one_flag (s : ByteArray) (i : Nat) (k : Nat) (h : i < s.size) : gramaryeref04_one.f k s i = gramaryeref04_one.j0 k s i (bt s i) (lex_scanner_piece.small (bt s i)) 0 (⟨#[]⟩ : ByteArray) 0 i := by
  unfold gramaryeref04_one.f lex_scanner_piece.small
  rw [if_pos (by omega), if_pos (by omega)]
  by_cases h1 : bt s i ≥ 97
  · rw [if_pos h1]; simp [h1]
  · rw [if_neg h1]; simp [h1]
theorem one_j0 (s : ByteArray) (i : Nat) (k : Nat) (c a b d : Int) (t : ByteArray) : gramaryeref04_one.j0 (k + 1) s i c false a t b d = gramaryeref04_one.j1 k s i c (lex_scanner_piece.great c) a t b d := by
  rw [gramaryeref04_one.j0, if_neg (by decide)]
  unfold lex_scanner_piece.great
  by_cases h1 : c ≥ 65
  · rw [if_pos h1]; simp [h1]
  · rw [if_neg h1]; simp [h1]
theorem one_j1 (s : ByteArray) (i : Nat) (k : Nat) (c a b d : Int) (t : ByteArray) : gramaryeref04_one.j1 (k + 1) s i c false a t b d = gramaryeref04_one.j2 k s i c (lex_scanner_piece.num c) a t b d := by
  rw [gramaryeref04_one.j1, if_neg (by decide)]
  unfold lex_scanner_piece.num
  by_cases h1 : c ≥ 48
  · rw [if_pos h1]; simp [h1]
  · rw [if_neg h1]; simp [h1]
theorem sign_ev (c : Int) (h : 0 ≤ c ∧ c < 256) : Ev (fun k => gramaryeref04_sign.f k c) (lex_scanner_piece.sign c) := by
  have key : ∀ c : Fin 256, gramaryeref04_sign.f 20 (c.val : Int) = some (lex_scanner_piece.sign (c.val : Int)) := by decide +kernel
  have := key ⟨c.toNat, by omega⟩
  have e : ((⟨c.toNat, by omega⟩ : Fin 256).val : Int) = c := by show ((c.toNat : Nat) : Int) = c; omega
  rw [e] at this
  exact Ev.of (gramaryeref04_sign.mono c) this
theorem lex_word (s : ByteArray) (i d : Nat) (h : i + 1 + d = s.size) (hb : lex_scanner_piece.blank (bt s i) = false) (h35 : bt s i ≠ 35) (hs : lex_scanner_piece.small (bt s i) = true) (r : lex_scanner_piece.R) (hr : lex_scanner_named.f s (runN inW s d (i + 1) : Int) i 2 ⟨#[]⟩ 0 i 0 = some r) (fr K : Int) (S : ByteArray) (N pos : Int) : Ev (fun k => lex_scanner_piece.l0 k s i fr K S N pos 0) r :=
  Ev.step (fun k => by rw [lex_scanner_piece.l0, if_pos (by omega), hb, if_neg (by decide), if_neg h35, hs, if_pos rfl]) (word_l2 s i 0 r d i h hr)
theorem lex_caps (s : ByteArray) (i d : Nat) (h : i + 1 + d = s.size) (hb : lex_scanner_piece.blank (bt s i) = false) (h35 : bt s i ≠ 35) (hs : lex_scanner_piece.small (bt s i) = false) (hg : lex_scanner_piece.great (bt s i) = true) (r : lex_scanner_piece.R) (hr : lex_scanner_named.f s (runN inC s d (i + 1) : Int) i 3 ⟨#[]⟩ 0 i 0 = some r) (fr K : Int) (S : ByteArray) (N pos : Int) : Ev (fun k => lex_scanner_piece.l0 k s i fr K S N pos 0) r :=
  Ev.step (fun k => by rw [lex_scanner_piece.l0, if_pos (by omega), hb, if_neg (by decide), if_neg h35, hs, if_neg (by decide), hg, if_pos rfl]) (caps_l3 s i 0 r d i h hr)
theorem lex_sign (s : ByteArray) (i : Nat) (h : i < s.size) (hb : lex_scanner_piece.blank (bt s i) = false) (h35 : bt s i ≠ 35) (hs : lex_scanner_piece.small (bt s i) = false) (hg : lex_scanner_piece.great (bt s i) = false) (hn : lex_scanner_piece.num (bt s i) = false) (fr K : Int) (S : ByteArray) (N pos : Int) : Ev (fun k => lex_scanner_piece.l0 k s i fr K S N pos 0) (if lex_scanner_piece.sign (bt s i) = true then (true, s, (i : Int) + 1, (i : Int), 5, s.extract i (i + 1), 0, (i : Int), 0) else (false, s, (i : Int), (i : Int), 0, ⟨#[]⟩, 0, (i : Int), 5)) :=
  Ev.step (fun k => by rw [lex_scanner_piece.l0, if_pos h, hb, if_neg (by decide), if_neg h35, hs, if_neg (by decide), hg, if_neg (by decide), hn, if_neg (by decide)]) (Ev.const (by split <;> rfl))
/-- What both say of the piece that begins at a place. -/
def TokAt (s : ByteArray) (i : Nat) : Prop :=
  ∃ (kind : Int) (text : ByteArray) (num : Int) (n : Nat) (ok : Bool) (ix K' : Int) (S' : ByteArray) (N' e : Int), 1 ≤ n ∧ i + n ≤ s.size ∧
    (ok = true → ix = ((i + n : Nat) : Int) ∧ K' = kind ∧ S' = text ∧ N' = num ∧ e = 0) ∧ (ok = false → e = 5) ∧
    Ev (fun k => gramaryeref04_one.f k s i) (kind, text, num, (i : Int), (n : Int), ok) ∧
    ∀ (fr K : Int) (S : ByteArray) (N pos : Int), Ev (fun k => lex_scanner_piece.l0 k s i fr K S N pos 0) (ok, s, ix, (i : Int), K', S', N', (i : Int), e)
theorem tok_word (s : ByteArray) (hz : s.size ≤ 65537) (i : Nat) (h : i < s.size) (hb : lex_scanner_piece.blank (bt s i) = false) (h35 : bt s i ≠ 35) (hs : lex_scanner_piece.small (bt s i) = true) : TokAt s i := by
  obtain ⟨d, hd⟩ : ∃ d, i + 1 + d = s.size := ⟨s.size - i - 1, by omega⟩
  obtain ⟨e, he⟩ : ∃ e, e = runN inW s d (i + 1) := ⟨_, rfl⟩
  have b := runN_bds inW s d (i + 1)
  rw [← he] at b
  have hi : inW (bt s i) = true := by unfold inW; rw [hs]; rfl
  have sp := span_ev s hz 1 i (d + 1) (by omega)
  rw [stop1, runN, if_pos hi, ← he] at sp
  have hw : wrap64 ((i : Int) + ((e : Int) - i)) = e := by rw [wrap_id (by omega)]; omega
  have hn : ((e - i : Nat) : Int) = (e : Int) - i := by omega
  have hx : (s.extract i e).size = e - i := extract_size' (by omega) (by omega)
  have nm := named_ev s i e 2 (by omega) (by omega)
  have L := fun r hr => lex_word s i d hd hb h35 hs r (by rw [← he]; exact hr)
  have R : Ev (fun k => gramaryeref04_one.f k s i) ((if Plus.isKw (s.extract i e) = true then 1 else 2), s.extract i e, 0, (i : Int), (e : Int) - i, decide ((e : Int) - i ≤ 20)) := by
    refine Ev.congr (fun k => one_flag s i k h) ?_
    rw [hs]
    refine Ev.step (fun k => by rw [gramaryeref04_one.j0, if_pos rfl]) (Ev.bind sp (Ev.const ?_))
    rw [hw, if_pos (by omega), if_pos (by omega), if_pos (by omega), Int.toNat_natCast, Int.toNat_natCast, refKw]
    cases Plus.isKw (s.extract i e) <;> rfl
  cases hk : Plus.isKw (s.extract i e)
  · rw [hk, if_neg (by decide)] at R nm
    by_cases h20 : (s.extract i e).size > 20
    · rw [if_pos h20] at nm
      rw [decide_eq_false (by omega)] at R
      exact ⟨2, s.extract i e, 0, e - i, false, e, 2, s.extract i e, 0, 5, by omega, by omega, fun h => absurd h (by decide), fun _ => rfl, by rw [hn]; exact R, L _ nm⟩
    · rw [if_neg h20] at nm
      rw [decide_eq_true (by omega)] at R
      exact ⟨2, s.extract i e, 0, e - i, true, e, 2, s.extract i e, 0, 0, by omega, by omega, fun _ => ⟨by omega, rfl, rfl, rfl, rfl⟩, fun h => absurd h (by decide), by rw [hn]; exact R, L _ nm⟩
  · rw [hk, if_pos rfl] at R nm
    have := (kw_cases _ hk).1
    rw [decide_eq_true (by omega)] at R
    exact ⟨1, s.extract i e, 0, e - i, true, e, 1, s.extract i e, 0, 0, by omega, by omega, fun _ => ⟨by omega, rfl, rfl, rfl, rfl⟩, fun h => absurd h (by decide), by rw [hn]; exact R, L _ nm⟩
theorem tok_caps (s : ByteArray) (hz : s.size ≤ 65537) (i : Nat) (h : i < s.size) (hb : lex_scanner_piece.blank (bt s i) = false) (h35 : bt s i ≠ 35) (hs : lex_scanner_piece.small (bt s i) = false) (hg : lex_scanner_piece.great (bt s i) = true) : TokAt s i := by
  obtain ⟨d, hd⟩ : ∃ d, i + 1 + d = s.size := ⟨s.size - i - 1, by omega⟩
  obtain ⟨e, he⟩ : ∃ e, e = runN inC s d (i + 1) := ⟨_, rfl⟩
  have b := runN_bds inC s d (i + 1)
  rw [← he] at b
  have hi : inC (bt s i) = true := by unfold inC; rw [hg]; rfl
  have sp := span_ev s hz 2 i (d + 1) (by omega)
  rw [stop2, runN, if_pos hi, ← he] at sp
  have hw : wrap64 ((i : Int) + ((e : Int) - i)) = e := by rw [wrap_id (by omega)]; omega
  have hn : ((e - i : Nat) : Int) = (e : Int) - i := by omega
  have hx : (s.extract i e).size = e - i := extract_size' (by omega) (by omega)
  have nm := named_ev s i e 3 (by omega) (by omega)
  have L := fun r hr => lex_caps s i d hd hb h35 hs hg r (by rw [← he]; exact hr)
  have R : Ev (fun k => gramaryeref04_one.f k s i) (3, s.extract i e, 0, (i : Int), (e : Int) - i, decide ((e : Int) - i ≤ 20)) := by
    refine Ev.congr (fun k => one_flag s i k h) ?_
    rw [hs]
    refine Ev.step (fun k => one_j0 s i k _ _ _ _ _) ?_
    rw [hg]
    refine Ev.step (fun k => by rw [gramaryeref04_one.j1, if_pos rfl]) (Ev.bind sp (Ev.const ?_))
    rw [hw, if_pos (by omega), if_pos (by omega), if_pos (by omega), Int.toNat_natCast, Int.toNat_natCast]
  have hk : Plus.isKw (s.extract i e) = false := by
    cases hk : Plus.isKw (s.extract i e)
    · rfl
    · have := (kw_cases _ hk).2
      rw [bt_extract s i e (by omega) (by omega)] at this
      unfold lex_scanner_piece.great at hg
      rw [Bool.and_eq_true, decide_eq_true_eq, decide_eq_true_eq] at hg
      omega
  rw [hk, if_neg (by decide)] at nm
  by_cases h20 : (s.extract i e).size > 20
  · rw [if_pos h20] at nm
    rw [decide_eq_false (by omega)] at R
    exact ⟨3, s.extract i e, 0, e - i, false, e, 3, s.extract i e, 0, 5, by omega, by omega, fun h => absurd h (by decide), fun _ => rfl, by rw [hn]; exact R, L _ nm⟩
  · rw [if_neg h20] at nm
    rw [decide_eq_true (by omega)] at R
    exact ⟨3, s.extract i e, 0, e - i, true, e, 3, s.extract i e, 0, 0, by omega, by omega, fun _ => ⟨by omega, rfl, rfl, rfl, rfl⟩, fun h => absurd h (by decide), by rw [hn]; exact R, L _ nm⟩
theorem tok_num (s : ByteArray) (hz : s.size ≤ 65537) (i : Nat) (h : i < s.size) (hb : lex_scanner_piece.blank (bt s i) = false) (h35 : bt s i ≠ 35) (hs : lex_scanner_piece.small (bt s i) = false) (hg : lex_scanner_piece.great (bt s i) = false) (hu : lex_scanner_piece.num (bt s i) = true) : TokAt s i := by
  obtain ⟨d, hd⟩ : ∃ d, i + 1 + d = s.size := ⟨s.size - i - 1, by omega⟩
  obtain ⟨e, he⟩ : ∃ e, e = runN lex_scanner_piece.num s d (i + 1) := ⟨_, rfl⟩
  have b := runN_bds lex_scanner_piece.num s d (i + 1)
  rw [← he] at b
  have sp := span_ev s hz 3 i (d + 1) (by omega)
  rw [stop3, runN, if_pos hu, ← he] at sp
  have hw : wrap64 ((i : Int) + ((e : Int) - i)) = e := by rw [wrap_id (by omega)]; omega
  have hn : ((e - i : Nat) : Int) = (e : Int) - i := by omega
  have hx : (s.extract i e).size = e - i := extract_size' (by omega) (by omega)
  obtain ⟨v, er, her, p1, p2⟩ := parse_same (s.extract i e) (by omega)
  have L := fun (fr K : Int) (S : ByteArray) (N pos : Int) => (Ev.step (g := fun k => lex_scanner_piece.l0 k s i fr K S N pos 0) (fun k => by rw [lex_scanner_piece.l0, if_pos h, hb, if_neg (by decide), if_neg h35, hs, if_neg (by decide), hg, if_neg (by decide), hu, if_pos rfl]) (nums_l4 s i 0 v er d i hd (by rw [← he]; exact p1)))
  rw [← he] at L
  have R : Ev (fun k => gramaryeref04_one.f k s i) (4, ⟨#[]⟩, v, (i : Int), (e : Int) - i, er == 0) := by
    refine Ev.congr (fun k => one_flag s i k h) ?_
    rw [hs]
    refine Ev.step (fun k => one_j0 s i k _ _ _ _ _) ?_
    rw [hg]
    refine Ev.step (fun k => one_j1 s i k _ _ _ _ _) ?_
    rw [hu]
    refine Ev.step (fun k => by rw [gramaryeref04_one.j2, if_pos rfl]) (Ev.bind sp (Ev.congr (f := fun k => (gramaryeref03_Parse.f k (s.extract i e)).bind fun bt122 => some (4, (⟨#[]⟩ : ByteArray), bt122.1, (i : Int), (e : Int) - i, bt122.2 == 0)) (fun k => ?_) (Ev.bind p2 (Ev.now _))))
    rw [hw, if_pos (by omega), if_pos (by omega), if_pos (by omega), Int.toNat_natCast, Int.toNat_natCast]
  rcases her with rfl | rfl
  · exact ⟨4, ⟨#[]⟩, v, e - i, true, e, 4, ⟨#[]⟩, v, 0, by omega, by omega, fun _ => ⟨by omega, rfl, rfl, rfl, rfl⟩, fun h => absurd h (by decide), by rw [hn]; exact R, L⟩
  · exact ⟨4, ⟨#[]⟩, v, e - i, false, e, 4, ⟨#[]⟩, v, 5, by omega, by omega, fun h => absurd h (by decide), fun _ => rfl, by rw [hn]; exact R, L⟩
theorem tok_sign (s : ByteArray) (hz : s.size ≤ 65537) (i : Nat) (h : i < s.size) (hb : lex_scanner_piece.blank (bt s i) = false) (h35 : bt s i ≠ 35) (hs : lex_scanner_piece.small (bt s i) = false) (hg : lex_scanner_piece.great (bt s i) = false) (hu : lex_scanner_piece.num (bt s i) = false) : TokAt s i := by
  have hw : wrap64 ((i : Int) + 1) = ((i + 1 : Nat) : Int) := by rw [wrap_id (by omega)]; rfl
  have R : Ev (fun k => gramaryeref04_one.f k s i) (5, s.extract i (i + 1), 0, (i : Int), 1, lex_scanner_piece.sign (bt s i)) := by
    refine Ev.congr (fun k => one_flag s i k h) ?_
    rw [hs]
    refine Ev.step (fun k => one_j0 s i k _ _ _ _ _) ?_
    rw [hg]
    refine Ev.step (fun k => one_j1 s i k _ _ _ _ _) ?_
    rw [hu]
    refine Ev.step (fun k => by rw [gramaryeref04_one.j2, if_neg (by decide), hw, if_pos (by omega), if_pos (by omega), if_pos (by omega), Int.toNat_natCast, Int.toNat_natCast]) (Ev.bind (sign_ev (bt s i) (bt_lt s i)) (Ev.now _))
  have L := lex_sign s i h hb h35 hs hg hu
  cases hsg : lex_scanner_piece.sign (bt s i)
  · rw [hsg] at R L
    exact ⟨5, s.extract i (i + 1), 0, 1, false, i, 0, ⟨#[]⟩, 0, 5, by omega, by omega, fun h => absurd h (by decide), fun _ => rfl, R, L⟩
  · rw [hsg] at R L
    exact ⟨5, s.extract i (i + 1), 0, 1, true, (i : Int) + 1, 5, s.extract i (i + 1), 0, 0, by omega, by omega, fun _ => ⟨rfl, rfl, rfl, rfl, rfl⟩, fun h => absurd h (by decide), R, L⟩
theorem tok (s : ByteArray) (hz : s.size ≤ 65537) (i : Nat) (h : i < s.size) (hb : lex_scanner_piece.blank (bt s i) = false) (h35 : bt s i ≠ 35) : TokAt s i := by
  cases hs : lex_scanner_piece.small (bt s i)
  · cases hg : lex_scanner_piece.great (bt s i)
    · cases hu : lex_scanner_piece.num (bt s i)
      · exact tok_sign s hz i h hb h35 hs hg hu
      · exact tok_num s hz i h hb h35 hs hg hu
    · exact tok_caps s hz i h hb h35 hs hg
  · exact tok_word s hz i h hb h35 hs
theorem scan_same (s : ByteArray) (hz : s.size ≤ 65537) : ∀ (d i : Nat) (toks : List S32) (fr K : Int) (S : ByteArray) (N pos : Int), i + d = s.size → toks.length ≤ i →
    ∃ R : (List S32) × Int × Int, R.1.length ≤ s.size ∧ Ev (fun k => lex_All.l0 k s toks s i fr K S N pos 0) R ∧ Ev (fun k => gramaryeref04_All.l0 k s toks i) R := by
  intro d
  induction d using Nat.strongRecOn with
  | _ d ih =>
    intro i toks fr K S N pos hi hl
    obtain ⟨j, h1, h2, h3, h4, h5⟩ := skip s hz d i hi
    have pf : ∀ r, Ev (fun k => lex_scanner_piece.l0 k s j fr K S N pos 0) r → Ev (fun k => lex_scanner_piece.f k s i fr K S N pos 0) r := fun r hr => by
      refine Ev.congr (fun k => ?_) (h4 fr K S N pos 0 r hr)
      rw [lex_scanner_piece.f, if_pos (by omega), Int.toNat_natCast]
    by_cases hj : j < s.size
    · obtain ⟨hb, h35⟩ := h3 hj
      obtain ⟨kind, text, num, n, ok, ix, K', S', N', e, n1, n2, hok, hno, R1, L1⟩ := tok s hz j hj hb h35
      have refd : ∀ R, Ev (fun k => (gramaryeref04_one.f k s j).bind fun bt128 => (if bt128.2.2.2.2.2 = true then (if toks.length < 3518437208883 then (gramaryeref04_All.l0 k s (toks ++ [(⟨bt128.1, bt128.2.1, bt128.2.2.1, bt128.2.2.2.1⟩ : S32)]) (wrap64 ((j : Int) + bt128.2.2.2.2.1))) else (none)) else (some (([] : List (S32)), (j : Int), 5)))) R → Ev (fun k => gramaryeref04_All.l0 k s toks i) R := fun R hR =>
        h5 _ _ (Ev.step (fun k => all_flag s _ j k hj) (Ev.step (fun k => by rw [hb, gramaryeref04_All.j1, if_neg (by decide), if_neg h35]) hR))
      cases ok
      · obtain rfl := hno rfl
        exact ⟨([], (j : Int), 5), Nat.zero_le _, Ev.step (fun k => by rw [lex_All.l0]) (Ev.bind (pf _ (L1 fr K S N pos)) (Ev.congr (f := fun _ => some (([] : List S32), (j : Int), (5 : Int))) (fun _ => rfl) (Ev.now _))), refd _ (Ev.bind R1 (Ev.congr (f := fun _ => some (([] : List S32), (j : Int), (5 : Int))) (fun _ => rfl) (Ev.now _)))⟩
      · obtain ⟨rfl, rfl, rfl, rfl, rfl⟩ := hok rfl
        have hw : wrap64 ((j : Int) + (n : Int)) = ((j + n : Nat) : Int) := by rw [wrap_id (by omega)]; omega
        obtain ⟨R, e0, e1, e2⟩ := ih (s.size - (j + n)) (by omega) (j + n) (toks ++ [(⟨K', S', N', (j : Int)⟩ : S32)]) (j : Int) K' S' N' (j : Int) (by omega) (by rw [List.length_append]; simp only [List.length_singleton]; omega)
        refine ⟨R, e0, Ev.step (fun k => by rw [lex_All.l0]) (Ev.bind (pf _ (L1 fr K S N pos)) (Ev.congr (fun k => ?_) e1)), refd _ (Ev.bind R1 (Ev.congr (fun k => ?_) e2))⟩
        · rw [if_pos rfl, if_pos (by omega)]
        · rw [if_pos rfl, if_pos (by omega), hw]
    · obtain rfl : j = s.size := by omega
      refine ⟨(toks, (s.size : Int), 0), (by show toks.length ≤ s.size; omega), Ev.step (fun k => by rw [lex_All.l0]) (Ev.bind (pf (false, s, (s.size : Int), fr, K, S, N, pos, 0) (Ev.step (fun k => by rw [lex_scanner_piece.l0, if_neg hj]) (Ev.now _))) (Ev.congr (f := fun _ => some (toks, (s.size : Int), (0 : Int))) (fun _ => rfl) (Ev.now _))), h5 _ _ (Ev.step (fun k => by rw [gramaryeref04_All.l0, if_neg (by omega)]) (Ev.now _))⟩
/-- The scanner and the reference's say the same of every text. -/
theorem all_same (s : ByteArray) (hz : s.size ≤ 65537) : ∃ R, R.1.length ≤ s.size ∧ Ev (fun k => lex_All.f k s) R ∧ Ev (fun k => gramaryeref04_All.f k s) R := by
  by_cases h : (s.size : Int) > 65536
  · exact ⟨([], 0, 7), Nat.zero_le _, Ev.congr (f := fun _ => some (([] : List S32), (0 : Int), (7 : Int))) (fun k => by unfold lex_All.f; rw [if_pos h]) (Ev.now _), Ev.congr (f := fun _ => some (([] : List S32), (0 : Int), (7 : Int))) (fun k => by unfold gramaryeref04_All.f; rw [if_pos h]) (Ev.now _)⟩
  · obtain ⟨R, e0, e1, e2⟩ := scan_same s hz s.size 0 [] 0 0 ⟨#[]⟩ 0 0 (by omega) (Nat.le_refl _)
    exact ⟨R, e0, Ev.congr (fun k => by unfold lex_All.f; rw [if_neg h]; rfl) e1, Ev.congr (fun k => by unfold gramaryeref04_All.f; rw [if_neg h]; rfl) e2⟩
theorem same_self (l : List S32) (hl : l.length ≤ 65537) : Ev (fun k => gramaryelaw04_Same.f k l l) 1 := by
  have key : ∀ (d i : Nat), i + d = l.length → Ev (fun k => gramaryelaw04_Same.l0 k l l i) 1 := by
    intro d
    induction d with
    | zero => intro i hi; exact Ev.step (fun k => by rw [gramaryelaw04_Same.l0, if_neg (by omega)]) (Ev.now _)
    | succ d ih =>
      intro i hi
      have hw : wrap64 ((i : Int) + 1) = ((i + 1 : Nat) : Int) := by rw [wrap_id (by omega)]; rfl
      exact Ev.step (fun k => by rw [gramaryelaw04_Same.l0, if_pos (by omega), if_pos (by omega), if_pos (by omega), if_neg (by simp), hw]) (ih (i + 1) (by omega))
  refine Ev.congr (fun k => ?_) (key l.length 0 (by omega))
  unfold gramaryelaw04_Same.f
  rw [if_pos rfl]; rfl
theorem short_le (a : ByteArray) : ∃ t, gramaryelaw04_short.f a = some t ∧ t.size ≤ 65537 := by
  unfold gramaryelaw04_short.f
  by_cases h : (a.size : Int) > 65536
  · rw [if_pos h, if_pos (by omega), if_pos (by omega)]
    exact ⟨_, rfl, by rw [ByteArray.size_extract]; omega⟩
  · have hm : 0 ≤ mn (a.size : Int) 2000 ∧ mn (a.size : Int) 2000 ≤ a.size ∧ mn (a.size : Int) 2000 ≤ 2000 := by unfold mn; split <;> omega
    rw [if_neg h, if_pos hm.1, if_pos hm.2.1]
    exact ⟨_, rfl, by rw [ByteArray.size_extract]; omega⟩
def wt : ByteArray := ⟨#[97, 58, 32, 66, 63]⟩
theorem all_step (s : ByteArray) (hz : s.size ≤ 65537) (i : Nat) (hi : i ≤ s.size) (toks : List S32) (hl : toks.length < 3518437208883) (fr K : Int) (S : ByteArray) (N pos : Int) (i' f' K' : Int) (S' : ByteArray) (N' p' : Int) (R : (List S32) × Int × Int)
    (hp : Ev (fun k => lex_scanner_piece.l0 k s i fr K S N pos 0) (true, s, i', f', K', S', N', p', 0)) (h : Ev (fun k => lex_All.l0 k s (toks ++ [(⟨K', S', N', p'⟩ : S32)]) s i' f' K' S' N' p' 0) R) : Ev (fun k => lex_All.l0 k s toks s i fr K S N pos 0) R := by
  have pf : Ev (fun k => lex_scanner_piece.f k s i fr K S N pos 0) (true, s, i', f', K', S', N', p', 0) := by
    refine Ev.congr (fun k => ?_) hp
    rw [lex_scanner_piece.f, if_pos (by omega), Int.toNat_natCast]
  refine Ev.step (fun k => by rw [lex_All.l0]) (Ev.bind pf (Ev.congr (fun k => ?_) h))
  rw [if_pos rfl, if_pos hl]
theorem all_end (s : ByteArray) (hz : s.size ≤ 65537) (toks : List S32) (fr K : Int) (S : ByteArray) (N pos : Int) : Ev (fun k => lex_All.l0 k s toks s (s.size : Int) fr K S N pos 0) (toks, (s.size : Int), 0) := by
  have pf : Ev (fun k => lex_scanner_piece.f k s (s.size : Int) fr K S N pos 0) (false, s, (s.size : Int), fr, K, S, N, pos, 0) := by
    refine Ev.congr (fun k => ?_) (Ev.step (g := fun k => lex_scanner_piece.l0 k s s.size fr K S N pos 0) (fun k => by rw [lex_scanner_piece.l0, if_neg (by omega)]) (Ev.now _))
    rw [lex_scanner_piece.f, if_pos (by omega), Int.toNat_natCast]
  exact Ev.step (fun k => by rw [lex_All.l0]) (Ev.bind pf (Ev.congr (f := fun _ => some (toks, (s.size : Int), (0 : Int))) (fun _ => rfl) (Ev.now _)))
theorem works_lex : Ev (fun k => lex_All.f k wt) ([(⟨2, wt.extract 0 1, 0, 0⟩ : S32), ⟨5, wt.extract 1 2, 0, 1⟩, ⟨3, wt.extract 3 4, 0, 3⟩, ⟨5, wt.extract 4 5, 0, 4⟩], 5, 0) := by
  have z : wt.size = 5 := rfl
  have kw : ∀ a b : Nat, a ≤ b → b ≤ 5 → b - a ≤ 1 → Plus.isKw (wt.extract a b) = false := by
    intro a b h1 h2 h3
    cases hk : Plus.isKw (wt.extract a b)
    · rfl
    · obtain ⟨h1, h2, h3, h4⟩ := kwLists
      unfold Plus.isKw at hk
      rw [h1, h2, h3, h4] at hk
      simp only [Bool.or_eq_true, beq_iff_eq] at hk
      have hx : (wt.extract a b).toList.length ≤ 1 := by rw [Lib.toList_data, size_list, ByteArray.size_extract]; omega
      rcases hk with ((h | h) | h) | h <;> rw [← h] at hx <;> exact absurd hx (by decide)
  have p0 : Ev (fun k => lex_scanner_piece.l0 k wt 0 0 0 ⟨#[]⟩ 0 0 0) (true, wt, (1 : Nat), (0 : Nat), 2, wt.extract 0 1, 0, (0 : Nat), 0) := by
    refine lex_word wt 0 4 rfl (by decide) (by decide) (by decide) _ ?_ _ _ _ _ _
    have e : runN inW wt 4 1 = 1 := by decide
    rw [e, named_ev wt 0 1 2 (by decide) (by decide), kw 0 1 (by decide) (by decide) (by decide), if_neg (by decide), if_neg (by rw [ByteArray.size_extract]; decide)]
  have p1 := fun fr K S N pos => lex_sign wt 1 (by decide) (by decide) (by decide) (by decide) (by decide) (by decide) fr K S N pos
  rw [if_pos (by decide +kernel)] at p1
  have p3 : ∀ fr K S N pos, Ev (fun k => lex_scanner_piece.l0 k wt 3 fr K S N pos 0) (true, wt, (4 : Nat), (3 : Nat), 3, wt.extract 3 4, 0, (3 : Nat), 0) := by
    intro fr K S N pos
    refine lex_caps wt 3 1 rfl (by decide) (by decide) (by decide) (by decide) _ ?_ _ _ _ _ _
    have e : runN inC wt 1 4 = 4 := by decide
    rw [e, named_ev wt 3 4 3 (by decide) (by decide), kw 3 4 (by decide) (by decide) (by decide), if_neg (by decide), if_neg (by rw [ByteArray.size_extract]; decide)]
  have p2 : ∀ fr K S N pos, Ev (fun k => lex_scanner_piece.l0 k wt 2 fr K S N pos 0) (true, wt, (4 : Nat), (3 : Nat), 3, wt.extract 3 4, 0, (3 : Nat), 0) := fun fr K S N pos =>
    Ev.step (fun k => by rw [lex_scanner_piece.l0, if_pos (by decide), if_pos (by decide)]) (p3 fr K S N pos)
  have p4 := fun fr K S N pos => lex_sign wt 4 (by decide) (by decide) (by decide) (by decide) (by decide) (by decide) fr K S N pos
  rw [if_pos (by decide +kernel)] at p4
  refine Ev.congr (fun k => by unfold lex_All.f; rw [if_neg (by decide)]) ?_
  have hz : wt.size ≤ 65537 := by decide
  refine all_step wt hz 0 (by decide) [] (by decide) _ _ _ _ _ _ _ _ _ _ _ _ p0 ?_
  refine all_step wt hz 1 (by decide) [_] (by decide) _ _ _ _ _ _ _ _ _ _ _ _ (p1 _ _ _ _ _) ?_
  refine all_step wt hz 2 (by decide) [_, _] (by decide) _ _ _ _ _ _ _ _ _ _ _ _ (p2 _ _ _ _ _) ?_
  refine all_step wt hz 4 (by decide) [_, _, _] (by decide) _ _ _ _ _ _ _ _ _ _ _ _ (p4 _ _ _ _ _) ?_
  exact all_end wt hz _ _ _ _ _ _
theorem works_ev : Ev (fun k => gramaryelaw04_works.f k) true := by
  unfold gramaryelaw04_works.f
  refine Ev.bind works_lex (Ev.const ?_)
  have t1 : (wt.extract 3 4).toList = [66] := by rw [Lib.toList_data]; rfl
  have t2 : (wt.extract 4 5).toList = [63] := by rw [Lib.toList_data]; rfl
  simp [rd_T32, t1, t2]
theorem LexAll : gramaryelaw04_LexAll.Pure := by
  intro a0 h0
  obtain ⟨t, ht, hz⟩ := short_le a0
  refine Ev.rounds (g := fun k => gramaryelaw04_LexAll.f k a0) ?_
  unfold gramaryelaw04_LexAll.f
  refine Ev.bind0 ht ?_
  obtain ⟨R, e0, e1, e2⟩ := all_same t hz
  refine Ev.bind e1 (Ev.bind e2 (Ev.bind (same_self R.1 (by omega)) ?_))
  exact Ev.ite_pos rfl (Ev.ite_pos rfl (Ev.ite_pos rfl (Ev.bind works_ev (Ev.now true))))

end Go.Proofs.YtdmjehepfkgpgaaDoor.Pure
