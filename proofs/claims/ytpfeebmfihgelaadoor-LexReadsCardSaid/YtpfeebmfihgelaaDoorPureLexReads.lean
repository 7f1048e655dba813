/- For every text, every end and all acts: a reader of the text's tokens answers as the document says, and one that is none does nothing; the text is cut to 2000 bytes, or to 65537 if it is longer than 65536, and the acts to sixty, as the statement has it. No other condition. -/
import Derived.Test.YtpfeebmfihgelaaDoorHLexReadsx
import Derived.Test.YtpfeebmfihgelaaDoorVPure
import Derived.Lib.IndexLaws
import Derived.Lib.ItoaLen
namespace Go.Proofs.YtpfeebmfihgelaaDoor.Pure
open Go.RowKit Go.Plus Go.Proofs.YtpfeebmfihgelaaDoor.HLexReads Go.Proofs.YtpfeebmfihgelaaDoorW.PrintWords Go.Proofs.YtpfeebmfihgelaaDoorW.PrintLast Go.Proofs.YtpfeebmfihgelaaDoorW.PrintMore
set_option linter.unusedVariables false
set_option linter.unusedSimpArgs false
/-- A numeral's number. -/
def numVal (l : List UInt8) : Nat := l.foldl (fun n c => 10 * n + (c.toNat - 48)) 0
theorem numVal_snoc (l : List UInt8) (c : UInt8) : numVal (l ++ [c]) = 10 * numVal l + (c.toNat - 48) := by unfold numVal; rw [List.foldl_append]; rfl
theorem numVal_dec (u : Nat) : numVal (Lib.decDigits u) = u := by
  induction u using Nat.strongRecOn with
  | _ u ih =>
    rw [Lib.decDigits]
    split
    · show 10 * 0 + ((UInt8.ofNat (48 + u)).toNat - 48) = u
      rw [UInt8.toNat_ofNat_of_lt' (by show 48 + u < 256; omega)]; omega
    · rw [numVal_snoc, ih (u / 10) (by omega), UInt8.toNat_ofNat_of_lt' (by show 48 + u % 10 < 256; omega)]
      omega
theorem dec_inj {a b : Nat} (h : Lib.decDigits a = Lib.decDigits b) : a = b := by rw [← numVal_dec a, h, numVal_dec]
theorem dec_ne_nil (u : Nat) : Lib.decDigits u ≠ [] := by
  intro h
  have := Lib.decDigits_length u
  rw [h] at this
  have := Lib.nDigits_pos u
  simp at *
  omega
theorem pow10_le {i : Nat} (h : i ≤ 10) : 10 ^ i ≤ 10000000000 := by
  have := Nat.pow_le_pow_right (n := 10) (by decide) h
  have e : (10 : Nat) ^ 10 = 10000000000 := by decide
  omega
/-- The loop of the reader of numbers, over digits alone. -/
theorem dig_exact (s : ByteArray) (hz : s.size ≤ 10) (hd : ∀ i : Nat, i < s.size → 48 ≤ bt s i ∧ bt s i ≤ 57) : ∀ (d i : Nat), i + d = s.size → numVal (s.data.toList.take i) < 10 ^ i →
    Ev (fun k => digit_Parse.l0 k s (numVal (s.data.toList.take i) : Int) (s.size : Int) i) (if numVal s.data.toList > 2147483647 then (0, 5) else ((numVal s.data.toList : Int), 0)) := by
  intro d
  induction d with
  | zero =>
    intro i hi hb
    obtain rfl : i = s.size := by omega
    have e : s.data.toList.take s.size = s.data.toList := by rw [← size_list, List.take_length]
    rw [e]
    by_cases h : numVal s.data.toList > 2147483647
    · rw [if_pos h]
      exact Ev.step (fun k => by rw [digit_Parse.l0, if_neg (by omega), if_pos (by omega)]) (Ev.now _)
    · rw [if_neg h]
      exact Ev.step (fun k => by rw [digit_Parse.l0, if_neg (by omega), if_neg (by omega)]) (Ev.now _)
  | succ d ih =>
    intro i hi hb
    have hlt : i < s.size := by omega
    obtain ⟨d1, d2⟩ := hd i hlt
    have hg := bt_get hlt
    have hw : wrap64 ((i : Int) + 1) = ((i + 1 : Nat) : Int) := by rw [wrap_id (by omega)]; rfl
    have ht : numVal (s.data.toList.take (i + 1)) = 10 * numVal (s.data.toList.take i) + ((s.data.toList[i]'(by simpa using hlt)).toNat - 48) := by
      rw [← numVal_snoc, List.take_append_getElem]
    have hp := pow10_le (i := i) (by omega)
    have hv : wrap64 (wrap64 ((numVal (s.data.toList.take i) : Int) * 10) + ((bt s i - 48) % 256)) = (numVal (s.data.toList.take (i + 1)) : Int) := by
      rw [ht]
      rw [hg] at d1 d2 ⊢
      generalize (s.data.toList[i]'(by simpa using hlt)).toNat = c at *
      generalize numVal (s.data.toList.take i) = v at *
      rw [wrap_id (x := (v : Int) * 10) (by omega), Int.emod_eq_of_lt (by omega) (by omega), wrap_id (by omega)]
      omega
    have hb' : numVal (s.data.toList.take (i + 1)) < 10 ^ (i + 1) := by
      rw [ht, Nat.pow_succ]
      rw [hg] at d1 d2
      generalize (s.data.toList[i]'(by simpa using hlt)).toNat = c at *
      omega
    refine Ev.step (fun k => by rw [digit_Parse.l0, if_pos (by omega), if_pos (by omega), if_pos (by omega), if_neg (by omega), if_neg (by omega), hv, hw]) (ih (i + 1) (by omega) hb')
theorem parse_exact (s : ByteArray) (h0 : 0 < s.size) (hd : ∀ i : Nat, i < s.size → 48 ≤ bt s i ∧ bt s i ≤ 57) :
    (s.size ≤ 10 ∧ (1 < s.size → bt s 0 ≠ 48) ∧ numVal s.data.toList ≤ 2147483647 → Ev (fun k => digit_Parse.f k s) ((numVal s.data.toList : Int), 0)) ∧
    (¬ (s.size ≤ 10 ∧ (1 < s.size → bt s 0 ≠ 48) ∧ numVal s.data.toList ≤ 2147483647) → Ev (fun k => digit_Parse.f k s) (0, 5)) := by
  have bad : Ev (fun k => digit_Parse.j0 k s true) (0, 5) := Ev.step (fun k => by rw [digit_Parse.j0, if_pos rfl]) (Ev.now _)
  have good : s.size ≤ 10 → Ev (fun k => digit_Parse.j0 k s false) (if numVal s.data.toList > 2147483647 then (0, 5) else ((numVal s.data.toList : Int), 0)) := fun hz =>
    Ev.step (fun k => by rw [digit_Parse.j0, if_neg (by decide)]; rfl) (dig_exact s hz hd s.size 0 (by omega) (by simp [numVal]))
  have n0 : ¬ (s.size : Int) = 0 := by omega
  have key : s.size ≤ 10 → (1 < s.size → bt s 0 ≠ 48) → Ev (fun k => digit_Parse.f k s) (if numVal s.data.toList > 2147483647 then (0, 5) else ((numVal s.data.toList : Int), 0)) := by
    intro hz hh
    by_cases h1 : 1 < s.size
    · exact Ev.congr (fun k => by rw [digit_Parse.f, if_neg n0, if_neg (by omega), if_pos (by omega), if_pos (by omega), beq_eq_false_iff_ne.2 (hh h1)]) (good hz)
    · exact Ev.congr (fun k => by rw [digit_Parse.f, if_neg n0, if_neg (by omega), if_neg (by omega)]) (good hz)
  constructor
  · rintro ⟨a, b, c⟩
    have := key a b
    rwa [if_neg (by omega)] at this
  · intro hn
    by_cases a : s.size ≤ 10
    · by_cases b : (1 < s.size → bt s 0 ≠ 48)
      · have := key a b
        rwa [if_pos (by
          apply Classical.byContradiction
          intro hc
          exact hn ⟨a, b, by omega⟩)] at this
      · have b1 : 1 < s.size := Classical.byContradiction fun h => b fun h' => absurd h' h
        have b2 : bt s 0 = 48 := Classical.byContradiction fun h => b fun _ => h
        exact Ev.congr (fun k => by rw [digit_Parse.f, if_neg n0, if_neg (by omega), if_pos (by omega), if_pos (by omega), b2]; rfl) bad
    · exact Ev.congr (fun k => by rw [digit_Parse.f, if_neg n0, if_pos (by omega)]) bad
theorem dec_digit (u : Nat) : ∀ c ∈ Lib.decDigits u, 48 ≤ c.toNat ∧ c.toNat ≤ 57 := by
  induction u using Nat.strongRecOn with
  | _ u ih =>
    rw [Lib.decDigits]
    split
    · intro c hc
      rw [List.mem_singleton] at hc
      subst hc
      rw [UInt8.toNat_ofNat_of_lt' (by show 48 + u < 256; omega)]; omega
    · intro c hc
      rw [List.mem_append, List.mem_singleton] at hc
      rcases hc with hc | hc
      · exact ih (u / 10) (by omega) c hc
      · subst hc
        rw [UInt8.toNat_ofNat_of_lt' (by show 48 + u % 10 < 256; omega)]; omega
theorem dec_head (u : Nat) : u ≠ 0 → ∀ c, (Lib.decDigits u).head? = some c → c.toNat ≠ 48 := by
  induction u using Nat.strongRecOn with
  | _ u ih =>
    intro hu
    rw [Lib.decDigits]
    split
    · intro c hc
      obtain rfl := Option.some.inj hc
      rw [UInt8.toNat_ofNat_of_lt' (by show 48 + u < 256; omega)]; omega
    · intro c hc
      rw [List.head?_append] at hc
      cases hh : (Lib.decDigits (u / 10)).head? with
      | none => exact absurd (List.head?_eq_none_iff.1 hh) (dec_ne_nil _)
      | some c' =>
        rw [hh] at hc
        obtain rfl := Option.some.inj hc
        exact ih (u / 10) (by omega) (by omega) _ hh
theorem nDigits_le (k : Nat) : ∀ u, u < 10 ^ (k + 1) → Lib.nDigits u ≤ k + 1 := by
  induction k with
  | zero => intro u h; rw [Lib.nDigits_small (by simpa using h)]; exact Nat.le_refl _
  | succ k ih =>
    intro u h
    by_cases hu : u < 10
    · rw [Lib.nDigits_small hu]; omega
    · rw [Lib.nDigits_big hu]
      have : u / 10 < 10 ^ (k + 1) := by rw [Nat.pow_succ] at h; omega
      have := ih _ this
      omega
def decB (n : Nat) : ByteArray := ⟨(Lib.decDigits n).toArray⟩
theorem decB_list (n : Nat) : (decB n).data.toList = Lib.decDigits n := rfl
theorem decB_size (n : Nat) : (decB n).size = Lib.nDigits n := by rw [← size_list, decB_list, Lib.decDigits_length]
theorem decB_digit (n : Nat) : ∀ i : Nat, i < (decB n).size → 48 ≤ bt (decB n) i ∧ bt (decB n) i ≤ 57 := by
  intro i hi
  rw [bt_get hi]
  have := dec_digit n _ (List.getElem_mem (l := Lib.decDigits n) (n := i) (by rw [Lib.decDigits_length, ← decB_size]; exact hi))
  have e : (decB n).data.toList[i]'(by simpa using hi) = (Lib.decDigits n)[i]'(by rw [Lib.decDigits_length, ← decB_size]; exact hi) := rfl
  rw [e]
  omega
/-- A number that was printed reads as itself. -/
theorem parse_dec (n : Nat) (h : n ≤ 2147483647) : (decB n).size ≤ 10 ∧ 0 < (decB n).size ∧ Ev (fun k => digit_Parse.f k (decB n)) ((n : Int), 0) := by
  have h9 : n < 10 ^ (9 + 1) := by
    have e : (10 : Nat) ^ (9 + 1) = 10000000000 := by decide
    rw [e]; omega
  have hz : (decB n).size ≤ 10 := by rw [decB_size]; exact nDigits_le 9 n h9
  have hp : 0 < (decB n).size := by rw [decB_size]; exact Lib.nDigits_pos n
  refine ⟨hz, hp, ?_⟩
  have := (parse_exact (decB n) hp (decB_digit n)).1 ⟨hz, fun h1 => ?_, by rw [decB_list, numVal_dec]; exact h⟩
  · rw [decB_list, numVal_dec] at this
    exact this
  · have hg := bt_get hp
    have e0 : bt (decB n) 0 = (((decB n).data.toList[0]'(by simpa using hp)).toNat : Int) := hg
    rw [e0]
    have hn0 : n ≠ 0 := by
      rintro rfl
      rw [decB_size, Lib.nDigits_small (by decide)] at h1
      omega
    have := dec_head n hn0 ((decB n).data.toList[0]'(by simpa using hp)) (by rw [List.head?_eq_getElem?]; exact List.getElem?_eq_getElem _)
    omega
theorem short_le (a : ByteArray) : ∃ t, gramaryelaw04_short.f a = some t ∧ t.size ≤ 65537 := by
  unfold gramaryelaw04_short.f
  by_cases h : (a.size : Int) > 65536
  · rw [if_pos h, if_pos (by omega), if_pos (by omega)]
    exact ⟨_, rfl, by rw [ByteArray.size_extract]; omega⟩
  · have hm : 0 ≤ mn (a.size : Int) 2000 ∧ mn (a.size : Int) 2000 ≤ a.size ∧ mn (a.size : Int) 2000 ≤ 2000 := by unfold mn; split <;> omega
    rw [if_neg h, if_pos hm.1, if_pos hm.2.1]
    exact ⟨_, rfl, by rw [ByteArray.size_extract]; omega⟩
theorem kwLists : Plus.kwA.toList = [103, 114, 97, 109, 109, 97, 114] ∧ Plus.kwB.toList = [108, 111, 111, 107] ∧ Plus.kwC.toList = [115, 121, 110, 99] ∧ Plus.kwD.toList = [116, 111, 107, 101, 110] := by
  refine ⟨?_, ?_, ?_, ?_⟩ <;> rw [Lib.toList_data] <;> rfl
def inW (c : Int) : Bool := lex_scanner_piece.small c || lex_scanner_piece.num c || c == 95
def inC (c : Int) : Bool := lex_scanner_piece.great c || lex_scanner_piece.num c || c == 95
/-- Where a run of such bytes ends. -/
def runN (p : Int → Bool) (s : ByteArray) : Nat → Nat → Nat
  | 0, j => j
  | d + 1, j => if p (bt s j) = true then runN p s d (j + 1) else j
theorem runN_bds (p : Int → Bool) (s : ByteArray) : ∀ d j, j ≤ runN p s d j ∧ runN p s d j ≤ j + d
  | 0, j => ⟨Nat.le_refl _, Nat.le_refl _⟩
  | d + 1, j => by
    unfold runN
    split
    · have := runN_bds p s d (j + 1); omega
    · omega
theorem word_l2 (s : ByteArray) (fr : Nat) (err : Int) (r : lex_scanner_piece.R) : ∀ (d at_ : Nat), at_ + 1 + d = s.size → lex_scanner_named.f s (runN inW s d (at_ + 1) : Int) fr 2 ⟨#[]⟩ 0 fr err = some r → Ev (fun k => lex_scanner_piece.l2 k s at_ fr err) r := by
  intro d
  induction d with
  | zero =>
    intro at_ h hr
    exact Ev.step (fun k => by rw [lex_scanner_piece.l2, if_neg (by omega)]; rfl) (Ev.const hr)
  | succ d ih =>
    intro at_ h hr
    cases hp : inW (bt s ((at_ : Int) + 1))
    · have hp' : (lex_scanner_piece.small (bt s ((at_ : Int) + 1)) || lex_scanner_piece.num (bt s ((at_ : Int) + 1)) || bt s ((at_ : Int) + 1) == 95) = false := hp
      refine Ev.step (fun k => by rw [lex_scanner_piece.l2, if_pos (by omega), hp', if_neg (by decide)]) (Ev.const ?_)
      have e : runN inW s (d + 1) (at_ + 1) = at_ + 1 := by unfold runN; rw [if_neg (by rw [show ((at_ + 1 : Nat) : Int) = (at_ : Int) + 1 from rfl, hp]; decide)]
      rw [e] at hr
      exact hr
    · have hp' : (lex_scanner_piece.small (bt s ((at_ : Int) + 1)) || lex_scanner_piece.num (bt s ((at_ : Int) + 1)) || bt s ((at_ : Int) + 1) == 95) = true := hp
      refine Ev.step (fun k => by rw [lex_scanner_piece.l2, if_pos (by omega), hp', if_pos rfl]) (ih (at_ + 1) (by omega) ?_)
      have e : runN inW s (d + 1) (at_ + 1) = runN inW s d (at_ + 1 + 1) := by rw [runN, if_pos (show inW (bt s ((at_ + 1 : Nat) : Int)) = true from hp)]
      rw [e] at hr
      exact hr
theorem caps_l3 (s : ByteArray) (fr : Nat) (err : Int) (r : lex_scanner_piece.R) : ∀ (d at_ : Nat), at_ + 1 + d = s.size → lex_scanner_named.f s (runN inC s d (at_ + 1) : Int) fr 3 ⟨#[]⟩ 0 fr err = some r → Ev (fun k => lex_scanner_piece.l3 k s at_ fr err) r := by
  intro d
  induction d with
  | zero =>
    intro at_ h hr
    exact Ev.step (fun k => by rw [lex_scanner_piece.l3, if_neg (by omega)]; rfl) (Ev.const hr)
  | succ d ih =>
    intro at_ h hr
    cases hp : inC (bt s ((at_ : Int) + 1))
    · have hp' : (lex_scanner_piece.great (bt s ((at_ : Int) + 1)) || lex_scanner_piece.num (bt s ((at_ : Int) + 1)) || bt s ((at_ : Int) + 1) == 95) = false := hp
      refine Ev.step (fun k => by rw [lex_scanner_piece.l3, if_pos (by omega), hp', if_neg (by decide)]) (Ev.const ?_)
      have e : runN inC s (d + 1) (at_ + 1) = at_ + 1 := by unfold runN; rw [if_neg (by rw [show ((at_ + 1 : Nat) : Int) = (at_ : Int) + 1 from rfl, hp]; decide)]
      rw [e] at hr
      exact hr
    · have hp' : (lex_scanner_piece.great (bt s ((at_ : Int) + 1)) || lex_scanner_piece.num (bt s ((at_ : Int) + 1)) || bt s ((at_ : Int) + 1) == 95) = true := hp
      refine Ev.step (fun k => by rw [lex_scanner_piece.l3, if_pos (by omega), hp', if_pos rfl]) (ih (at_ + 1) (by omega) ?_)
      have e : runN inC s (d + 1) (at_ + 1) = runN inC s d (at_ + 1 + 1) := by rw [runN, if_pos (show inC (bt s ((at_ + 1 : Nat) : Int)) = true from hp)]
      rw [e] at hr
      exact hr
theorem nums_l4 (s : ByteArray) (fr : Nat) (err v e : Int) : ∀ (d at_ : Nat), at_ + 1 + d = s.size → Ev (fun k => digit_Parse.f k (s.extract fr (runN lex_scanner_piece.num s d (at_ + 1)))) (v, e) → Ev (fun k => lex_scanner_piece.l4 k s at_ fr err) (e == 0, s, (runN lex_scanner_piece.num s d (at_ + 1) : Int), (fr : Int), 4, ⟨#[]⟩, v, (fr : Int), e) := by
  intro d
  induction d with
  | zero =>
    intro at_ h hr
    have hr' : Ev (fun k => digit_Parse.f k (s.extract fr (at_ + 1))) (v, e) := hr
    exact Ev.step (fun k => by rw [lex_scanner_piece.l4, if_neg (by omega)]) (Ev.bind hr' (Ev.now _))
  | succ d ih =>
    intro at_ h hr
    cases hp : lex_scanner_piece.num (bt s ((at_ : Int) + 1))
    · have e : runN lex_scanner_piece.num s (d + 1) (at_ + 1) = at_ + 1 := by unfold runN; rw [if_neg (by rw [show ((at_ + 1 : Nat) : Int) = (at_ : Int) + 1 from rfl, hp]; decide)]
      rw [e] at hr ⊢
      exact Ev.step (fun k => by rw [lex_scanner_piece.l4, if_pos (by omega), hp, if_neg (by decide)]) (Ev.bind hr (Ev.now _))
    · have e : runN lex_scanner_piece.num s (d + 1) (at_ + 1) = runN lex_scanner_piece.num s d (at_ + 1 + 1) := by rw [runN, if_pos (show lex_scanner_piece.num (bt s ((at_ + 1 : Nat) : Int)) = true from hp)]
      rw [e] at hr ⊢
      exact Ev.step (fun k => by rw [lex_scanner_piece.l4, if_pos (by omega), hp, if_pos rfl]) (ih (at_ + 1) (by omega) hr)
theorem bt_extract (s : ByteArray) (i e : Nat) (h : i < e) (he : e ≤ s.size) : bt (s.extract i e) 0 = bt s i := by
  have h1 : 0 < (s.extract i e).size := by rw [extract_size' he (by omega)]; omega
  have h2 := bt_get h1
  have h3 := bt_get (s := s) (i := i) (by omega)
  rw [h3]
  refine h2.trans ?_
  simp [extract_list]
theorem kw_cases (t : ByteArray) (h : Plus.isKw t = true) : t.size ≤ 20 ∧ 97 ≤ bt t 0 := by
  obtain ⟨h1, h2, h3, h4⟩ := kwLists
  unfold Plus.isKw at h
  rw [h1, h2, h3, h4] at h
  simp only [Bool.or_eq_true, beq_iff_eq] at h
  have key : ∀ l : List UInt8, l = t.toList → ∀ c : UInt8, 97 ≤ c.toNat → l.head? = some c → l.length ≤ 20 → t.size ≤ 20 ∧ 97 ≤ bt t 0 := by
    intro l hl c hc hh hn
    rw [Lib.toList_data] at hl
    have hz : t.size = l.length := by rw [hl, size_list]
    have hp : 0 < t.size := by rw [hz]; cases l with | nil => simp at hh | cons => simp
    refine ⟨by omega, ?_⟩
    have := bt_get hp
    have e : t.data.toList[0]'(by simpa using hp) = c := by
      have : t.data.toList.head? = some c := by rw [← hl]; exact hh
      rw [List.head?_eq_getElem?] at this
      exact (List.getElem?_eq_some_iff.1 this).2
    have h5 : bt t 0 = ((t.data.toList[0]'(by simpa using hp)).toNat : Int) := this
    rw [h5, e]
    omega
  rcases h with ((h | h) | h) | h
  · exact key _ h 103 (by decide) rfl (by decide)
  · exact key _ h 108 (by decide) rfl (by decide)
  · exact key _ h 115 (by decide) rfl (by decide)
  · exact key _ h 116 (by decide) rfl (by decide)
theorem named_ev (s : ByteArray) (i e : Nat) (kd : Int) (h : i ≤ e) (he : e ≤ s.size) : lex_scanner_named.f s (e : Int) (i : Int) kd ⟨#[]⟩ 0 (i : Int) 0 = if Plus.isKw (s.extract i e) = true then some (true, s, (e : Int), (i : Int), 1, s.extract i e, 0, (i : Int), 0) else if (s.extract i e).size > 20 then some (false, s, (e : Int), (i : Int), kd, s.extract i e, 0, (i : Int), 5) else some (true, s, (e : Int), (i : Int), kd, s.extract i e, 0, (i : Int), 0) := by
  unfold lex_scanner_named.f
  rw [if_pos (by omega), Int.toNat_natCast, Int.toNat_natCast]
  rfl
theorem lex_word (s : ByteArray) (i d : Nat) (h : i + 1 + d = s.size) (hb : lex_scanner_piece.blank (bt s i) = false) (h35 : bt s i ≠ 35) (hs : lex_scanner_piece.small (bt s i) = true) (r : lex_scanner_piece.R) (hr : lex_scanner_named.f s (runN inW s d (i + 1) : Int) i 2 ⟨#[]⟩ 0 i 0 = some r) (fr K : Int) (S : ByteArray) (N pos : Int) : Ev (fun k => lex_scanner_piece.l0 k s i fr K S N pos 0) r :=
  Ev.step (fun k => by rw [lex_scanner_piece.l0, if_pos (by omega), hb, if_neg (by decide), if_neg h35, hs, if_pos rfl]) (word_l2 s i 0 r d i h hr)
theorem lex_caps (s : ByteArray) (i d : Nat) (h : i + 1 + d = s.size) (hb : lex_scanner_piece.blank (bt s i) = false) (h35 : bt s i ≠ 35) (hs : lex_scanner_piece.small (bt s i) = false) (hg : lex_scanner_piece.great (bt s i) = true) (r : lex_scanner_piece.R) (hr : lex_scanner_named.f s (runN inC s d (i + 1) : Int) i 3 ⟨#[]⟩ 0 i 0 = some r) (fr K : Int) (S : ByteArray) (N pos : Int) : Ev (fun k => lex_scanner_piece.l0 k s i fr K S N pos 0) r :=
  Ev.step (fun k => by rw [lex_scanner_piece.l0, if_pos (by omega), hb, if_neg (by decide), if_neg h35, hs, if_neg (by decide), hg, if_pos rfl]) (caps_l3 s i 0 r d i h hr)
theorem lex_sign (s : ByteArray) (i : Nat) (h : i < s.size) (hb : lex_scanner_piece.blank (bt s i) = false) (h35 : bt s i ≠ 35) (hs : lex_scanner_piece.small (bt s i) = false) (hg : lex_scanner_piece.great (bt s i) = false) (hn : lex_scanner_piece.num (bt s i) = false) (fr K : Int) (S : ByteArray) (N pos : Int) : Ev (fun k => lex_scanner_piece.l0 k s i fr K S N pos 0) (if lex_scanner_piece.sign (bt s i) = true then (true, s, (i : Int) + 1, (i : Int), 5, s.extract i (i + 1), 0, (i : Int), 0) else (false, s, (i : Int), (i : Int), 0, ⟨#[]⟩, 0, (i : Int), 5)) :=
  Ev.step (fun k => by rw [lex_scanner_piece.l0, if_pos h, hb, if_neg (by decide), if_neg h35, hs, if_neg (by decide), hg, if_neg (by decide), hn, if_neg (by decide)]) (Ev.const (by split <;> rfl))
def wt : ByteArray := ⟨#[97, 58, 32, 66, 63]⟩
theorem all_step (s : ByteArray) (hz : s.size ≤ 65537) (i : Nat) (hi : i ≤ s.size) (toks : List S34) (hl : toks.length < 3518437208883) (fr K : Int) (S : ByteArray) (N pos : Int) (i' f' K' : Int) (S' : ByteArray) (N' p' : Int) (R : (List S34) × Int × Int)
    (hp : Ev (fun k => lex_scanner_piece.l0 k s i fr K S N pos 0) (true, s, i', f', K', S', N', p', 0)) (h : Ev (fun k => lex_All.l0 k s (toks ++ [(⟨K', S', N', p'⟩ : S34)]) s i' f' K' S' N' p' 0) R) : Ev (fun k => lex_All.l0 k s toks s i fr K S N pos 0) R := by
  have pf : Ev (fun k => lex_scanner_piece.f k s i fr K S N pos 0) (true, s, i', f', K', S', N', p', 0) := by
    refine Ev.congr (fun k => ?_) hp
    rw [lex_scanner_piece.f, if_pos (by omega), Int.toNat_natCast]
  refine Ev.step (fun k => by rw [lex_All.l0]) (Ev.bind pf (Ev.congr (fun k => ?_) h))
  rw [if_pos rfl, if_pos hl]
theorem all_end (s : ByteArray) (hz : s.size ≤ 65537) (toks : List S34) (fr K : Int) (S : ByteArray) (N pos : Int) : Ev (fun k => lex_All.l0 k s toks s (s.size : Int) fr K S N pos 0) (toks, (s.size : Int), 0) := by
  have pf : Ev (fun k => lex_scanner_piece.f k s (s.size : Int) fr K S N pos 0) (false, s, (s.size : Int), fr, K, S, N, pos, 0) := by
    refine Ev.congr (fun k => ?_) (Ev.step (g := fun k => lex_scanner_piece.l0 k s s.size fr K S N pos 0) (fun k => by rw [lex_scanner_piece.l0, if_neg (by omega)]) (Ev.now _))
    rw [lex_scanner_piece.f, if_pos (by omega), Int.toNat_natCast]
  exact Ev.step (fun k => by rw [lex_All.l0]) (Ev.bind pf (Ev.congr (f := fun _ => some (toks, (s.size : Int), (0 : Int))) (fun _ => rfl) (Ev.now _)))
theorem works_lex : Ev (fun k => lex_All.f k wt) ([(⟨2, wt.extract 0 1, 0, 0⟩ : S34), ⟨5, wt.extract 1 2, 0, 1⟩, ⟨3, wt.extract 3 4, 0, 3⟩, ⟨5, wt.extract 4 5, 0, 4⟩], 5, 0) := by
  have z : wt.size = 5 := rfl
  have kw : ∀ a b : Nat, a ≤ b → b ≤ 5 → b - a ≤ 1 → Plus.isKw (wt.extract a b) = false := by
    intro a b h1 h2 h3
    cases hk : Plus.isKw (wt.extract a b)
    · rfl
    · obtain ⟨h1, h2, h3, h4⟩ := kwLists
      unfold Plus.isKw at hk
      rw [h1, h2, h3, h4] at hk
      simp only [Bool.or_eq_true, beq_iff_eq] at hk
      have hx : (wt.extract a b).toList.length ≤ 1 := by rw [Lib.toList_data, size_list, ByteArray.size_extract]; omega
      rcases hk with ((h | h) | h) | h <;> rw [← h] at hx <;> exact absurd hx (by decide)
  have p0 : Ev (fun k => lex_scanner_piece.l0 k wt 0 0 0 ⟨#[]⟩ 0 0 0) (true, wt, (1 : Nat), (0 : Nat), 2, wt.extract 0 1, 0, (0 : Nat), 0) := by
    refine lex_word wt 0 4 rfl (by decide) (by decide) (by decide) _ ?_ _ _ _ _ _
    have e : runN inW wt 4 1 = 1 := by decide
    rw [e, named_ev wt 0 1 2 (by decide) (by decide), kw 0 1 (by decide) (by decide) (by decide), if_neg (by decide), if_neg (by rw [ByteArray.size_extract]; decide)]
  have p1 := fun fr K S N pos => lex_sign wt 1 (by decide) (by decide) (by decide) (by decide) (by decide) (by decide) fr K S N pos
  rw [if_pos (by decide +kernel)] at p1
  have p3 : ∀ fr K S N pos, Ev (fun k => lex_scanner_piece.l0 k wt 3 fr K S N pos 0) (true, wt, (4 : Nat), (3 : Nat), 3, wt.extract 3 4, 0, (3 : Nat), 0) := by
    intro fr K S N pos
    refine lex_caps wt 3 1 rfl (by decide) (by decide) (by decide) (by decide) _ ?_ _ _ _ _ _
    have e : runN inC wt 1 4 = 4 := by decide
    rw [e, named_ev wt 3 4 3 (by decide) (by decide), kw 3 4 (by decide) (by decide) (by decide), if_neg (by decide), if_neg (by rw [ByteArray.size_extract]; decide)]
  have p2 : ∀ fr K S N pos, Ev (fun k => lex_scanner_piece.l0 k wt 2 fr K S N pos 0) (true, wt, (4 : Nat), (3 : Nat), 3, wt.extract 3 4, 0, (3 : Nat), 0) := fun fr K S N pos =>
    Ev.step (fun k => by rw [lex_scanner_piece.l0, if_pos (by decide), if_pos (by decide)]) (p3 fr K S N pos)
  have p4 := fun fr K S N pos => lex_sign wt 4 (by decide) (by decide) (by decide) (by decide) (by decide) (by decide) fr K S N pos
  rw [if_pos (by decide +kernel)] at p4
  refine Ev.congr (fun k => by unfold lex_All.f; rw [if_neg (by decide)]) ?_
  have hz : wt.size ≤ 65537 := by decide
  refine all_step wt hz 0 (by decide) [] (by decide) _ _ _ _ _ _ _ _ _ _ _ _ p0 ?_
  refine all_step wt hz 1 (by decide) [_] (by decide) _ _ _ _ _ _ _ _ _ _ _ _ (p1 _ _ _ _ _) ?_
  refine all_step wt hz 2 (by decide) [_, _] (by decide) _ _ _ _ _ _ _ _ _ _ _ _ (p2 _ _ _ _ _) ?_
  refine all_step wt hz 4 (by decide) [_, _, _] (by decide) _ _ _ _ _ _ _ _ _ _ _ _ (p4 _ _ _ _ _) ?_
  exact all_end wt hz _ _ _ _ _ _
theorem works_ev : Ev (fun k => gramaryelaw04_works.f k) true := by
  unfold gramaryelaw04_works.f
  refine Ev.bind works_lex (Ev.const ?_)
  have t1 : (wt.extract 3 4).toList = [66] := by rw [Lib.toList_data]; rfl
  have t2 : (wt.extract 4 5).toList = [63] := by rw [Lib.toList_data]; rfl
  simp [rd_T34, t1, t2]
theorem runN_all (p : Int → Bool) (s : ByteArray) : ∀ (d j i : Nat), j ≤ i → i < runN p s d j → p (bt s i) = true := by
  intro d
  induction d with
  | zero => intro j i h1 h2; exact absurd h2 (by show ¬ i < j; omega)
  | succ d ih =>
    intro j i h1 h2
    unfold runN at h2
    split at h2
    · rename_i hp
      by_cases e : i = j
      · rw [e]; exact hp
      · exact ih (j + 1) i (by omega) h2
    · omega
theorem runN_stop (p : Int → Bool) (s : ByteArray) : ∀ (d j e : Nat), j ≤ e → e ≤ j + d → (∀ i : Nat, j ≤ i → i < e → p (bt s i) = true) → (e < j + d → p (bt s e) = false) → runN p s d j = e := by
  intro d
  induction d with
  | zero => intro j e h1 h2 _ _; show j = e; omega
  | succ d ih =>
    intro j e h1 h2 h3 h4
    unfold runN
    by_cases h : j = e
    · subst h
      rw [if_neg (by rw [h4 (by omega)]; decide)]
    · rw [if_pos (h3 j (Nat.le_refl _) (by omega))]
      exact ih (j + 1) e (by omega) (by omega) (fun i a b => h3 i (by omega) b) (fun a => h4 (by omega))
theorem bt_extract' (s : ByteArray) (i e j : Nat) (h : i + j < e) (he : e ≤ s.size) : bt (s.extract i e) j = bt s ((i + j : Nat) : Int) := by
  have h1 : j < (s.extract i e).size := by rw [extract_size' he (by omega)]; omega
  rw [bt_get h1, bt_get (s := s) (i := i + j) (by omega)]
  simp [extract_list]
def signy (c : Int) : Prop := lex_scanner_piece.blank c = false ∧ c ≠ 35 ∧ lex_scanner_piece.small c = false ∧ lex_scanner_piece.great c = false ∧ lex_scanner_piece.num c = false ∧ lex_scanner_piece.sign c = true
/-- A token that a scan yields. -/
def GoodTok (t : S34) : Prop :=
  (t.f0 = 4 ∧ t.f1 = ⟨#[]⟩ ∧ ∃ n : Nat, n ≤ 2147483647 ∧ t.f2 = n) ∨
  (t.f2 = 0 ∧ 0 < t.f1.size ∧ t.f1.size ≤ 20 ∧
    ((t.f0 = (if Plus.isKw t.f1 = true then 1 else 2) ∧ lex_scanner_piece.small (bt t.f1 0) = true ∧ ∀ i : Nat, i < t.f1.size → inW (bt t.f1 i) = true) ∨
     (t.f0 = 3 ∧ lex_scanner_piece.great (bt t.f1 0) = true ∧ ∀ i : Nat, i < t.f1.size → inC (bt t.f1 i) = true) ∨
     (t.f0 = 5 ∧ t.f1.size = 1 ∧ signy (bt t.f1 0))))
def tokText (t : S34) : ByteArray := if t.f0 = 4 then decB t.f2.toNat else t.f1
theorem small_not (c : Int) (h : lex_scanner_piece.small c = true) : lex_scanner_piece.blank c = false ∧ c ≠ 35 := by
  unfold lex_scanner_piece.small at h
  rw [Bool.and_eq_true, decide_eq_true_eq, decide_eq_true_eq] at h
  unfold lex_scanner_piece.blank
  rw [beq_eq_false_iff_ne.2 (by omega : c ≠ 32), beq_eq_false_iff_ne.2 (by omega : c ≠ 9), beq_eq_false_iff_ne.2 (by omega : c ≠ 10), beq_eq_false_iff_ne.2 (by omega : c ≠ 13)]
  exact ⟨rfl, by omega⟩
theorem great_not (c : Int) (h : lex_scanner_piece.great c = true) : lex_scanner_piece.blank c = false ∧ c ≠ 35 ∧ lex_scanner_piece.small c = false := by
  unfold lex_scanner_piece.great at h
  rw [Bool.and_eq_true, decide_eq_true_eq, decide_eq_true_eq] at h
  unfold lex_scanner_piece.blank lex_scanner_piece.small
  rw [beq_eq_false_iff_ne.2 (by omega : c ≠ 32), beq_eq_false_iff_ne.2 (by omega : c ≠ 9), beq_eq_false_iff_ne.2 (by omega : c ≠ 10), beq_eq_false_iff_ne.2 (by omega : c ≠ 13), decide_eq_false (by omega : ¬ 97 ≤ c)]
  exact ⟨rfl, by omega, rfl⟩
theorem num_not (c : Int) (h : lex_scanner_piece.num c = true) : lex_scanner_piece.blank c = false ∧ c ≠ 35 ∧ lex_scanner_piece.small c = false ∧ lex_scanner_piece.great c = false ∧ 48 ≤ c ∧ c ≤ 57 := by
  unfold lex_scanner_piece.num at h
  rw [Bool.and_eq_true, decide_eq_true_eq, decide_eq_true_eq] at h
  unfold lex_scanner_piece.blank lex_scanner_piece.small lex_scanner_piece.great
  rw [beq_eq_false_iff_ne.2 (by omega : c ≠ 32), beq_eq_false_iff_ne.2 (by omega : c ≠ 9), beq_eq_false_iff_ne.2 (by omega : c ≠ 10), beq_eq_false_iff_ne.2 (by omega : c ≠ 13), decide_eq_false (by omega : ¬ 97 ≤ c), decide_eq_false (by omega : ¬ 65 ≤ c)]
  exact ⟨rfl, by omega, rfl, rfl, h⟩
theorem lex_num (s : ByteArray) (i d : Nat) (h : i + 1 + d = s.size) (hu : lex_scanner_piece.num (bt s i) = true) (v e : Int) (hp : Ev (fun k => digit_Parse.f k (s.extract i (runN lex_scanner_piece.num s d (i + 1)))) (v, e)) (fr K : Int) (S : ByteArray) (N pos : Int) :
    Ev (fun k => lex_scanner_piece.l0 k s i fr K S N pos 0) (e == 0, s, (runN lex_scanner_piece.num s d (i + 1) : Int), (i : Int), 4, ⟨#[]⟩, v, (i : Int), e) := by
  obtain ⟨hb, h35, hs, hg, _⟩ := num_not _ hu
  exact Ev.step (fun k => by rw [lex_scanner_piece.l0, if_pos (by omega), hb, if_neg (by decide), if_neg h35, hs, if_neg (by decide), hg, if_neg (by decide), hu, if_pos rfl]) (nums_l4 s i 0 v e d i h hp)
/-- What the scanner says of the piece that begins at a place. -/
theorem tokF (s : ByteArray) (i : Nat) (h : i < s.size) (hb : lex_scanner_piece.blank (bt s i) = false) (h35 : bt s i ≠ 35) : ∃ (t : S34) (ok : Bool) (ix e : Int) (n : Nat),
    (∀ (fr K : Int) (S : ByteArray) (N pos : Int), Ev (fun k => lex_scanner_piece.l0 k s i fr K S N pos 0) (ok, s, ix, (i : Int), t.f0, t.f1, t.f2, (i : Int), e)) ∧
    t.f3 = i ∧ (ok = true → GoodTok t ∧ ix = ((i + n : Nat) : Int) ∧ 1 ≤ n ∧ i + n ≤ s.size ∧ e = 0) ∧ (ok = false → e = 5) := by
  obtain ⟨d, hd⟩ : ∃ d, i + 1 + d = s.size := ⟨s.size - i - 1, by omega⟩
  cases hs : lex_scanner_piece.small (bt s i)
  · cases hg : lex_scanner_piece.great (bt s i)
    · cases hu : lex_scanner_piece.num (bt s i)
      · have L := lex_sign s i h hb h35 hs hg hu
        cases hsg : lex_scanner_piece.sign (bt s i)
        · rw [hsg] at L
          exact ⟨⟨0, ⟨#[]⟩, 0, i⟩, false, i, 5, 1, L, rfl, fun h => absurd h (by decide), fun _ => rfl⟩
        · rw [hsg] at L
          have hz : (s.extract i (i + 1)).size = 1 := by rw [extract_size' (by omega) (by omega)]; omega
          refine ⟨⟨5, s.extract i (i + 1), 0, i⟩, true, (i : Int) + 1, 0, 1, L, rfl, fun _ => ⟨.inr ⟨rfl, by show 0 < (s.extract i (i + 1)).size; omega, by show (s.extract i (i + 1)).size ≤ 20; omega, .inr (.inr ⟨rfl, hz, ?_⟩)⟩, rfl, by omega, by omega, rfl⟩, fun h => absurd h (by decide)⟩
          show signy (bt (s.extract i (i + 1)) 0)
          rw [bt_extract s i (i + 1) (by omega) (by omega)]
          exact ⟨hb, h35, hs, hg, hu, hsg⟩
      · have b := runN_bds lex_scanner_piece.num s d (i + 1)
        have al := runN_all lex_scanner_piece.num s d (i + 1)
        have L := lex_num s i d hd hu
        generalize runN lex_scanner_piece.num s d (i + 1) = e at *
        have hz : (s.extract i e).size = e - i := extract_size' (by omega) (by omega)
        have hdig : ∀ j : Nat, j < (s.extract i e).size → 48 ≤ bt (s.extract i e) j ∧ bt (s.extract i e) j ≤ 57 := by
          intro j hj
          rw [bt_extract' s i e j (by omega) (by omega)]
          by_cases h0 : j = 0
          · subst h0; exact (num_not _ hu).2.2.2.2
          · exact (num_not _ (al (i + j) (by omega) (by omega))).2.2.2.2
        have P := parse_exact (s.extract i e) (by omega) hdig
        by_cases hc : (s.extract i e).size ≤ 10 ∧ (1 < (s.extract i e).size → bt (s.extract i e) 0 ≠ 48) ∧ numVal (s.extract i e).data.toList ≤ 2147483647
        · exact ⟨⟨4, ⟨#[]⟩, (numVal (s.extract i e).data.toList : Int), i⟩, true, e, 0, e - i, L _ _ (P.1 hc), rfl, fun _ => ⟨.inl ⟨rfl, rfl, _, hc.2.2, rfl⟩, by omega, by omega, by omega, rfl⟩, fun h => absurd h (by decide)⟩
        · exact ⟨⟨4, ⟨#[]⟩, 0, i⟩, false, e, 5, e - i, L _ _ (P.2 hc), rfl, fun h => absurd h (by decide), fun _ => rfl⟩
    · have b := runN_bds inC s d (i + 1)
      have al := runN_all inC s d (i + 1)
      have L := lex_caps s i d hd hb h35 hs hg
      generalize runN inC s d (i + 1) = e at *
      have hz : (s.extract i e).size = e - i := extract_size' (by omega) (by omega)
      have nm := named_ev s i e 3 (by omega) (by omega)
      have hk : Plus.isKw (s.extract i e) = false := by
        cases hk : Plus.isKw (s.extract i e)
        · rfl
        · have := (kw_cases _ hk).2
          rw [bt_extract s i e (by omega) (by omega)] at this
          unfold lex_scanner_piece.great at hg
          rw [Bool.and_eq_true, decide_eq_true_eq, decide_eq_true_eq] at hg
          omega
      rw [hk, if_neg (by decide)] at nm
      by_cases h20 : (s.extract i e).size > 20
      · rw [if_pos h20] at nm
        exact ⟨⟨3, s.extract i e, 0, i⟩, false, e, 5, e - i, L _ nm, rfl, fun h => absurd h (by decide), fun _ => rfl⟩
      · rw [if_neg h20] at nm
        refine ⟨⟨3, s.extract i e, 0, i⟩, true, e, 0, e - i, L _ nm, rfl, fun _ => ⟨.inr ⟨rfl, by show 0 < (s.extract i e).size; omega, by show (s.extract i e).size ≤ 20; omega, .inr (.inl ⟨rfl, ?_, ?_⟩)⟩, by omega, by omega, by omega, rfl⟩, fun h => absurd h (by decide)⟩
        · show lex_scanner_piece.great (bt (s.extract i e) 0) = true
          rw [bt_extract s i e (by omega) (by omega)]; exact hg
        · intro j hj
          have hj' : j < (s.extract i e).size := hj
          show inC (bt (s.extract i e) j) = true
          rw [bt_extract' s i e j (by omega) (by omega)]
          by_cases h0 : j = 0
          · subst h0; unfold inC; rw [show ((i + 0 : Nat) : Int) = (i : Int) from rfl, hg]; rfl
          · exact al (i + j) (by omega) (by omega)
  · have b := runN_bds inW s d (i + 1)
    have al := runN_all inW s d (i + 1)
    have L := lex_word s i d hd hb h35 hs
    generalize runN inW s d (i + 1) = e at *
    have hz : (s.extract i e).size = e - i := extract_size' (by omega) (by omega)
    have nm := named_ev s i e 2 (by omega) (by omega)
    have hall : ∀ j : Nat, j < (s.extract i e).size → inW (bt (s.extract i e) j) = true := by
      intro j hj
      rw [bt_extract' s i e j (by omega) (by omega)]
      by_cases h0 : j = 0
      · subst h0; unfold inW; rw [show ((i + 0 : Nat) : Int) = (i : Int) from rfl, hs]; rfl
      · exact al (i + j) (by omega) (by omega)
    have hsm : lex_scanner_piece.small (bt (s.extract i e) 0) = true := by rw [bt_extract s i e (by omega) (by omega)]; exact hs
    cases hk : Plus.isKw (s.extract i e)
    · rw [hk, if_neg (by decide)] at nm
      by_cases h20 : (s.extract i e).size > 20
      · rw [if_pos h20] at nm
        exact ⟨⟨2, s.extract i e, 0, i⟩, false, e, 5, e - i, L _ nm, rfl, fun h => absurd h (by decide), fun _ => rfl⟩
      · rw [if_neg h20] at nm
        exact ⟨⟨2, s.extract i e, 0, i⟩, true, e, 0, e - i, L _ nm, rfl, fun _ => ⟨.inr ⟨rfl, by show 0 < (s.extract i e).size; omega, by show (s.extract i e).size ≤ 20; omega, .inl ⟨by show (2 : Int) = if Plus.isKw (s.extract i e) = true then 1 else 2; rw [hk]; rfl, hsm, hall⟩⟩, by omega, by omega, by omega, rfl⟩, fun h => absurd h (by decide)⟩
    · rw [hk, if_pos rfl] at nm
      have := (kw_cases _ hk).1
      exact ⟨⟨1, s.extract i e, 0, i⟩, true, e, 0, e - i, L _ nm, rfl, fun _ => ⟨.inr ⟨rfl, by show 0 < (s.extract i e).size; omega, by show (s.extract i e).size ≤ 20; omega, .inl ⟨by show (1 : Int) = if Plus.isKw (s.extract i e) = true then 1 else 2; rw [hk]; rfl, hsm, hall⟩⟩, by omega, by omega, by omega, rfl⟩, fun h => absurd h (by decide)⟩
/-- A good token's text, with a blank behind it, reads as the token. -/
theorem relex (out : ByteArray) (i : Nat) (t : S34) (hg : GoodTok t) (L : Nat) (hL : L = (tokText t).size) (hlt : i + L < out.size) (hx : out.extract i (i + L) = tokText t) (hsp : bt out ((i + L : Nat) : Int) = 32) (fr K : Int) (S : ByteArray) (N pos : Int) :
    Ev (fun k => lex_scanner_piece.l0 k out i fr K S N pos 0) (true, out, ((i + L : Nat) : Int), (i : Int), t.f0, t.f1, t.f2, (i : Int), 0) := by
  have hb : ∀ j : Nat, j < L → bt out ((i + j : Nat) : Int) = bt (tokText t) j := fun j hj => by
    rw [← hx, bt_extract' out i (i + L) j (by omega) (by omega)]
  obtain ⟨d, hd⟩ : ∃ d, i + 1 + d = out.size := ⟨out.size - i - 1, by omega⟩
  obtain ⟨f0, f1, f2, f3⟩ := t
  rcases hg with ⟨h0, h1, n, hn, h2⟩ | ⟨h2, hp, h20, hc⟩
  · simp only at h0 h1 h2
    subst h0 h1 h2
    have ht : tokText ⟨4, ⟨#[]⟩, (n : Int), f3⟩ = decB n := by unfold tokText; rw [if_pos rfl]; rfl
    rw [ht] at hb hx hL
    obtain ⟨z1, z2, P⟩ := parse_dec n hn
    have hnum : ∀ j : Nat, j < L → lex_scanner_piece.num (bt out ((i + j : Nat) : Int)) = true := fun j hj => by
      rw [hb j hj]
      have := decB_digit n j (by omega)
      unfold lex_scanner_piece.num
      rw [decide_eq_true this.1, decide_eq_true this.2]; rfl
    have e : runN lex_scanner_piece.num out d (i + 1) = i + L := by
      refine runN_stop _ _ _ _ _ (by omega) (by omega) (fun j a b => ?_) (fun _ => by rw [hsp]; decide)
      have := hnum (j - i) (by omega)
      rwa [show i + (j - i) = j by omega] at this
    have R := lex_num out i d hd (hnum 0 (by omega)) n 0 (by rw [e, hx]; exact P) fr K S N pos
    rw [e] at R
    exact R
  · simp only at h2 hp h20
    subst h2
    rcases hc with ⟨h0, hs, hall⟩ | ⟨h0, hs, hall⟩ | ⟨h0, hz, hs⟩
    · simp only at h0 hs hall
      have ht : tokText ⟨f0, f1, 0, f3⟩ = f1 := by
        unfold tokText
        rw [if_neg]
        show ¬ f0 = 4
        rw [h0]; split <;> decide
      rw [ht] at hb hx hL
      have h00 := hb 0 (by omega)
      rw [show ((i + 0 : Nat) : Int) = (i : Int) from rfl, show ((0 : Nat) : Int) = 0 from rfl] at h00
      rw [← h00] at hs
      obtain ⟨b1, b2⟩ := small_not _ hs
      have e : runN inW out d (i + 1) = i + L := by
        refine runN_stop _ _ _ _ _ (by omega) (by omega) (fun j a b => ?_) (fun _ => by rw [hsp]; decide)
        have := hb (j - i) (by omega)
        rw [show i + (j - i) = j by omega] at this
        rw [this]
        exact hall (j - i) (by omega)
      have nm := named_ev out i (i + L) 2 (by omega) (by omega)
      rw [hx] at nm
      refine lex_word out i d hd b1 b2 hs _ ?_ fr K S N pos
      rw [e, nm]
      cases hk : Plus.isKw f1
      · rw [hk, if_neg (by decide)] at h0
        rw [if_neg (by decide), if_neg (by omega), h0]
      · rw [hk, if_pos rfl] at h0
        rw [if_pos rfl, h0]
    · simp only at h0 hs hall
      subst h0
      have ht : tokText ⟨3, f1, 0, f3⟩ = f1 := rfl
      rw [ht] at hb hx hL
      have h00 := hb 0 (by omega)
      rw [show ((i + 0 : Nat) : Int) = (i : Int) from rfl, show ((0 : Nat) : Int) = 0 from rfl] at h00
      have hk : Plus.isKw f1 = false := by
        cases hk : Plus.isKw f1
        · rfl
        · have := (kw_cases _ hk).2
          unfold lex_scanner_piece.great at hs
          rw [Bool.and_eq_true, decide_eq_true_eq, decide_eq_true_eq] at hs
          omega
      rw [← h00] at hs
      obtain ⟨b1, b2, b3⟩ := great_not _ hs
      have e : runN inC out d (i + 1) = i + L := by
        refine runN_stop _ _ _ _ _ (by omega) (by omega) (fun j a b => ?_) (fun _ => by rw [hsp]; decide)
        have := hb (j - i) (by omega)
        rw [show i + (j - i) = j by omega] at this
        rw [this]
        exact hall (j - i) (by omega)
      have nm := named_ev out i (i + L) 3 (by omega) (by omega)
      rw [hx, hk, if_neg (by decide), if_neg (by omega)] at nm
      refine lex_caps out i d hd b1 b2 b3 hs _ ?_ fr K S N pos
      rw [e, nm]
    · simp only at h0 hs hz
      subst h0
      have ht : tokText ⟨5, f1, 0, f3⟩ = f1 := rfl
      rw [ht] at hb hx hL
      obtain rfl : L = 1 := by omega
      have h00 := hb 0 (by omega)
      rw [show ((i + 0 : Nat) : Int) = (i : Int) from rfl, show ((0 : Nat) : Int) = 0 from rfl] at h00
      rw [← h00] at hs
      obtain ⟨s1, s2, s3, s4, s5, s6⟩ := hs
      have R := lex_sign out i (by omega) s1 s2 s3 s4 s5 fr K S N pos
      rw [s6, if_pos rfl, hx] at R
      exact R
theorem cmtL (s : ByteArray) : ∀ (d i : Nat), i + d = s.size → ∃ j, i ≤ j ∧ j ≤ s.size ∧ (j < s.size → bt s j = 10) ∧
    (∀ fr K S N pos err r, Ev (fun k => lex_scanner_piece.l0 k s j fr K S N pos err) r → Ev (fun k => lex_scanner_piece.l1 k s i fr K S N pos err) r) := by
  intro d
  induction d with
  | zero =>
    intro i hi
    exact ⟨i, Nat.le_refl _, by omega, fun h => by omega, fun _ _ _ _ _ _ _ h => Ev.step (fun k => by rw [lex_scanner_piece.l1, if_neg (by omega)]) h⟩
  | succ d ih =>
    intro i hi
    by_cases hc : bt s i = 10
    · exact ⟨i, Nat.le_refl _, by omega, fun _ => hc, fun _ _ _ _ _ _ _ h => Ev.step (fun k => by rw [lex_scanner_piece.l1, if_pos (by omega), if_pos hc]) h⟩
    · obtain ⟨j, h1, h2, h3, h4⟩ := ih (i + 1) (by omega)
      exact ⟨j, by omega, h2, h3, fun _ _ _ _ _ _ _ h => Ev.step (fun k => by rw [lex_scanner_piece.l1, if_pos (by omega), if_neg hc]) (h4 _ _ _ _ _ _ _ h)⟩
theorem skipL (s : ByteArray) : ∀ (d i : Nat), i + d = s.size → ∃ j, i ≤ j ∧ j ≤ s.size ∧ (j < s.size → lex_scanner_piece.blank (bt s j) = false ∧ bt s j ≠ 35) ∧
    (∀ fr K S N pos err r, Ev (fun k => lex_scanner_piece.l0 k s j fr K S N pos err) r → Ev (fun k => lex_scanner_piece.l0 k s i fr K S N pos err) r) := by
  intro d
  induction d using Nat.strongRecOn with
  | _ d ih =>
    intro i hi
    by_cases hd : d = 0
    · exact ⟨i, Nat.le_refl _, by omega, fun h => by omega, fun _ _ _ _ _ _ _ h => h⟩
    cases hb : lex_scanner_piece.blank (bt s i)
    · by_cases hc : bt s i = 35
      · obtain ⟨j, h1, h2, h3, h4⟩ := cmtL s d i hi
        have hj : j ≠ i := fun e => by
          subst e
          have := h3 (by omega)
          omega
        obtain ⟨j', g1, g2, g3, g4⟩ := ih (s.size - j) (by omega) j (by omega)
        exact ⟨j', by omega, g2, g3, fun _ _ _ _ _ _ _ h => Ev.step (fun k => by rw [lex_scanner_piece.l0, if_pos (by omega), hb, if_neg (by decide), if_pos hc]) (h4 _ _ _ _ _ _ _ (g4 _ _ _ _ _ _ _ h))⟩
      · exact ⟨i, Nat.le_refl _, by omega, fun _ => ⟨hb, hc⟩, fun _ _ _ _ _ _ _ h => h⟩
    · obtain ⟨j, h1, h2, h3, h4⟩ := ih (d - 1) (by omega) (i + 1) (by omega)
      exact ⟨j, by omega, h2, h3, fun _ _ _ _ _ _ _ h => Ev.step (fun k => by rw [lex_scanner_piece.l0, if_pos (by omega), hb, if_pos rfl]) (h4 _ _ _ _ _ _ _ h)⟩
def reloc : Nat → List S34 → List S34
  | _, [] => []
  | A, t :: ts => (⟨t.f0, t.f1, t.f2, (A : Int)⟩ : S34) :: reloc (A + (tokText t).size + 1) ts
def catText : List S34 → List UInt8
  | [] => []
  | t :: ts => (tokText t).data.toList ++ 32 :: catText ts
/-- A text that is written out of good tokens scans back to them. -/
theorem rescan (out : ByteArray) (hz : out.size ≤ 65537) : ∀ (ts : List S34) (A p : Nat) (acc : List S34) (fr K : Int) (S : ByteArray) (N pos : Int), (∀ t ∈ ts, GoodTok t) → A ≤ out.size → p ≤ out.size → acc.length ≤ A →
    (∀ (fr K : Int) (S : ByteArray) (N pos : Int) r, Ev (fun k => lex_scanner_piece.l0 k out A fr K S N pos 0) r → Ev (fun k => lex_scanner_piece.l0 k out p fr K S N pos 0) r) → out.data.toList.drop A = catText ts →
    Ev (fun k => lex_All.l0 k out acc out p fr K S N pos 0) (acc ++ reloc A ts, (out.size : Int), 0) := by
  intro ts
  induction ts with
  | nil =>
    intro A p acc fr K S N pos _ hA hp _ hsk hdr
    obtain rfl : A = out.size := by
      have := congrArg List.length hdr
      rw [List.length_drop, size_list] at this
      have h0 : (catText []).length = 0 := rfl
      omega
    have pf : Ev (fun k => lex_scanner_piece.f k out p fr K S N pos 0) (false, out, (out.size : Int), fr, K, S, N, pos, 0) := by
      refine Ev.congr (fun k => ?_) (hsk fr K S N pos _ (Ev.step (g := fun k => lex_scanner_piece.l0 k out out.size fr K S N pos 0) (f := fun _ => some (false, out, (out.size : Int), fr, K, S, N, pos, 0)) (fun k => by rw [lex_scanner_piece.l0, if_neg (by omega)]) (Ev.now _)))
      rw [lex_scanner_piece.f, if_pos (by omega), Int.toNat_natCast]
    rw [show acc ++ reloc out.size [] = acc from List.append_nil _]
    exact Ev.step (fun k => by rw [lex_All.l0]) (Ev.bind pf (Ev.congr (f := fun _ => some (acc, (out.size : Int), (0 : Int))) (fun _ => rfl) (Ev.now _)))
  | cons t ts ih =>
    intro A p acc fr K S N pos hg hA hp hl hsk hdr
    have hdr' : out.data.toList.drop A = (tokText t).data.toList ++ 32 :: catText ts := hdr
    obtain ⟨L, hL⟩ : ∃ L, L = (tokText t).size := ⟨_, rfl⟩
    have hTl : (tokText t).data.toList.length = L := by rw [size_list, hL]
    have hlen : A + L + 1 ≤ out.size := by
      have := congrArg List.length hdr'
      rw [List.length_drop, size_list, List.length_append, List.length_cons, hTl] at this
      omega
    have hx : out.extract A (A + L) = tokText t := by
      apply ByteArray.ext
      apply Array.ext'
      rw [extract_list, List.drop_take, hdr', Nat.add_sub_cancel_left, ← hTl, List.take_left]
    have hsp : bt out ((A + L : Nat) : Int) = 32 := by
      rw [bt_get (by omega)]
      have h1 : out.data.toList[A + L]? = some 32 := by
        rw [← List.getElem?_drop, hdr', List.getElem?_append_right (by omega), hTl, Nat.sub_self]; rfl
      rw [(List.getElem?_eq_some_iff.1 h1).2]; rfl
    have R := relex out A t (hg t (List.mem_cons_self ..)) L hL (by omega) hx hsp fr K S N pos
    refine all_step out hz p hp acc (by omega) fr K S N pos _ _ _ _ _ _ _ (hsk fr K S N pos _ R) ?_
    have e : acc ++ reloc A (t :: ts) = (acc ++ [(⟨t.f0, t.f1, t.f2, (A : Int)⟩ : S34)]) ++ reloc (A + L + 1) ts := by rw [List.append_assoc, hL]; rfl
    rw [e]
    refine ih (A + L + 1) (A + L) _ _ _ _ _ _ (fun x hx => hg x (List.mem_cons_of_mem _ hx)) hlen (by omega) (by rw [List.length_append]; simp only [List.length_singleton]; omega) ?_ ?_
    · intro fr K S N pos r hr
      exact Ev.step (fun k => by rw [lex_scanner_piece.l0, if_pos (by omega), hsp, if_pos (by decide)]) hr
    · rw [show A + L + 1 = A + (L + 1) from rfl, ← List.drop_drop, hdr', ← hTl, List.drop_append]
      simp
/-- What a scan yields: good tokens at rising places, or an error. -/
def Scanned (s : ByteArray) (R : (List S34) × Int × Int) : Prop :=
  (R.2.2 = 0 ∧ R.1.length ≤ s.size ∧ (∀ t ∈ R.1, GoodTok t ∧ 0 ≤ t.f3 ∧ t.f3 < (s.size : Int)) ∧ R.1.Pairwise (fun a b => a.f3 < b.f3)) ∨ (R.2.2 ≠ 0 ∧ R.1 = [] ∧ R.2.1 ≤ (s.size : Int))
theorem scanF (s : ByteArray) (hz : s.size ≤ 65537) : ∀ (d i : Nat) (toks : List S34) (fr K : Int) (S : ByteArray) (N pos : Int), i + d = s.size → toks.length ≤ i → (∀ t ∈ toks, GoodTok t ∧ 0 ≤ t.f3 ∧ t.f3 < (i : Int)) → toks.Pairwise (fun a b => a.f3 < b.f3) →
    ∃ R : (List S34) × Int × Int, Ev (fun k => lex_All.l0 k s toks s i fr K S N pos 0) R ∧ Scanned s R := by
  intro d
  induction d using Nat.strongRecOn with
  | _ d ih =>
    intro i toks fr K S N pos hi hl hg hp
    obtain ⟨j, h1, h2, h3, h4⟩ := skipL s d i hi
    have pf : ∀ r, Ev (fun k => lex_scanner_piece.l0 k s j fr K S N pos 0) r → Ev (fun k => lex_scanner_piece.f k s i fr K S N pos 0) r := fun r hr => by
      refine Ev.congr (fun k => ?_) (h4 fr K S N pos 0 r hr)
      rw [lex_scanner_piece.f, if_pos (by omega), Int.toNat_natCast]
    by_cases hj : j < s.size
    · obtain ⟨hb, h35⟩ := h3 hj
      obtain ⟨t, ok, ix, e, n, L1, ht, hok, hno⟩ := tokF s j hj hb h35
      cases ok
      · obtain rfl := hno rfl
        exact ⟨([], (j : Int), 5), Ev.step (fun k => by rw [lex_All.l0]) (Ev.bind (pf _ (L1 fr K S N pos)) (Ev.congr (f := fun _ => some (([] : List S34), (j : Int), (5 : Int))) (fun _ => rfl) (Ev.now _))), .inr ⟨by show (5 : Int) ≠ 0; decide, rfl, by show (j : Int) ≤ _; omega⟩⟩
      · obtain ⟨gt, rfl, n1, n2, rfl⟩ := hok rfl
        obtain ⟨f0, f1, f2, f3⟩ := t
        simp only at ht
        subst ht
        obtain ⟨R, e1, e2⟩ := ih (s.size - (j + n)) (by omega) (j + n) (toks ++ [(⟨f0, f1, f2, (j : Int)⟩ : S34)]) (j : Int) f0 f1 f2 (j : Int) (by omega) (by rw [List.length_append]; simp only [List.length_singleton]; omega)
          (fun x hx => by
            rw [List.mem_append, List.mem_singleton] at hx
            rcases hx with hx | rfl
            · obtain ⟨a, b, c⟩ := hg x hx
              exact ⟨a, b, by omega⟩
            · exact ⟨gt, by show (0 : Int) ≤ (j : Int); omega, by show (j : Int) < ((j + n : Nat) : Int); omega⟩)
          (by
            rw [List.pairwise_append]
            refine ⟨hp, List.pairwise_singleton _ _, fun a ha b hb => ?_⟩
            rw [List.mem_singleton] at hb
            subst hb
            have := (hg a ha).2.2
            show a.f3 < (j : Int)
            omega)
        refine ⟨R, Ev.step (fun k => by rw [lex_All.l0]) (Ev.bind (pf _ (L1 fr K S N pos)) (Ev.congr (fun k => ?_) e1)), e2⟩
        rw [if_pos rfl, if_pos (by omega)]
    · obtain rfl : j = s.size := by omega
      exact ⟨(toks, (s.size : Int), 0), Ev.step (fun k => by rw [lex_All.l0]) (Ev.bind (pf (false, s, (s.size : Int), fr, K, S, N, pos, 0) (Ev.step (fun k => by rw [lex_scanner_piece.l0, if_neg hj]) (Ev.now _))) (Ev.congr (f := fun _ => some (toks, (s.size : Int), (0 : Int))) (fun _ => rfl) (Ev.now _))),
        .inl ⟨rfl, by show toks.length ≤ _; omega, fun t ht => by
          obtain ⟨a, b, c⟩ := hg t ht
          exact ⟨a, b, by omega⟩, hp⟩⟩
theorem all_scanned (s : ByteArray) (hz : s.size ≤ 65537) : ∃ R, Ev (fun k => lex_All.f k s) R ∧ Scanned s R := by
  by_cases h : (s.size : Int) > 65536
  · exact ⟨([], 0, 7), Ev.congr (f := fun _ => some (([] : List S34), (0 : Int), (7 : Int))) (fun k => by unfold lex_All.f; rw [if_pos h]) (Ev.now _), .inr ⟨by show (7 : Int) ≠ 0; decide, rfl, by show (0 : Int) ≤ _; omega⟩⟩
  · obtain ⟨R, e1, e2⟩ := scanF s hz s.size 0 [] 0 0 ⟨#[]⟩ 0 0 (by omega) (Nat.le_refl _) (fun _ h => absurd h (by simp)) List.Pairwise.nil
    exact ⟨R, Ev.congr (fun k => by unfold lex_All.f; rw [if_neg h]; rfl) e1, e2⟩
theorem all_rescan (out : ByteArray) (ts : List S34) (hz : out.size ≤ 65536) (hg : ∀ t ∈ ts, GoodTok t) (h : out.data.toList = catText ts) : Ev (fun k => lex_All.f k out) (reloc 0 ts, (out.size : Int), 0) := by
  have := rescan out (by omega) ts 0 0 [] 0 0 ⟨#[]⟩ 0 0 hg (Nat.zero_le _) (Nat.zero_le _) (Nat.le_refl _) (fun _ _ _ _ _ _ h => h) (by rw [List.drop_zero]; exact h)
  exact Ev.congr (fun k => by unfold lex_All.f; rw [if_neg (by omega)]; rfl) this
theorem refKw (s : ByteArray) : gramaryeref02_Keyword.f s = some (Plus.isKw s) := by
  unfold gramaryeref02_Keyword.f Plus.isKw
  obtain ⟨h1, h2, h3, h4⟩ := kwLists
  rw [h1, h2, h3, h4]
  have bc : ∀ a b : List UInt8, (a == b) = (b == a) := fun a b => Bool.eq_iff_iff.2 (by rw [beq_iff_eq, beq_iff_eq]; exact eq_comm)
  by_cases a : s.toList = [103, 114, 97, 109, 109, 97, 114]
  · rw [if_pos a, a]; rfl
  · rw [if_neg a, bc _ s.toList, beq_eq_false_iff_ne.2 a]
    by_cases b : s.toList = [108, 111, 111, 107]
    · rw [if_pos b, b]; rfl
    · rw [if_neg b, bc _ s.toList, beq_eq_false_iff_ne.2 b]
      by_cases c : s.toList = [115, 121, 110, 99]
      · rw [if_pos c, c]; rfl
      · rw [if_neg c, bc _ s.toList, beq_eq_false_iff_ne.2 c, bc _ s.toList]; rfl
theorem dig_l0 (s : ByteArray) (hs : s.size ≤ 65537) : ∀ (d i : Nat) (acc : Int), i + d = s.size →
    ∃ v e w b, (e = 0 ∨ e = 5) ∧ Ev (fun k => digit_Parse.l0 k s acc (s.size : Int) i) (v, e) ∧ Ev (fun k => gramaryebase_Whole.l0 k s acc i) (w, b) ∧
      (if b = true then (if w > 2147483647 then (some (0, 5)) else (some (w, 0))) else (some (0, 5))) = some ((v, e) : Int × Int) := by
  intro d
  induction d with
  | zero =>
    intro i acc hi
    obtain rfl : i = s.size := by omega
    have hn : ¬ (s.size : Int) < (s.size : Int) := by omega
    by_cases h : acc > 2147483647
    · exact ⟨0, 5, acc, true, .inr rfl, Ev.step (fun k => by rw [digit_Parse.l0, if_neg hn, if_pos h]) (Ev.now _), Ev.step (fun k => by rw [gramaryebase_Whole.l0, if_neg hn]) (Ev.now _), by rw [if_pos rfl, if_pos h]⟩
    · exact ⟨acc, 0, acc, true, .inl rfl, Ev.step (fun k => by rw [digit_Parse.l0, if_neg hn, if_neg h]) (Ev.now _), Ev.step (fun k => by rw [gramaryebase_Whole.l0, if_neg hn]) (Ev.now _), by rw [if_pos rfl, if_neg h]⟩
  | succ d ih =>
    intro i acc hi
    have hlt : (i : Int) < (s.size : Int) := by omega
    have h0 : 0 ≤ (i : Int) := by omega
    have hw : wrap64 ((i : Int) + 1) = ((i + 1 : Nat) : Int) := by rw [wrap_id (by omega)]; rfl
    by_cases h1 : bt s i < 48
    · exact ⟨0, 5, 0, false, .inr rfl, Ev.step (fun k => by rw [digit_Parse.l0, if_pos hlt, if_pos h0, if_pos hlt, if_pos h1]) (Ev.now _), Ev.step (fun k => by rw [gramaryebase_Whole.l0, if_pos hlt, if_pos h0, if_pos h1]) (Ev.now _), rfl⟩
    by_cases h2 : bt s i > 57
    · exact ⟨0, 5, 0, false, .inr rfl, Ev.step (fun k => by rw [digit_Parse.l0, if_pos hlt, if_pos h0, if_pos hlt, if_neg h1, if_pos h2]) (Ev.now _), Ev.step (fun k => by rw [gramaryebase_Whole.l0, if_pos hlt, if_pos h0, if_neg h1, if_pos h2]) (Ev.now _), rfl⟩
    obtain ⟨v, e, w, b, he, e1, e2, e3⟩ := ih (i + 1) (wrap64 (wrap64 (acc * 10) + ((bt s i - 48) % 256))) (by omega)
    refine ⟨v, e, w, b, he, Ev.step (fun k => by rw [digit_Parse.l0, if_pos hlt, if_pos h0, if_pos hlt, if_neg h1, if_neg h2, hw]) e1, Ev.step (fun k => by rw [gramaryebase_Whole.l0, if_pos hlt, if_pos h0, if_neg h1, if_neg h2, hw, Int.mul_comm 10 acc]) e2, e3⟩
/-- The reader of numbers and the reference's agree. -/
theorem parse_same (s : ByteArray) (hs : s.size ≤ 65537) : ∃ v e : Int, (e = 0 ∨ e = 5) ∧ Ev (fun k => digit_Parse.f k s) (v, e) ∧ Ev (fun k => gramaryeref03_Parse.f k s) (v, e) := by
  have fin : ∀ (w : Int) (b : Bool) (v e : Int), (if b = true then (if w > 2147483647 then (some (0, 5)) else (some (w, 0))) else (some (0, 5))) = some ((v, e) : Int × Int) → Ev (fun k => gramaryebase_Whole.f k s 10) (w, b) → Ev (fun k => gramaryeref03_Parse.f k s) (v, e) := by
    intro w b v e h1 h2
    unfold gramaryeref03_Parse.f
    exact Ev.bind h2 (Ev.const h1)
  have bad : Ev (fun k => digit_Parse.j0 k s true) (0, 5) := Ev.step (fun k => by rw [digit_Parse.j0, if_pos rfl]) (Ev.now _)
  have badW : Ev (fun k => gramaryebase_Whole.j0 k s true) (0, false) := Ev.step (fun k => by rw [gramaryebase_Whole.j0, if_pos rfl]) (Ev.now _)
  have nil : s.toList = ([] : List UInt8) ↔ s.size = 0 := by rw [Lib.toList_data, ← size_list, List.length_eq_zero_iff]
  by_cases h0 : s.size = 0
  · refine ⟨0, 5, .inr rfl, Ev.congr (fun k => by rw [digit_Parse.f, if_pos (by omega)]) bad, fin 0 false 0 5 rfl (Ev.congr (fun k => by rw [gramaryebase_Whole.f, if_pos (nil.2 h0)]) badW)⟩
  have n0 : ¬ (s.size : Int) = 0 := by omega
  have n0' : ¬ s.toList = ([] : List UInt8) := fun h => h0 (nil.1 h)
  by_cases h1 : (s.size : Int) > 10
  · refine ⟨0, 5, .inr rfl, Ev.congr (fun k => by rw [digit_Parse.f, if_neg n0, if_pos h1]) bad, fin 0 false 0 5 rfl (Ev.congr (fun k => by rw [gramaryebase_Whole.f, if_neg n0', if_pos h1]) badW)⟩
  have good : ∃ v e : Int, (e = 0 ∨ e = 5) ∧ Ev (fun k => digit_Parse.j0 k s false) (v, e) ∧ ∃ w b, Ev (fun k => gramaryebase_Whole.j0 k s false) (w, b) ∧ (if b = true then (if w > 2147483647 then (some (0, 5)) else (some (w, 0))) else (some (0, 5))) = some ((v, e) : Int × Int) := by
    obtain ⟨v, e, w, b, he, e1, e2, e3⟩ := dig_l0 s hs s.size 0 0 (by omega)
    exact ⟨v, e, he, Ev.step (fun k => by rw [digit_Parse.j0, if_neg (by decide)]; rfl) e1, w, b, Ev.step (fun k => by rw [gramaryebase_Whole.j0, if_neg (by decide)]; rfl) e2, e3⟩
  obtain ⟨v, e, he, e1, w, b, e2, e3⟩ := good
  by_cases h2 : (s.size : Int) > 1
  · have hp : 0 < (s.size : Int) := by omega
    cases h3 : (bt s 0 == 48)
    · exact ⟨v, e, he, Ev.congr (fun k => by rw [digit_Parse.f, if_neg n0, if_neg h1, if_pos h2, if_pos hp, h3]) e1, fin w b v e e3 (Ev.congr (fun k => by rw [gramaryebase_Whole.f, if_neg n0', if_neg h1, if_pos h2, if_pos hp, h3]) e2)⟩
    · exact ⟨0, 5, .inr rfl, Ev.congr (fun k => by rw [digit_Parse.f, if_neg n0, if_neg h1, if_pos h2, if_pos hp, h3]) bad, fin 0 false 0 5 rfl (Ev.congr (fun k => by rw [gramaryebase_Whole.f, if_neg n0', if_neg h1, if_pos h2, if_pos hp, h3]) badW)⟩
  · exact ⟨v, e, he, Ev.congr (fun k => by rw [digit_Parse.f, if_neg n0, if_neg h1, if_neg h2]) e1, fin w b v e e3 (Ev.congr (fun k => by rw [gramaryebase_Whole.f, if_neg n0', if_neg h1, if_neg h2]) e2)⟩
def flagB (m : Int) (c : Int) : Bool := if m = 1 then inW c else lex_scanner_piece.num c
def stopB (m : Int) (c : Int) : Bool := if m = 2 then inC c else flagB m c
theorem span_j2 (s : ByteArray) (i m x7 c : Int) (k : Nat) : gramaryeref04_span.j2 (k + 1) s i m x7 c (lex_scanner_piece.num c) (flagB m c) = if stopB m c = true then gramaryeref04_span.l0 k s i m (wrap64 (x7 + 1)) else some x7 := by
  rw [gramaryeref04_span.j2]
  unfold stopB
  by_cases hm : m = 2
  · rw [if_pos hm, if_pos hm]
    unfold inC lex_scanner_piece.great
    cases lex_scanner_piece.num c
    · rw [if_neg (by decide)]
      by_cases h5 : c = 95
      · subst h5; rw [if_pos rfl, if_pos (by decide)]
      · rw [if_neg h5, beq_eq_false_iff_ne.2 h5]
        by_cases h1 : c ≥ 65
        · rw [if_pos h1]
          by_cases h2 : c ≤ 90
          · rw [if_pos h2, if_pos (by simp [h1, h2])]
          · rw [if_neg h2, if_neg (by simp [h2])]
        · rw [if_neg h1, if_neg (by simp [h1])]
    · rw [if_pos rfl, if_pos (by simp)]
  · rw [if_neg hm, if_neg hm]
theorem span_j1 (s : ByteArray) (i m x7 c : Int) (k : Nat) : gramaryeref04_span.j1 (k + 1) s i m x7 c (lex_scanner_piece.num c) = gramaryeref04_span.j2 k s i m x7 c (lex_scanner_piece.num c) (flagB m c) := by
  rw [gramaryeref04_span.j1]
  unfold flagB
  by_cases hm : m = 1
  · rw [if_pos hm, if_pos hm]
    unfold inW lex_scanner_piece.small
    cases lex_scanner_piece.num c
    · rw [if_neg (by decide)]
      by_cases h5 : c = 95
      · subst h5; rw [if_pos rfl]; rfl
      · rw [if_neg h5, beq_eq_false_iff_ne.2 h5]
        by_cases h1 : c ≥ 97
        · rw [if_pos h1]; simp [h1]
        · rw [if_neg h1]; simp [h1]
    · rw [if_pos rfl]; simp
  · rw [if_neg hm, if_neg hm]
theorem span_run (s : ByteArray) (hs : s.size ≤ 65537) (m : Int) (i : Nat) : ∀ (d j : Nat), i ≤ j → j + d = s.size → Ev (fun k => gramaryeref04_span.l0 k s i m ((j : Int) - i)) ((runN (stopB m) s d j : Int) - i) := by
  intro d
  induction d with
  | zero =>
    intro j hij hj
    have hw : wrap64 ((i : Int) + ((j : Int) - i)) = j := by rw [wrap_id (by omega)]; omega
    exact Ev.step (fun k => by rw [gramaryeref04_span.l0, hw, if_neg (by omega)]) (Ev.now ((j : Int) - i))
  | succ d ih =>
    intro j hij hj
    have hw : wrap64 ((i : Int) + ((j : Int) - i)) = j := by rw [wrap_id (by omega)]; omega
    have hw2 : wrap64 ((j : Int) - i + 1) = ((j + 1 : Nat) : Int) - i := by rw [wrap_id (by omega)]; omega
    have h1 : (j : Int) < (s.size : Int) := by omega
    have h2 : 0 ≤ (j : Int) := by omega
    have hn : ∀ k, (if bt s j ≥ 48 then gramaryeref04_span.j1 k s i m ((j : Int) - i) (bt s j) (decide (bt s j ≤ 57)) else gramaryeref04_span.j1 k s i m ((j : Int) - i) (bt s j) false) = gramaryeref04_span.j1 k s i m ((j : Int) - i) (bt s j) (lex_scanner_piece.num (bt s j)) := fun k => by
      unfold lex_scanner_piece.num
      by_cases h : bt s j ≥ 48
      · rw [if_pos h]; simp [h]
      · rw [if_neg h]; simp [h]
    refine Ev.step (fun k => by rw [gramaryeref04_span.l0, hw, if_pos h1, if_pos h2, hn]) ?_
    refine Ev.step (fun k => span_j1 s i m _ _ k) ?_
    refine Ev.step (fun k => span_j2 s i m _ _ k) ?_
    rw [hw2]
    cases hp : stopB m (bt s j)
    · simp only [runN, hp]
      exact Ev.now _
    · simp only [runN, hp, if_true]
      exact ih (j + 1) (by omega) (by omega)
theorem span_ev (s : ByteArray) (hs : s.size ≤ 65537) (m : Int) (i d : Nat) (h : i + d = s.size) : Ev (fun k => gramaryeref04_span.f k s i m) ((runN (stopB m) s d i : Int) - i) := by
  have := span_run s hs m i d i (Nat.le_refl _) h
  rw [Int.sub_self] at this
  exact this
theorem stop1 : stopB 1 = inW := by funext c; unfold stopB flagB; rfl
theorem stop2 : stopB 2 = inC := by funext c; unfold stopB; rfl
theorem stop3 : stopB 3 = lex_scanner_piece.num := by funext c; unfold stopB flagB; rfl
theorem all_flag (s : ByteArray) (toks : List S34) (i : Nat) (k : Nat) (h : i < s.size) : gramaryeref04_All.l0 (k + 1) s toks i = gramaryeref04_All.j1 k s toks i (bt s i) (lex_scanner_piece.blank (bt s i)) := by
  rw [gramaryeref04_All.l0, if_pos (by omega), if_pos (by omega)]
  unfold lex_scanner_piece.blank
  by_cases h1 : bt s i = 32
  · rw [if_pos h1, h1]; rfl
  · rw [if_neg h1, beq_eq_false_iff_ne.2 h1]
    by_cases h2 : bt s i = 9
    · rw [if_pos h2, h2]; rfl
    · rw [if_neg h2, beq_eq_false_iff_ne.2 h2]
      by_cases h3 : bt s i = 10
      · rw [if_pos h3, h3]; rfl
      · rw [if_neg h3, beq_eq_false_iff_ne.2 h3]; rfl
theorem cmt (s : ByteArray) (hs : s.size ≤ 65537) : ∀ (d i : Nat), i + d = s.size → ∃ j, i ≤ j ∧ j ≤ s.size ∧ (j < s.size → bt s j = 10) ∧
    (∀ fr K S N pos err r, Ev (fun k => lex_scanner_piece.l0 k s j fr K S N pos err) r → Ev (fun k => lex_scanner_piece.l1 k s i fr K S N pos err) r) ∧
    (∀ toks R, Ev (fun k => gramaryeref04_All.l0 k s toks j) R → Ev (fun k => gramaryeref04_All.l1 k s toks i) R) := by
  intro d
  induction d with
  | zero =>
    intro i hi
    exact ⟨i, Nat.le_refl _, by omega, fun h => by omega, fun _ _ _ _ _ _ _ h => Ev.step (fun k => by rw [lex_scanner_piece.l1, if_neg (by omega)]) h, fun _ _ h => Ev.step (fun k => by rw [gramaryeref04_All.l1, if_neg (by omega)]) h⟩
  | succ d ih =>
    intro i hi
    by_cases hc : bt s i = 10
    · exact ⟨i, Nat.le_refl _, by omega, fun _ => hc, fun _ _ _ _ _ _ _ h => Ev.step (fun k => by rw [lex_scanner_piece.l1, if_pos (by omega), if_pos hc]) h, fun _ _ h => Ev.step (fun k => by rw [gramaryeref04_All.l1, if_pos (by omega), if_pos (by omega), if_pos hc]) h⟩
    · obtain ⟨j, h1, h2, h3, h4, h5⟩ := ih (i + 1) (by omega)
      have hw : wrap64 ((i : Int) + 1) = ((i + 1 : Nat) : Int) := by rw [wrap_id (by omega)]; rfl
      exact ⟨j, by omega, h2, h3, fun _ _ _ _ _ _ _ h => Ev.step (fun k => by rw [lex_scanner_piece.l1, if_pos (by omega), if_neg hc]) (h4 _ _ _ _ _ _ _ h), fun _ _ h => Ev.step (fun k => by rw [gramaryeref04_All.l1, if_pos (by omega), if_pos (by omega), if_neg hc, hw]) (h5 _ _ h)⟩
theorem skip (s : ByteArray) (hs : s.size ≤ 65537) : ∀ (d i : Nat), i + d = s.size → ∃ j, i ≤ j ∧ j ≤ s.size ∧ (j < s.size → lex_scanner_piece.blank (bt s j) = false ∧ bt s j ≠ 35) ∧
    (∀ fr K S N pos err r, Ev (fun k => lex_scanner_piece.l0 k s j fr K S N pos err) r → Ev (fun k => lex_scanner_piece.l0 k s i fr K S N pos err) r) ∧
    (∀ toks R, Ev (fun k => gramaryeref04_All.l0 k s toks j) R → Ev (fun k => gramaryeref04_All.l0 k s toks i) R) := by
  intro d
  induction d using Nat.strongRecOn with
  | _ d ih =>
    intro i hi
    by_cases hd : d = 0
    · exact ⟨i, Nat.le_refl _, by omega, fun h => by omega, fun _ _ _ _ _ _ _ h => h, fun _ _ h => h⟩
    cases hb : lex_scanner_piece.blank (bt s i)
    · by_cases hc : bt s i = 35
      · obtain ⟨j, h1, h2, h3, h4, h5⟩ := cmt s hs d i hi
        have hj : j ≠ i := fun e => by
          subst e
          have := h3 (by omega)
          omega
        obtain ⟨j', g1, g2, g3, g4, g5⟩ := ih (s.size - j) (by omega) j (by omega)
        refine ⟨j', by omega, g2, g3, fun _ _ _ _ _ _ _ h => Ev.step (fun k => by rw [lex_scanner_piece.l0, if_pos (by omega), hb, if_neg (by decide), if_pos hc]) (h4 _ _ _ _ _ _ _ (g4 _ _ _ _ _ _ _ h)), fun _ _ h => Ev.step (fun k => all_flag s _ i k (by omega)) (Ev.step (fun k => by rw [hb, gramaryeref04_All.j1, if_neg (by decide), if_pos hc]) (h5 _ _ (g5 _ _ h)))⟩
      · exact ⟨i, Nat.le_refl _, by omega, fun _ => ⟨hb, hc⟩, fun _ _ _ _ _ _ _ h => h, fun _ _ h => h⟩
    · obtain ⟨j, h1, h2, h3, h4, h5⟩ := ih (d - 1) (by omega) (i + 1) (by omega)
      have hw : wrap64 ((i : Int) + 1) = ((i + 1 : Nat) : Int) := by rw [wrap_id (by omega)]; rfl
      exact ⟨j, by omega, h2, h3, fun _ _ _ _ _ _ _ h => Ev.step (fun k => by rw [lex_scanner_piece.l0, if_pos (by omega), hb, if_pos rfl]) (h4 _ _ _ _ _ _ _ h), fun _ _ h => Ev.step (fun k => all_flag s _ i k (by omega)) (Ev.step (fun k => by rw [hb, gramaryeref04_All.j1, if_pos rfl, hw]) (h5 _ _ h))⟩
theorem one_flag (s : ByteArray) (i : Nat) (k : Nat) (h : i < s.size) : gramaryeref04_one.f k s i = gramaryeref04_one.j0 k s i (bt s i) (lex_scanner_piece.small (bt s i)) 0 (⟨#[]⟩ : ByteArray) 0 i := by
  unfold gramaryeref04_one.f lex_scanner_piece.small
  rw [if_pos (by omega), if_pos (by omega)]
  by_cases h1 : bt s i ≥ 97
  · rw [if_pos h1]; simp [h1]
  · rw [if_neg h1]; simp [h1]
theorem one_j0 (s : ByteArray) (i : Nat) (k : Nat) (c a b d : Int) (t : ByteArray) : gramaryeref04_one.j0 (k + 1) s i c false a t b d = gramaryeref04_one.j1 k s i c (lex_scanner_piece.great c) a t b d := by
  rw [gramaryeref04_one.j0, if_neg (by decide)]
  unfold lex_scanner_piece.great
  by_cases h1 : c ≥ 65
  · rw [if_pos h1]; simp [h1]
  · rw [if_neg h1]; simp [h1]
theorem one_j1 (s : ByteArray) (i : Nat) (k : Nat) (c a b d : Int) (t : ByteArray) : gramaryeref04_one.j1 (k + 1) s i c false a t b d = gramaryeref04_one.j2 k s i c (lex_scanner_piece.num c) a t b d := by
  rw [gramaryeref04_one.j1, if_neg (by decide)]
  unfold lex_scanner_piece.num
  by_cases h1 : c ≥ 48
  · rw [if_pos h1]; simp [h1]
  · rw [if_neg h1]; simp [h1]
theorem sign_ev (c : Int) (h : 0 ≤ c ∧ c < 256) : Ev (fun k => gramaryeref04_sign.f k c) (lex_scanner_piece.sign c) := by
  have key : ∀ c : Fin 256, gramaryeref04_sign.f 20 (c.val : Int) = some (lex_scanner_piece.sign (c.val : Int)) := by decide +kernel
  have := key ⟨c.toNat, by omega⟩
  have e : ((⟨c.toNat, by omega⟩ : Fin 256).val : Int) = c := by show ((c.toNat : Nat) : Int) = c; omega
  rw [e] at this
  exact Ev.of (gramaryeref04_sign.mono c) this
/-- What both say of the piece that begins at a place. -/
def TokAt (s : ByteArray) (i : Nat) : Prop :=
  ∃ (kind : Int) (text : ByteArray) (num : Int) (n : Nat) (ok : Bool) (ix K' : Int) (S' : ByteArray) (N' e : Int), 1 ≤ n ∧ i + n ≤ s.size ∧
    (ok = true → ix = ((i + n : Nat) : Int) ∧ K' = kind ∧ S' = text ∧ N' = num ∧ e = 0) ∧ (ok = false → e = 5) ∧
    Ev (fun k => gramaryeref04_one.f k s i) (kind, text, num, (i : Int), (n : Int), ok) ∧
    ∀ (fr K : Int) (S : ByteArray) (N pos : Int), Ev (fun k => lex_scanner_piece.l0 k s i fr K S N pos 0) (ok, s, ix, (i : Int), K', S', N', (i : Int), e)
theorem tok_word (s : ByteArray) (hz : s.size ≤ 65537) (i : Nat) (h : i < s.size) (hb : lex_scanner_piece.blank (bt s i) = false) (h35 : bt s i ≠ 35) (hs : lex_scanner_piece.small (bt s i) = true) : TokAt s i := by
  obtain ⟨d, hd⟩ : ∃ d, i + 1 + d = s.size := ⟨s.size - i - 1, by omega⟩
  obtain ⟨e, he⟩ : ∃ e, e = runN inW s d (i + 1) := ⟨_, rfl⟩
  have b := runN_bds inW s d (i + 1)
  rw [← he] at b
  have hi : inW (bt s i) = true := by unfold inW; rw [hs]; rfl
  have sp := span_ev s hz 1 i (d + 1) (by omega)
  rw [stop1, runN, if_pos hi, ← he] at sp
  have hw : wrap64 ((i : Int) + ((e : Int) - i)) = e := by rw [wrap_id (by omega)]; omega
  have hn : ((e - i : Nat) : Int) = (e : Int) - i := by omega
  have hx : (s.extract i e).size = e - i := extract_size' (by omega) (by omega)
  have nm := named_ev s i e 2 (by omega) (by omega)
  have L := fun r hr => lex_word s i d hd hb h35 hs r (by rw [← he]; exact hr)
  have R : Ev (fun k => gramaryeref04_one.f k s i) ((if Plus.isKw (s.extract i e) = true then 1 else 2), s.extract i e, 0, (i : Int), (e : Int) - i, decide ((e : Int) - i ≤ 20)) := by
    refine Ev.congr (fun k => one_flag s i k h) ?_
    rw [hs]
    refine Ev.step (fun k => by rw [gramaryeref04_one.j0, if_pos rfl]) (Ev.bind sp (Ev.const ?_))
    rw [hw, if_pos (by omega), if_pos (by omega), if_pos (by omega), Int.toNat_natCast, Int.toNat_natCast, refKw]
    cases Plus.isKw (s.extract i e) <;> rfl
  cases hk : Plus.isKw (s.extract i e)
  · rw [hk, if_neg (by decide)] at R nm
    by_cases h20 : (s.extract i e).size > 20
    · rw [if_pos h20] at nm
      rw [decide_eq_false (by omega)] at R
      exact ⟨2, s.extract i e, 0, e - i, false, e, 2, s.extract i e, 0, 5, by omega, by omega, fun h => absurd h (by decide), fun _ => rfl, by rw [hn]; exact R, L _ nm⟩
    · rw [if_neg h20] at nm
      rw [decide_eq_true (by omega)] at R
      exact ⟨2, s.extract i e, 0, e - i, true, e, 2, s.extract i e, 0, 0, by omega, by omega, fun _ => ⟨by omega, rfl, rfl, rfl, rfl⟩, fun h => absurd h (by decide), by rw [hn]; exact R, L _ nm⟩
  · rw [hk, if_pos rfl] at R nm
    have := (kw_cases _ hk).1
    rw [decide_eq_true (by omega)] at R
    exact ⟨1, s.extract i e, 0, e - i, true, e, 1, s.extract i e, 0, 0, by omega, by omega, fun _ => ⟨by omega, rfl, rfl, rfl, rfl⟩, fun h => absurd h (by decide), by rw [hn]; exact R, L _ nm⟩
theorem tok_caps (s : ByteArray) (hz : s.size ≤ 65537) (i : Nat) (h : i < s.size) (hb : lex_scanner_piece.blank (bt s i) = false) (h35 : bt s i ≠ 35) (hs : lex_scanner_piece.small (bt s i) = false) (hg : lex_scanner_piece.great (bt s i) = true) : TokAt s i := by
  obtain ⟨d, hd⟩ : ∃ d, i + 1 + d = s.size := ⟨s.size - i - 1, by omega⟩
  obtain ⟨e, he⟩ : ∃ e, e = runN inC s d (i + 1) := ⟨_, rfl⟩
  have b := runN_bds inC s d (i + 1)
  rw [← he] at b
  have hi : inC (bt s i) = true := by unfold inC; rw [hg]; rfl
  have sp := span_ev s hz 2 i (d + 1) (by omega)
  rw [stop2, runN, if_pos hi, ← he] at sp
  have hw : wrap64 ((i : Int) + ((e : Int) - i)) = e := by rw [wrap_id (by omega)]; omega
  have hn : ((e - i : Nat) : Int) = (e : Int) - i := by omega
  have hx : (s.extract i e).size = e - i := extract_size' (by omega) (by omega)
  have nm := named_ev s i e 3 (by omega) (by omega)
  have L := fun r hr => lex_caps s i d hd hb h35 hs hg r (by rw [← he]; exact hr)
  have R : Ev (fun k => gramaryeref04_one.f k s i) (3, s.extract i e, 0, (i : Int), (e : Int) - i, decide ((e : Int) - i ≤ 20)) := by
    refine Ev.congr (fun k => one_flag s i k h) ?_
    rw [hs]
    refine Ev.step (fun k => one_j0 s i k _ _ _ _ _) ?_
    rw [hg]
    refine Ev.step (fun k => by rw [gramaryeref04_one.j1, if_pos rfl]) (Ev.bind sp (Ev.const ?_))
    rw [hw, if_pos (by omega), if_pos (by omega), if_pos (by omega), Int.toNat_natCast, Int.toNat_natCast]
  have hk : Plus.isKw (s.extract i e) = false := by
    cases hk : Plus.isKw (s.extract i e)
    · rfl
    · have := (kw_cases _ hk).2
      rw [bt_extract s i e (by omega) (by omega)] at this
      unfold lex_scanner_piece.great at hg
      rw [Bool.and_eq_true, decide_eq_true_eq, decide_eq_true_eq] at hg
      omega
  rw [hk, if_neg (by decide)] at nm
  by_cases h20 : (s.extract i e).size > 20
  · rw [if_pos h20] at nm
    rw [decide_eq_false (by omega)] at R
    exact ⟨3, s.extract i e, 0, e - i, false, e, 3, s.extract i e, 0, 5, by omega, by omega, fun h => absurd h (by decide), fun _ => rfl, by rw [hn]; exact R, L _ nm⟩
  · rw [if_neg h20] at nm
    rw [decide_eq_true (by omega)] at R
    exact ⟨3, s.extract i e, 0, e - i, true, e, 3, s.extract i e, 0, 0, by omega, by omega, fun _ => ⟨by omega, rfl, rfl, rfl, rfl⟩, fun h => absurd h (by decide), by rw [hn]; exact R, L _ nm⟩
theorem tok_num (s : ByteArray) (hz : s.size ≤ 65537) (i : Nat) (h : i < s.size) (hb : lex_scanner_piece.blank (bt s i) = false) (h35 : bt s i ≠ 35) (hs : lex_scanner_piece.small (bt s i) = false) (hg : lex_scanner_piece.great (bt s i) = false) (hu : lex_scanner_piece.num (bt s i) = true) : TokAt s i := by
  obtain ⟨d, hd⟩ : ∃ d, i + 1 + d = s.size := ⟨s.size - i - 1, by omega⟩
  obtain ⟨e, he⟩ : ∃ e, e = runN lex_scanner_piece.num s d (i + 1) := ⟨_, rfl⟩
  have b := runN_bds lex_scanner_piece.num s d (i + 1)
  rw [← he] at b
  have sp := span_ev s hz 3 i (d + 1) (by omega)
  rw [stop3, runN, if_pos hu, ← he] at sp
  have hw : wrap64 ((i : Int) + ((e : Int) - i)) = e := by rw [wrap_id (by omega)]; omega
  have hn : ((e - i : Nat) : Int) = (e : Int) - i := by omega
  have hx : (s.extract i e).size = e - i := extract_size' (by omega) (by omega)
  obtain ⟨v, er, her, p1, p2⟩ := parse_same (s.extract i e) (by omega)
  have L := fun (fr K : Int) (S : ByteArray) (N pos : Int) => (Ev.step (g := fun k => lex_scanner_piece.l0 k s i fr K S N pos 0) (fun k => by rw [lex_scanner_piece.l0, if_pos h, hb, if_neg (by decide), if_neg h35, hs, if_neg (by decide), hg, if_neg (by decide), hu, if_pos rfl]) (nums_l4 s i 0 v er d i hd (by rw [← he]; exact p1)))
  rw [← he] at L
  have R : Ev (fun k => gramaryeref04_one.f k s i) (4, ⟨#[]⟩, v, (i : Int), (e : Int) - i, er == 0) := by
    refine Ev.congr (fun k => one_flag s i k h) ?_
    rw [hs]
    refine Ev.step (fun k => one_j0 s i k _ _ _ _ _) ?_
    rw [hg]
    refine Ev.step (fun k => one_j1 s i k _ _ _ _ _) ?_
    rw [hu]
    refine Ev.step (fun k => by rw [gramaryeref04_one.j2, if_pos rfl]) (Ev.bind sp (Ev.congr (f := fun k => (gramaryeref03_Parse.f k (s.extract i e)).bind fun bt122 => some (4, (⟨#[]⟩ : ByteArray), bt122.1, (i : Int), (e : Int) - i, bt122.2 == 0)) (fun k => ?_) (Ev.bind p2 (Ev.now _))))
    rw [hw, if_pos (by omega), if_pos (by omega), if_pos (by omega), Int.toNat_natCast, Int.toNat_natCast]
  rcases her with rfl | rfl
  · exact ⟨4, ⟨#[]⟩, v, e - i, true, e, 4, ⟨#[]⟩, v, 0, by omega, by omega, fun _ => ⟨by omega, rfl, rfl, rfl, rfl⟩, fun h => absurd h (by decide), by rw [hn]; exact R, L⟩
  · exact ⟨4, ⟨#[]⟩, v, e - i, false, e, 4, ⟨#[]⟩, v, 5, by omega, by omega, fun h => absurd h (by decide), fun _ => rfl, by rw [hn]; exact R, L⟩
theorem tok_sign (s : ByteArray) (hz : s.size ≤ 65537) (i : Nat) (h : i < s.size) (hb : lex_scanner_piece.blank (bt s i) = false) (h35 : bt s i ≠ 35) (hs : lex_scanner_piece.small (bt s i) = false) (hg : lex_scanner_piece.great (bt s i) = false) (hu : lex_scanner_piece.num (bt s i) = false) : TokAt s i := by
  have hw : wrap64 ((i : Int) + 1) = ((i + 1 : Nat) : Int) := by rw [wrap_id (by omega)]; rfl
  have R : Ev (fun k => gramaryeref04_one.f k s i) (5, s.extract i (i + 1), 0, (i : Int), 1, lex_scanner_piece.sign (bt s i)) := by
    refine Ev.congr (fun k => one_flag s i k h) ?_
    rw [hs]
    refine Ev.step (fun k => one_j0 s i k _ _ _ _ _) ?_
    rw [hg]
    refine Ev.step (fun k => one_j1 s i k _ _ _ _ _) ?_
    rw [hu]
    refine Ev.step (fun k => by rw [gramaryeref04_one.j2, if_neg (by decide), hw, if_pos (by omega), if_pos (by omega), if_pos (by omega), Int.toNat_natCast, Int.toNat_natCast]) (Ev.bind (sign_ev (bt s i) (bt_lt s i)) (Ev.now _))
  have L := lex_sign s i h hb h35 hs hg hu
  cases hsg : lex_scanner_piece.sign (bt s i)
  · rw [hsg] at R L
    exact ⟨5, s.extract i (i + 1), 0, 1, false, i, 0, ⟨#[]⟩, 0, 5, by omega, by omega, fun h => absurd h (by decide), fun _ => rfl, R, L⟩
  · rw [hsg] at R L
    exact ⟨5, s.extract i (i + 1), 0, 1, true, (i : Int) + 1, 5, s.extract i (i + 1), 0, 0, by omega, by omega, fun _ => ⟨rfl, rfl, rfl, rfl, rfl⟩, fun h => absurd h (by decide), R, L⟩
theorem tok (s : ByteArray) (hz : s.size ≤ 65537) (i : Nat) (h : i < s.size) (hb : lex_scanner_piece.blank (bt s i) = false) (h35 : bt s i ≠ 35) : TokAt s i := by
  cases hs : lex_scanner_piece.small (bt s i)
  · cases hg : lex_scanner_piece.great (bt s i)
    · cases hu : lex_scanner_piece.num (bt s i)
      · exact tok_sign s hz i h hb h35 hs hg hu
      · exact tok_num s hz i h hb h35 hs hg hu
    · exact tok_caps s hz i h hb h35 hs hg
  · exact tok_word s hz i h hb h35 hs
theorem scan_same (s : ByteArray) (hz : s.size ≤ 65537) : ∀ (d i : Nat) (toks : List S34) (fr K : Int) (S : ByteArray) (N pos : Int), i + d = s.size → toks.length ≤ i →
    ∃ R : (List S34) × Int × Int, R.1.length ≤ s.size ∧ Ev (fun k => lex_All.l0 k s toks s i fr K S N pos 0) R ∧ Ev (fun k => gramaryeref04_All.l0 k s toks i) R := by
  intro d
  induction d using Nat.strongRecOn with
  | _ d ih =>
    intro i toks fr K S N pos hi hl
    obtain ⟨j, h1, h2, h3, h4, h5⟩ := skip s hz d i hi
    have pf : ∀ r, Ev (fun k => lex_scanner_piece.l0 k s j fr K S N pos 0) r → Ev (fun k => lex_scanner_piece.f k s i fr K S N pos 0) r := fun r hr => by
      refine Ev.congr (fun k => ?_) (h4 fr K S N pos 0 r hr)
      rw [lex_scanner_piece.f, if_pos (by omega), Int.toNat_natCast]
    by_cases hj : j < s.size
    · obtain ⟨hb, h35⟩ := h3 hj
      obtain ⟨kind, text, num, n, ok, ix, K', S', N', e, n1, n2, hok, hno, R1, L1⟩ := tok s hz j hj hb h35
      have refd : ∀ R, Ev (fun k => (gramaryeref04_one.f k s j).bind fun bt128 => (if bt128.2.2.2.2.2 = true then (if toks.length < 3518437208883 then (gramaryeref04_All.l0 k s (toks ++ [(⟨bt128.1, bt128.2.1, bt128.2.2.1, bt128.2.2.2.1⟩ : S34)]) (wrap64 ((j : Int) + bt128.2.2.2.2.1))) else (none)) else (some (([] : List (S34)), (j : Int), 5)))) R → Ev (fun k => gramaryeref04_All.l0 k s toks i) R := fun R hR =>
        h5 _ _ (Ev.step (fun k => all_flag s _ j k hj) (Ev.step (fun k => by rw [hb, gramaryeref04_All.j1, if_neg (by decide), if_neg h35]) hR))
      cases ok
      · obtain rfl := hno rfl
        exact ⟨([], (j : Int), 5), Nat.zero_le _, Ev.step (fun k => by rw [lex_All.l0]) (Ev.bind (pf _ (L1 fr K S N pos)) (Ev.congr (f := fun _ => some (([] : List S34), (j : Int), (5 : Int))) (fun _ => rfl) (Ev.now _))), refd _ (Ev.bind R1 (Ev.congr (f := fun _ => some (([] : List S34), (j : Int), (5 : Int))) (fun _ => rfl) (Ev.now _)))⟩
      · obtain ⟨rfl, rfl, rfl, rfl, rfl⟩ := hok rfl
        have hw : wrap64 ((j : Int) + (n : Int)) = ((j + n : Nat) : Int) := by rw [wrap_id (by omega)]; omega
        obtain ⟨R, e0, e1, e2⟩ := ih (s.size - (j + n)) (by omega) (j + n) (toks ++ [(⟨K', S', N', (j : Int)⟩ : S34)]) (j : Int) K' S' N' (j : Int) (by omega) (by rw [List.length_append]; simp only [List.length_singleton]; omega)
        refine ⟨R, e0, Ev.step (fun k => by rw [lex_All.l0]) (Ev.bind (pf _ (L1 fr K S N pos)) (Ev.congr (fun k => ?_) e1)), refd _ (Ev.bind R1 (Ev.congr (fun k => ?_) e2))⟩
        · rw [if_pos rfl, if_pos (by omega)]
        · rw [if_pos rfl, if_pos (by omega), hw]
    · obtain rfl : j = s.size := by omega
      refine ⟨(toks, (s.size : Int), 0), (by show toks.length ≤ s.size; omega), Ev.step (fun k => by rw [lex_All.l0]) (Ev.bind (pf (false, s, (s.size : Int), fr, K, S, N, pos, 0) (Ev.step (fun k => by rw [lex_scanner_piece.l0, if_neg hj]) (Ev.now _))) (Ev.congr (f := fun _ => some (toks, (s.size : Int), (0 : Int))) (fun _ => rfl) (Ev.now _))), h5 _ _ (Ev.step (fun k => by rw [gramaryeref04_All.l0, if_neg (by omega)]) (Ev.now _))⟩
/-- The scanner and the reference's say the same of every text. -/
theorem all_same (s : ByteArray) (hz : s.size ≤ 65537) : ∃ R, R.1.length ≤ s.size ∧ Ev (fun k => lex_All.f k s) R ∧ Ev (fun k => gramaryeref04_All.f k s) R := by
  by_cases h : (s.size : Int) > 65536
  · exact ⟨([], 0, 7), Nat.zero_le _, Ev.congr (f := fun _ => some (([] : List S34), (0 : Int), (7 : Int))) (fun k => by unfold lex_All.f; rw [if_pos h]) (Ev.now _), Ev.congr (f := fun _ => some (([] : List S34), (0 : Int), (7 : Int))) (fun k => by unfold gramaryeref04_All.f; rw [if_pos h]) (Ev.now _)⟩
  · obtain ⟨R, e0, e1, e2⟩ := scan_same s hz s.size 0 [] 0 0 ⟨#[]⟩ 0 0 (by omega) (Nat.le_refl _)
    exact ⟨R, e0, Ev.congr (fun k => by unfold lex_All.f; rw [if_neg h]; rfl) e1, Ev.congr (fun k => by unfold gramaryeref04_All.f; rw [if_neg h]; rfl) e2⟩
theorem ev_uniq {α : Type} {f : Nat → Option α} {a b : α} (h : Ev f a) (g : Ev f b) : a = b := by
  obtain ⟨N, h⟩ := h
  obtain ⟨M, g⟩ := g
  exact Option.some.inj ((h (N + M) (Nat.le_add_right _ _)).symm.trans (g (N + M) (Nat.le_add_left _ _)))
theorem LexReads : gramaryelaw04_LexReads.Pure := by
  intro a0 a1 l2 h0 h1 h2 h3
  obtain ⟨t, ht, hz⟩ := short_le a0
  refine Ev.rounds (g := fun k => gramaryelaw04_LexReads.f k a0 a1 l2) ?_
  unfold gramaryelaw04_LexReads.f
  refine Ev.bind0 ht ?_
  obtain ⟨R, e0, e1, e2⟩ := all_same t hz
  obtain ⟨R', g1, g2⟩ := all_scanned t hz
  obtain rfl := ev_uniq e1 g1
  have hgood : ∀ x ∈ R.1, x.f1.size ≤ 1000000 := fun x hx => by
    rcases g2 with ⟨_, _, h, _⟩ | ⟨_, h, _⟩
    · rcases (h x hx).1 with ⟨_, h, _⟩ | ⟨_, _, h, _⟩
      · rw [h]; exact Nat.zero_le _
      · omega
    · rw [h] at hx; exact nomatch hx
  refine Ev.bind e2 (Ev.bind0 (a := R.1) ?_ ?_)
  · unfold api_Token.f
    rw [if_pos (by omega)]
  · exact Ev.ite_pos hgood works_ev

end Go.Proofs.YtpfeebmfihgelaaDoor.Pure
