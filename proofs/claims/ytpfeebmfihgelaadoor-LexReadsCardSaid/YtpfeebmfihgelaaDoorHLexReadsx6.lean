-- Written by plus.py for this claim.
import Derived.Test.YtpfeebmfihgelaaDoorHLexReadsx0
import Derived.Test.YtpfeebmfihgelaaDoorHLexReadsx5
namespace Go.Proofs.YtpfeebmfihgelaaDoor.HLexReads
open Go.RowKit Go.Proofs.YtpfeebmfihgelaaDoorW.PrintWords Go.Proofs.YtpfeebmfihgelaaDoorW.PrintLast Go.Proofs.YtpfeebmfihgelaaDoorW.PrintMore
attribute [local go_sem] max2_int min2_int max_two min_two max_three min_three max_four min_four   -- for this text's walks alone
set_option linter.unusedVariables false
set_option linter.unusedSimpArgs false

/-! SPLIT -/
/-! ### lex_scanner_piece: function 76 -/
abbrev lex_scanner_piece.R := Bool × ByteArray × Int × Int × Int × ByteArray × Int × Int × Int
def lex_scanner_piece.blank (c : Int) : Bool := c == 32 || c == 9 || c == 10 || c == 13
def lex_scanner_piece.small (c : Int) : Bool := decide (97 ≤ c) && decide (c ≤ 122)
def lex_scanner_piece.great (c : Int) : Bool := decide (65 ≤ c) && decide (c ≤ 90)
def lex_scanner_piece.num (c : Int) : Bool := decide (48 ≤ c) && decide (c ≤ 57)
def lex_scanner_piece.sign (c : Int) : Bool := decide (0 ≤ Lib.indexByte (⟨#[58, 59, 124, 40, 41, 63, 42, 43, 61, 44]⟩ : ByteArray).data.toList c.toNat.toUInt8)
mutual
def lex_scanner_piece.l0 : Nat → ByteArray → Nat → Int → Int → ByteArray → Int → Int → Int → Option lex_scanner_piece.R
  | 0, _, _, _, _, _, _, _, _ => none
  | k + 1, s, at_, fr, K, S, N, pos, err => if at_ < s.size then (if lex_scanner_piece.blank (bt s at_) = true then lex_scanner_piece.l0 k s (at_ + 1) fr K S N pos err else if bt s at_ = 35 then lex_scanner_piece.l1 k s at_ fr K S N pos err else if lex_scanner_piece.small (bt s at_) = true then lex_scanner_piece.l2 k s at_ at_ err else if lex_scanner_piece.great (bt s at_) = true then lex_scanner_piece.l3 k s at_ at_ err else if lex_scanner_piece.num (bt s at_) = true then lex_scanner_piece.l4 k s at_ at_ err else if lex_scanner_piece.sign (bt s at_) = true then some (true, s, (at_ : Int) + 1, (at_ : Int), 5, s.extract at_ (at_ + 1), 0, (at_ : Int), err) else some (false, s, (at_ : Int), (at_ : Int), 0, ⟨#[]⟩, 0, (at_ : Int), 5)) else some (false, s, (at_ : Int), fr, K, S, N, pos, err)
def lex_scanner_piece.l1 : Nat → ByteArray → Nat → Int → Int → ByteArray → Int → Int → Int → Option lex_scanner_piece.R
  | 0, _, _, _, _, _, _, _, _ => none
  | k + 1, s, at_, fr, K, S, N, pos, err => if at_ < s.size then (if bt s at_ = 10 then lex_scanner_piece.l0 k s at_ fr K S N pos err else lex_scanner_piece.l1 k s (at_ + 1) fr K S N pos err) else lex_scanner_piece.l0 k s at_ fr K S N pos err
def lex_scanner_piece.l2 : Nat → ByteArray → Nat → Nat → Int → Option lex_scanner_piece.R
  | 0, _, _, _, _ => none
  | k + 1, s, at_, fr, err => if at_ + 1 < s.size then (if (lex_scanner_piece.small (bt s ((at_ : Int) + 1)) || lex_scanner_piece.num (bt s ((at_ : Int) + 1)) || bt s ((at_ : Int) + 1) == 95) = true then lex_scanner_piece.l2 k s (at_ + 1) fr err else lex_scanner_named.f s ((at_ : Int) + 1) (fr : Int) 2 ⟨#[]⟩ 0 (fr : Int) err) else lex_scanner_named.f s ((at_ : Int) + 1) (fr : Int) 2 ⟨#[]⟩ 0 (fr : Int) err
def lex_scanner_piece.l3 : Nat → ByteArray → Nat → Nat → Int → Option lex_scanner_piece.R
  | 0, _, _, _, _ => none
  | k + 1, s, at_, fr, err => if at_ + 1 < s.size then (if (lex_scanner_piece.great (bt s ((at_ : Int) + 1)) || lex_scanner_piece.num (bt s ((at_ : Int) + 1)) || bt s ((at_ : Int) + 1) == 95) = true then lex_scanner_piece.l3 k s (at_ + 1) fr err else lex_scanner_named.f s ((at_ : Int) + 1) (fr : Int) 3 ⟨#[]⟩ 0 (fr : Int) err) else lex_scanner_named.f s ((at_ : Int) + 1) (fr : Int) 3 ⟨#[]⟩ 0 (fr : Int) err
def lex_scanner_piece.l4 : Nat → ByteArray → Nat → Nat → Int → Option lex_scanner_piece.R
  | 0, _, _, _, _ => none
  | k + 1, s, at_, fr, err => if at_ + 1 < s.size then (if lex_scanner_piece.num (bt s ((at_ : Int) + 1)) = true then lex_scanner_piece.l4 k s (at_ + 1) fr err else (digit_Parse.f k (s.extract fr (at_ + 1))).bind fun v => some (v.2 == 0, s, ((at_ : Int) + 1), (fr : Int), 4, ⟨#[]⟩, v.1, (fr : Int), v.2)) else (digit_Parse.f k (s.extract fr (at_ + 1))).bind fun v => some (v.2 == 0, s, ((at_ : Int) + 1), (fr : Int), 4, ⟨#[]⟩, v.1, (fr : Int), v.2)
end
def lex_scanner_piece.f (k : Nat) (s0_0 : ByteArray) (s0_1 s0_2 s0_3 : Int) (s0_4 : ByteArray) (s0_5 s0_6 s0_7 : Int) : Option lex_scanner_piece.R := if 0 ≤ s0_1 ∧ s0_1 ≤ (s0_0.size : Int) ∧ s0_0.size ≤ 140737488355328 then lex_scanner_piece.l0 k s0_0 s0_1.toNat s0_2 s0_3 s0_4 s0_5 s0_6 s0_7 else none
theorem lex_scanner_piece.mono_l : ∀ k, (∀ y0 y1 y2 y3 y4 y5 y6 y7, LeO (lex_scanner_piece.l0 k y0 y1 y2 y3 y4 y5 y6 y7) (lex_scanner_piece.l0 (k + 1) y0 y1 y2 y3 y4 y5 y6 y7)) ∧ (∀ y0 y1 y2 y3 y4 y5 y6 y7, LeO (lex_scanner_piece.l1 k y0 y1 y2 y3 y4 y5 y6 y7) (lex_scanner_piece.l1 (k + 1) y0 y1 y2 y3 y4 y5 y6 y7)) ∧ (∀ y0 y1 y2 y3, LeO (lex_scanner_piece.l2 k y0 y1 y2 y3) (lex_scanner_piece.l2 (k + 1) y0 y1 y2 y3)) ∧ (∀ y0 y1 y2 y3, LeO (lex_scanner_piece.l3 k y0 y1 y2 y3) (lex_scanner_piece.l3 (k + 1) y0 y1 y2 y3)) ∧ (∀ y0 y1 y2 y3, LeO (lex_scanner_piece.l4 k y0 y1 y2 y3) (lex_scanner_piece.l4 (k + 1) y0 y1 y2 y3))
  | 0 => ⟨fun _ _ _ _ _ _ _ _ r h => by simp [lex_scanner_piece.l0] at h, fun _ _ _ _ _ _ _ _ r h => by simp [lex_scanner_piece.l1] at h, fun _ _ _ _ r h => by simp [lex_scanner_piece.l2] at h, fun _ _ _ _ r h => by simp [lex_scanner_piece.l3] at h, fun _ _ _ _ r h => by simp [lex_scanner_piece.l4] at h⟩
  | k + 1 => by
    obtain ⟨ih0, ih1, ih2, ih3, ih4⟩ := lex_scanner_piece.mono_l k
    refine ⟨?_, ?_, ?_, ?_, ?_⟩
    · intro y0 y1 y2 y3 y4 y5 y6 y7
      unfold lex_scanner_piece.l0
      exact LeO.ite (LeO.ite (ih0 _ _ _ _ _ _ _ _) (LeO.ite (ih1 _ _ _ _ _ _ _ _) (LeO.ite (ih2 _ _ _ _) (LeO.ite (ih3 _ _ _ _) (LeO.ite (ih4 _ _ _ _) (LeO.refl _)))))) (LeO.refl _)
    · intro y0 y1 y2 y3 y4 y5 y6 y7
      unfold lex_scanner_piece.l1
      exact LeO.ite (LeO.ite (ih0 _ _ _ _ _ _ _ _) (ih1 _ _ _ _ _ _ _ _)) (ih0 _ _ _ _ _ _ _ _)
    · intro y0 y1 y2 y3
      unfold lex_scanner_piece.l2
      exact LeO.ite (LeO.ite (ih2 _ _ _ _) (LeO.refl _)) (LeO.refl _)
    · intro y0 y1 y2 y3
      unfold lex_scanner_piece.l3
      exact LeO.ite (LeO.ite (ih3 _ _ _ _) (LeO.refl _)) (LeO.refl _)
    · intro y0 y1 y2 y3
      unfold lex_scanner_piece.l4
      exact LeO.ite (LeO.ite (ih4 _ _ _ _) (LeO.bind (digit_Parse.mono _ _) (fun _ => LeO.refl _))) (LeO.bind (digit_Parse.mono _ _) (fun _ => LeO.refl _))
theorem lex_scanner_piece.mono : ∀ a0 a1 a2 a3 a4 a5 a6 a7 k, LeO (lex_scanner_piece.f k a0 a1 a2 a3 a4 a5 a6 a7) (lex_scanner_piece.f (k + 1) a0 a1 a2 a3 a4 a5 a6 a7) := by
  intro a0 a1 a2 a3 a4 a5 a6 a7 k
  unfold lex_scanner_piece.f
  exact LeO.ite ((lex_scanner_piece.mono_l k).1 _ _ _ _ _ _ _ _) (LeO.refl _)
theorem lex_scanner_piece.blank_f (c : Int) : lex_blank.f c = some (lex_scanner_piece.blank c) := by
  unfold lex_blank.f lex_scanner_piece.blank
  by_cases h1 : c = 32 <;> by_cases h2 : c = 9 <;> by_cases h3 : c = 10 <;> simp [h1, h2, h3]
theorem lex_scanner_piece.small_f (c : Int) : lex_small.f c = some (lex_scanner_piece.small c) := by
  unfold lex_small.f lex_scanner_piece.small
  by_cases h1 : c ≥ 97 <;> simp [h1]
theorem lex_scanner_piece.great_f (c : Int) : lex_great.f c = some (lex_scanner_piece.great c) := by
  unfold lex_great.f lex_scanner_piece.great
  by_cases h1 : c ≥ 65 <;> simp [h1]
theorem lex_scanner_piece.num_f (c : Int) : lex_num.f c = some (lex_scanner_piece.num c) := by
  unfold lex_num.f lex_scanner_piece.num
  by_cases h1 : c ≥ 48 <;> simp [h1]
set_option maxRecDepth 100000 in
theorem lex_scanner_piece.next_end (g : Nat) (s : ByteArray) (at_ : Nat) (W : World) (hc_0 : W.cell? ⟨g, 0, none⟩ = some (.string s)) (hc_1 : W.cell? ⟨g, 1, none⟩ = some (.int .i64 at_)) (h : ¬ at_ < s.size) :
    Calls Tryd.prog 95 #[.pointer (some ⟨g, 0, none⟩)] W fun e w' => e = .returned (.tuple #[.int .u8 0, .bool false]) ∧ Drawn0 W w' := by
  have t1 : decide (s.size ≤ at_) = true := decide_eq_true (by omega)
  have t2 : decide ((s.size : Int) ≤ (at_ : Int)) = true := decide_eq_true (by omega)
  clear h
  go_enter Tryd.func95, Tryd.ntmps95
  go_wp2
  repeat (go_quiet (fail); try go_wp2)
  go_ret2
  exact ⟨rfl, by repeat (first | exact Drawn0.refl _ | apply Drawn0.step)⟩
set_option maxRecDepth 100000 in
theorem lex_scanner_piece.next_more (g : Nat) (s : ByteArray) (at_ : Nat) (W : World) (hc_0 : W.cell? ⟨g, 0, none⟩ = some (.string s)) (hc_1 : W.cell? ⟨g, 1, none⟩ = some (.int .i64 at_)) (h : at_ < s.size) :
    Calls Tryd.prog 95 #[.pointer (some ⟨g, 0, none⟩)] W fun e w' => e = .returned (.tuple #[.int .u8 (bt s at_), .bool true]) ∧ Drawn0 W w' := by
  have t1 : decide (s.size ≤ at_) = false := decide_eq_false (by omega)
  have t2 : decide ((s.size : Int) ≤ (at_ : Int)) = false := decide_eq_false (by omega)
  have hx : ((s[at_]'h).toNat : Int) = bt s at_ := by rw [← bt_at s (at_ : Int) (by simpa using h)]; rfl
  go_enter Tryd.func95, Tryd.ntmps95
  go_wp2
  repeat (go_quiet (fail); try go_wp2)
  go_ret2
  exact ⟨rfl, by repeat (first | exact Drawn0.refl _ | apply Drawn0.step)⟩
theorem lex_scanner_piece.next_more2 (g : Nat) (s : ByteArray) (n : Nat) (ai c : Int) (W : World) (hai : ai = (n : Int)) (hbt : bt s ai = c) (h : n < s.size) (hc_0 : W.cell? ⟨g, 0, none⟩ = some (.string s)) (hc_1 : W.cell? ⟨g, 1, none⟩ = some (.int .i64 ai)) :
    Calls Tryd.prog 95 #[.pointer (some ⟨g, 0, none⟩)] W fun e w' => e = .returned (.tuple #[.int .u8 c, .bool true]) ∧ Drawn0 W w' := by
  subst hai hbt; exact lex_scanner_piece.next_more g s n W hc_0 hc_1 h
theorem lex_scanner_piece.next_end2 (g : Nat) (s : ByteArray) (n : Nat) (ai : Int) (W : World) (hai : ai = (n : Int)) (h : ¬ n < s.size) (hc_0 : W.cell? ⟨g, 0, none⟩ = some (.string s)) (hc_1 : W.cell? ⟨g, 1, none⟩ = some (.int .i64 ai)) :
    Calls Tryd.prog 95 #[.pointer (some ⟨g, 0, none⟩)] W fun e w' => e = .returned (.tuple #[.int .u8 0, .bool false]) ∧ Drawn0 W w' := by
  subst hai; exact lex_scanner_piece.next_end g s n W hc_0 hc_1 h
def lex_scanner_piece.frame (g : Nat) (f : Nat → Value) : Act := { tmps := List.toArray (.pointer (some ⟨g, 0, none⟩) :: f 1 :: f 2 :: f 3 :: f 4 :: f 5 :: f 6 :: f 7 :: f 8 :: f 9 :: f 10 :: f 11 :: f 12 :: f 13 :: f 14 :: f 15 :: f 16 :: f 17 :: f 18 :: f 19 :: f 20 :: f 21 :: f 22 :: f 23 :: f 24 :: f 25 :: f 26 :: f 27 :: f 28 :: f 29 :: f 30 :: f 31 :: f 32 :: f 33 :: f 34 :: f 35 :: f 36 :: f 37 :: f 38 :: f 39 :: f 40 :: f 41 :: f 42 :: f 43 :: f 44 :: f 45 :: f 46 :: f 47 :: f 48 :: f 49 :: f 50 :: f 51 :: f 52 :: f 53 :: f 54 :: f 55 :: f 56 :: f 57 :: f 58 :: f 59 :: f 60 :: f 61 :: f 62 :: f 63 :: f 64 :: f 65 :: f 66 :: f 67 :: f 68 :: f 69 :: f 70 :: f 71 :: f 72 :: f 73 :: f 74 :: f 75 :: f 76 :: f 77 :: f 78 :: f 79 :: f 80 :: f 81 :: f 82 :: f 83 :: f 84 :: f 85 :: f 86 :: f 87 :: f 88 :: f 89 :: f 90 :: f 91 :: f 92 :: f 93 :: f 94 :: f 95 :: f 96 :: f 97 :: f 98 :: f 99 :: f 100 :: f 101 :: f 102 :: f 103 :: f 104 :: f 105 :: f 106 :: f 107 :: f 108 :: f 109 :: f 110 :: f 111 :: f 112 :: f 113 :: f 114 :: f 115 :: f 116 :: f 117 :: f 118 :: f 119 :: f 120 :: f 121 :: f 122 :: f 123 :: f 124 :: f 125 :: f 126 :: f 127 :: f 128 :: f 129 :: f 130 :: f 131 :: f 132 :: f 133 :: f 134 :: f 135 :: f 136 :: f 137 :: f 138 :: f 139 :: f 140 :: f 141 :: f 142 :: f 143 :: f 144 :: f 145 :: f 146 :: f 147 :: f 148 :: f 149 :: f 150 :: f 151 :: f 152 :: f 153 :: f 154 :: f 155 :: f 156 :: f 157 :: f 158 :: f 159 :: f 160 :: f 161 :: f 162 :: f 163 :: f 164 :: f 165 :: f 166 :: f 167 :: f 168 :: f 169 :: f 170 :: f 171 :: f 172 :: f 173 :: f 174 :: f 175 :: f 176 :: f 177 :: f 178 :: f 179 :: f 180 :: f 181 :: f 182 :: f 183 :: f 184 :: f 185 :: f 186 :: f 187 :: f 188 :: f 189 :: f 190 :: f 191 :: f 192 :: f 193 :: f 194 :: f 195 :: f 196 :: f 197 :: f 198 :: f 199 :: f 200 :: f 201 :: f 202 :: f 203 :: f 204 :: f 205 :: f 206 :: f 207 :: f 208 :: f 209 :: f 210 :: f 211 :: f 212 :: f 213 :: []), defers := [] }
theorem lex_scanner_piece.frame_of (g : Nat) (a : Act) (h : a = lex_scanner_piece.frame g (fun i => a.tmps.getD i undef)) : ∃ f, a = lex_scanner_piece.frame g f := ⟨_, h⟩
/-- What holds at a label: the frame, the scanner, and what the rest comes to. -/
structure lex_scanner_piece.J (g : Nat) (w0 w : World) (r : lex_scanner_piece.R) (s : ByteArray) (at_ : Nat) (fr K : Int) (S : ByteArray) (N pos err : Int) (a' : Act) (w' : World) : Prop where
  frm : ∃ f : Nat → Value, a' = lex_scanner_piece.frame g f
  isS : ∃ ai : Int, ai = (at_ : Int) ∧ IsS122 w0 w' g s ai fr K S N pos err
  bel : Below w0.heap.size w0 w'
  kept : KeepBut w w' g none
  le : at_ ≤ s.size
  big : s.size ≤ 140737488355328
def lex_scanner_piece.JJ (g : Nat) (w0 w : World) (r : lex_scanner_piece.R) (k l : Nat) (a' : Act) (w' : World) : Prop :=
  ∃ (s : ByteArray) (at_ : Nat) (fr K : Int) (S : ByteArray) (N pos err : Int), lex_scanner_piece.J g w0 w r s at_ fr K S N pos err a' w' ∧
    ((l = 0 ∧ lex_scanner_piece.l0 k s at_ fr K S N pos err = some r) ∨ (l = 1 ∧ lex_scanner_piece.l1 k s at_ fr K S N pos err = some r) ∨
     (∃ fn : Nat, fr = fn ∧ K = 0 ∧ S = ⟨#[]⟩ ∧ N = 0 ∧ pos = fn ∧ fn ≤ at_ ∧ at_ < s.size ∧ ((l = 2 ∧ lex_scanner_piece.l2 k s at_ fn err = some r) ∨ (l = 3 ∧ lex_scanner_piece.l3 k s at_ fn err = some r) ∨ (l = 4 ∧ lex_scanner_piece.l4 k s at_ fn err = some r))))
def lex_scanner_piece.post (g : Nat) (w0 w : World) (r : lex_scanner_piece.R) : Ending → World → Prop := fun e w' => e = .returned (.bool r.1) ∧ IsS122 w0 w' g r.2.1 r.2.2.1 r.2.2.2.1 r.2.2.2.2.1 r.2.2.2.2.2.1 r.2.2.2.2.2.2.1 r.2.2.2.2.2.2.2.1 r.2.2.2.2.2.2.2.2 ∧ Below w0.heap.size w0 w' ∧ KeepBut w w' g none
abbrev lex_scanner_piece.Q (g : Nat) (w0 w : World) (r : lex_scanner_piece.R) (k : Nat) : Exit → Act → World → Prop := Plus.jumps (fun l' a' w' => ∃ k', k' < k ∧ lex_scanner_piece.JJ g w0 w r k' l' a' w') (bodyPost Tryd.prog Tryd.f76 (lex_scanner_piece.post g w0 w r))
noncomputable def lex_scanner_piece.c : Code := match Tryd.f76.body with
  | some (.seq _ (.scope c)) => c
  | _ => .skip
end Go.Proofs.YtpfeebmfihgelaaDoor.HLexReads
