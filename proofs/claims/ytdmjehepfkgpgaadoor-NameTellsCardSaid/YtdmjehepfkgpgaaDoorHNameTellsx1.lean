-- Written by plus.py for this claim.
import Derived.Test.YtdmjehepfkgpgaaDoorHNameTellsx0
namespace Go.Proofs.YtdmjehepfkgpgaaDoor.HNameTells
open Go.RowKit Go.Proofs.YtdmjehepfkgpgaaDoorW.PrintWords Go.Proofs.YtdmjehepfkgpgaaDoorW.PrintLast Go.Proofs.YtdmjehepfkgpgaaDoorW.PrintMore
attribute [local go_sem] max2_int min2_int max_two min_two max_three min_three max_four min_four   -- for this text's walks alone
set_option linter.unusedVariables false
set_option linter.unusedSimpArgs false

/-- What the package variables hold that are read. -/
def GL (w : World) : Prop := Plus.Glob Tryd.prog w "gramarye/name.keywords" Plus.kwCells ∧ Plus.Glob Tryd.prog w "internal/strconv.uint64pow10" Plus.powCells
theorem GL.keywords {w : World} (h : GL w) : Plus.Glob Tryd.prog w "gramarye/name.keywords" Plus.kwCells := h.1
theorem GL.pow10 {w : World} (h : GL w) : Plus.Glob Tryd.prog w "internal/strconv.uint64pow10" Plus.powCells := h.2
theorem GL.below {w W : World} (h : GL w) (k : Below w.heap.size w W) : GL W := ⟨Plus.Glob.below (h.1) (by kernel_rfl : Tryd.prog.globalNamed "gramarye/name.keywords" = some 0) k, Plus.Glob.below (h.2) (by kernel_rfl : Tryd.prog.globalNamed "internal/strconv.uint64pow10" = some 2) k⟩

/-! ### name_great: function 49 -/
def name_great.f (a0 : Int) : Option (Bool) := if a0 ≥ 65 then (some (decide (a0 ≤ 90))) else (some false)
set_option maxHeartbeats 8000000 in
set_option maxRecDepth 100000 in
theorem name_great.calls (a0 : Int) (r : Bool) (w : World) (h : name_great.f a0 = some r) :
    Calls Tryd.prog 49 #[.int .u8 a0] w fun e w' => e = .returned (.bool r) ∧ Drawn0 w w' := by
  have H : (if a0 ≥ 65 then (some (decide (a0 ≤ 90))) else (some false)) = some r := h
  clear h
  by_cases c2 : a0 ≥ 65
  · rw [if_pos c2] at H
    have c2b0 : decide (65 ≤ a0) = true := decide_eq_true c2
    clear c2
    obtain rfl := Option.some.inj H
    go_enter Tryd.func49, Tryd.ntmps49
    go_wp2
    go_ret
    exact ⟨by first | rfl | (simp; done) | (simp [*]; done), by repeat (first | exact Drawn0.refl _ | apply Drawn0.step)⟩
  · rw [if_neg c2] at H
    have c2b0 : decide (65 ≤ a0) = false := decide_eq_false c2
    clear c2
    obtain rfl := Option.some.inj H
    go_enter Tryd.func49, Tryd.ntmps49
    go_wp2
    go_ret
    exact ⟨by first | rfl | (simp; done) | (simp [*]; done), by repeat (first | exact Drawn0.refl _ | apply Drawn0.step)⟩

/-! ### name_rest: function 72 -/
def name_rest.f (a0 : Int) : Option (Bool) := if a0 = 95 then (some true) else (if a0 ≥ 48 then (some (decide (a0 ≤ 57))) else (some false))
set_option maxHeartbeats 8000000 in
set_option maxRecDepth 100000 in
theorem name_rest.calls (a0 : Int) (r : Bool) (w : World) (h : name_rest.f a0 = some r) :
    Calls Tryd.prog 72 #[.int .u8 a0] w fun e w' => e = .returned (.bool r) ∧ Drawn0 w w' := by
  have H : (if a0 = 95 then (some true) else (if a0 ≥ 48 then (some (decide (a0 ≤ 57))) else (some false))) = some r := h
  clear h
  by_cases c2 : a0 = 95
  · rw [if_pos c2] at H
    have c2b0 : (a0 == 95) = true := beq_iff_eq.mpr c2
    have c2b1 : (a0 != 95) = false := bne_eq_false_iff_eq.mpr c2
    clear c2
    obtain rfl := Option.some.inj H
    go_enter Tryd.func72, Tryd.ntmps72
    go_wp2
    go_ret
    exact ⟨by first | rfl | (simp; done) | (simp [*]; done), by repeat (first | exact Drawn0.refl _ | apply Drawn0.step)⟩
  · rw [if_neg c2] at H
    have c2b0 : (a0 == 95) = false := beq_eq_false_iff_ne.mpr c2
    have c2b1 : (a0 != 95) = true := bne_iff_ne.mpr c2
    by_cases c3 : a0 ≥ 48
    · rw [if_pos c3] at H
      have c3b0 : decide (48 ≤ a0) = true := decide_eq_true c3
      clear c3
      obtain rfl := Option.some.inj H
      go_enter Tryd.func72, Tryd.ntmps72
      go_wp2
      go_ret
      exact ⟨by first | rfl | (simp; done) | (simp [*]; done), by repeat (first | exact Drawn0.refl _ | apply Drawn0.step)⟩
    · rw [if_neg c3] at H
      have c3b0 : decide (48 ≤ a0) = false := decide_eq_false c3
      clear c3
      obtain rfl := Option.some.inj H
      go_enter Tryd.func72, Tryd.ntmps72
      go_wp2
      go_ret
      exact ⟨by first | rfl | (simp; done) | (simp [*]; done), by repeat (first | exact Drawn0.refl _ | apply Drawn0.step)⟩

/-! ### name_Cap: function 25 -/
def name_Cap.let (c : Int) : Bool := decide (65 ≤ c) && decide (c ≤ 90)
def name_Cap.rest (c : Int) : Bool := c == 95 || decide (48 ≤ c) && decide (c ≤ 57)
def name_Cap.all (s : ByteArray) : Nat → Bool
  | 0 => true
  | n + 1 => name_Cap.all s n && (name_Cap.let (bt s n) || name_Cap.rest (bt s n))
def name_Cap.spelt (s : ByteArray) : Bool := decide (0 < s.size) && decide (s.size ≤ 20) && name_Cap.let (bt s 0) && name_Cap.all s s.size
theorem name_Cap.all_mono (s : ByteArray) (n m : Nat) (h : n ≤ m) (ha : name_Cap.all s n = false) : name_Cap.all s m = false := by
  induction m with
  | zero => obtain rfl : n = 0 := by omega
            exact ha
  | succ m ih =>
    by_cases e : n = m + 1
    · rw [← e]; exact ha
    · show (name_Cap.all s m && _) = false
      rw [ih (by omega)]; rfl
theorem name_Cap.let_calls (c : Int) (w : World) : Calls Tryd.prog 49 #[.int .u8 c] w fun e w' => e = .returned (.bool (name_Cap.let c)) ∧ Drawn0 w w' :=
  name_great.calls c _ w (by unfold name_great.f name_Cap.let; by_cases h : c ≥ 65 <;> simp [h])
theorem name_Cap.rest_calls (c : Int) (w : World) : Calls Tryd.prog 72 #[.int .u8 c] w fun e w' => e = .returned (.bool (name_Cap.rest c)) ∧ Drawn0 w w' :=
  name_rest.calls c _ w (by unfold name_rest.f name_Cap.rest; by_cases h0 : c = 95 <;> by_cases h : c ≥ 48 <;> simp [h0, h])
set_option maxRecDepth 100000 in
theorem name_Cap.spelt_calls (a0 : ByteArray) (w : World) :
    Calls Tryd.prog 48 #[.string a0, .func (.func 49) #[] #[]] w fun e w' => e = .returned (.bool (name_Cap.spelt a0)) ∧ Drawn0 w w' := by
  by_cases h0 : a0.size = 0
  · have hr : name_Cap.spelt a0 = false := by unfold name_Cap.spelt; simp [h0]
    have HR := Lib.hid hr
    clear hr
    have h0' : (((a0.size : Nat) : Int) == 0) = true := by rw [h0]; rfl
    clear h0
    go_enter Tryd.func48, Tryd.ntmps48
    go_wp2
    go_ret
    exact ⟨by rw [HR.out]; rfl, by repeat (first | exact Drawn0.refl _ | apply Drawn0.step)⟩
  have h0' : (((a0.size : Nat) : Int) == 0) = false := by simp [h0]
  by_cases h1 : a0.size ≤ 20
  · cases h2 : name_Cap.let (bt a0 0)
    · have hr : name_Cap.spelt a0 = false := by unfold name_Cap.spelt; simp [h2]
      have HR := Lib.hid hr
      have H2 := Lib.hid h2
      have p : 0 < a0.size := by omega
      have hx : ((a0[0]'p).toNat : Int) = bt a0 0 := by rw [← bt_at a0 0 p]; rfl
      have h1' : decide ((20 : Int) < (a0.size : Int)) = false := by simp; omega
      clear hr h2 h0
      go_enter Tryd.func48, Tryd.ntmps48
      go_wp2_with (go_at_call 49; refine (name_Cap.let_calls _ _).mono ?_; rintro e w' ⟨rfl, ⟨nd, rfl⟩⟩; rw [H2.out])
      go_ret
      exact ⟨by rw [HR.out]; rfl, by repeat (first | exact Drawn0.refl _ | apply Drawn0.step)⟩
    · have H2 := Lib.hid h2
      have p : 0 < a0.size := by omega
      have hx : ((a0[0]'p).toNat : Int) = bt a0 0 := by rw [← bt_at a0 0 p]; rfl
      have h1' : decide ((20 : Int) < (a0.size : Int)) = false := by simp; omega
      clear h2 h0
      go_enter Tryd.func48, Tryd.ntmps48
      go_wp2_with (go_at_call 49; refine (name_Cap.let_calls _ _).mono ?_; rintro e w' ⟨rfl, ⟨nd, rfl⟩⟩; rw [H2.out])
      clear hx
      go_loopw [23] (fun v w' => ∃ (i m : Nat), i ≤ a0.size ∧ v = .int .i64 i ∧ name_Cap.all a0 i = true ∧ w' = w.drewN m) (fun v _ => a0.size - (Plus.intOf v).toNat)
      case atStart => exact ⟨0, _, Nat.zero_le _, rfl, rfl, rfl⟩
      case round =>
        obtain ⟨i, m, hi, rfl, ha, rfl⟩ := hrel
        have HA := Lib.hid ha
        clear ha
        by_cases hlt : i < a0.size
        · have hx : ((a0[i]'hlt).toNat : Int) = bt a0 i := by rw [← bt_at a0 (i : Int) (by simpa using hlt)]; rfl
          cases h3 : name_Cap.let (bt a0 i)
          · cases h4 : name_Cap.rest (bt a0 i)
            · have hr : name_Cap.spelt a0 = false := by
                have : name_Cap.all a0 (i + 1) = false := by
                  show (name_Cap.all a0 i && _) = false
                  rw [h3, h4]; simp
                unfold name_Cap.spelt
                rw [name_Cap.all_mono a0 (i + 1) a0.size hlt this]; simp
              have HR := Lib.hid hr
              have H3 := Lib.hid h3
              have H4 := Lib.hid h4
              clear hr h3 h4
              go_wp2_with (first | (go_at_call 49; refine (name_Cap.let_calls _ _).mono ?_; rintro e w' ⟨rfl, ⟨nd, rfl⟩⟩; rw [H3.out]) | (go_at_call 72; refine (name_Cap.rest_calls _ _).mono ?_; rintro e w' ⟨rfl, ⟨nd, rfl⟩⟩; rw [H4.out]))
              go_ret
              exact ⟨by rw [HR.out]; rfl, by repeat (first | exact Drawn0.refl _ | apply Drawn0.step)⟩
            · have ha : name_Cap.all a0 (i + 1) = true := by
                show (name_Cap.all a0 i && _) = true
                rw [HA.out, h4]; simp
              have HA' := Lib.hid ha
              have H3 := Lib.hid h3
              have H4 := Lib.hid h4
              clear ha h3 h4
              go_wp2_with (first | (go_at_call 49; refine (name_Cap.let_calls _ _).mono ?_; rintro e w' ⟨rfl, ⟨nd, rfl⟩⟩; rw [H3.out]) | (go_at_call 72; refine (name_Cap.rest_calls _ _).mono ?_; rintro e w' ⟨rfl, ⟨nd, rfl⟩⟩; rw [H4.out]))
              go_roundw
              case rel => exact ⟨i + 1, _, by omega, by go_num, HA'.out, rfl⟩
              case measure => simp [Plus.intOf]; omega
          · have ha : name_Cap.all a0 (i + 1) = true := by
              show (name_Cap.all a0 i && _) = true
              rw [HA.out, h3]; simp
            have HA' := Lib.hid ha
            have H3 := Lib.hid h3
            clear ha h3
            go_wp2_with (go_at_call 49; refine (name_Cap.let_calls _ _).mono ?_; rintro e w' ⟨rfl, ⟨nd, rfl⟩⟩; rw [H3.out])
            go_roundw
            case rel => exact ⟨i + 1, _, by omega, by go_num, HA'.out, rfl⟩
            case measure => simp [Plus.intOf]; omega
        · have hr : name_Cap.spelt a0 = true := by
            have e : i = a0.size := by omega
            unfold name_Cap.spelt
            rw [← e, HA.out, H2.out]; simp; omega
          have HR := Lib.hid hr
          clear hr
          go_wp2
          go_ret
          exact ⟨by rw [HR.out]; rfl, by repeat (first | exact Drawn0.refl _ | apply Drawn0.step)⟩
  · have hr : name_Cap.spelt a0 = false := by unfold name_Cap.spelt; simp [h1]
    have HR := Lib.hid hr
    have h1' : decide ((20 : Int) < (a0.size : Int)) = true := by simp; omega
    clear hr h0
    go_enter Tryd.func48, Tryd.ntmps48
    go_wp2
    go_ret
    exact ⟨by rw [HR.out]; rfl, by repeat (first | exact Drawn0.refl _ | apply Drawn0.step)⟩
def name_Cap.f (a0 : ByteArray) : Option Bool := some (name_Cap.spelt a0)
set_option maxRecDepth 100000 in
theorem name_Cap.calls (a0 : ByteArray) (r : Bool) (w : World) (h : name_Cap.f a0 = some r) :
    Calls Tryd.prog 25 #[.string a0] w fun e w' => e = .returned (.bool r) ∧ Drawn0 w w' := by
  obtain rfl := Option.some.inj h
  clear h
  go_enter Tryd.func25, Tryd.ntmps25
  go_wp2_with (go_at_call 48; refine (name_Cap.spelt_calls _ _).mono ?_; rintro e w' ⟨rfl, ⟨nd, rfl⟩⟩)
  go_ret
  exact ⟨rfl, by repeat (first | exact Drawn0.refl _ | apply Drawn0.step)⟩

/-! ### gramaryeref02_letters: function 50 -/
mutual
def gramaryeref02_letters.j0 : Nat → ByteArray → Int → Bool → Option (Bool)
  | 0, _, _, _ => none
  | k + 1, x0, x1, x15 => if x15 = true then (some false) else (gramaryeref02_letters.l0 k x0 x1 0)
def gramaryeref02_letters.l0 : Nat → ByteArray → Int → Int → Option (Bool)
  | 0, _, _, _ => none
  | k + 1, x0, x1, x5 => if x5 < (x0.size : Int) then (if 0 ≤ x5 then (if (bt x0 x5) ≥ x1 then (if ((bt x0 x5) ≤ ((x1 + 25) % 256)) then (gramaryeref02_letters.l0 k x0 x1 (wrap64 (x5 + 1))) else (if x5 = 0 then (some false) else (if (bt x0 x5) = 95 then (gramaryeref02_letters.l0 k x0 x1 (wrap64 (x5 + 1))) else (if (bt x0 x5) < 48 then (some false) else (if (bt x0 x5) > 57 then (some false) else (gramaryeref02_letters.l0 k x0 x1 (wrap64 (x5 + 1)))))))) else (if x5 = 0 then (some false) else (if (bt x0 x5) = 95 then (gramaryeref02_letters.l0 k x0 x1 (wrap64 (x5 + 1))) else (if (bt x0 x5) < 48 then (some false) else (if (bt x0 x5) > 57 then (some false) else (gramaryeref02_letters.l0 k x0 x1 (wrap64 (x5 + 1)))))))) else (none)) else (some true)
end
def gramaryeref02_letters.f (k : Nat) (a0 : ByteArray) (a1 : Int) : Option (Bool) := if (a0.size : Int) < 1 then (gramaryeref02_letters.j0 k a0 a1 true) else (gramaryeref02_letters.j0 k a0 a1 (decide ((a0.size : Int) > 20)))
theorem gramaryeref02_letters.mono_l : ∀ k, (∀ y0 y1 y2, LeO (gramaryeref02_letters.j0 k y0 y1 y2) (gramaryeref02_letters.j0 (k + 1) y0 y1 y2)) ∧ (∀ y0 y1 y2, LeO (gramaryeref02_letters.l0 k y0 y1 y2) (gramaryeref02_letters.l0 (k + 1) y0 y1 y2))
  | 0 => ⟨fun _ _ _ r h => by simp [gramaryeref02_letters.j0] at h, fun _ _ _ r h => by simp [gramaryeref02_letters.l0] at h⟩
  | k + 1 => by
    obtain ⟨ih0, ih1⟩ := gramaryeref02_letters.mono_l k
    refine ⟨?_, ?_⟩
    · intro y0 y1 y2
      unfold gramaryeref02_letters.j0
      repeat' first
      | (with_reducible exact ih0 _ _ _)
      | (with_reducible exact ih1 _ _ _)
      | (with_reducible exact LeO.refl _)
      | (with_reducible exact LeO.none _)
      | (with_reducible refine LeO.ite ?_ ?_)
      | (with_reducible refine LeO.bind ?_ (fun _ => ?_))
      | exact ih0 _ _ _
      | exact ih1 _ _ _
      | exact LeO.none _
      | refine LeO.ite ?_ ?_
      | refine LeO.bind ?_ (fun _ => ?_)
    · intro y0 y1 y2
      unfold gramaryeref02_letters.l0
      repeat' first
      | (with_reducible exact ih0 _ _ _)
      | (with_reducible exact ih1 _ _ _)
      | (with_reducible exact LeO.refl _)
      | (with_reducible exact LeO.none _)
      | (with_reducible refine LeO.ite ?_ ?_)
      | (with_reducible refine LeO.bind ?_ (fun _ => ?_))
      | exact ih0 _ _ _
      | exact ih1 _ _ _
      | exact LeO.none _
      | refine LeO.ite ?_ ?_
      | refine LeO.bind ?_ (fun _ => ?_)
theorem gramaryeref02_letters.mono : ∀ a0 a1 k, LeO (gramaryeref02_letters.f k a0 a1) (gramaryeref02_letters.f (k + 1) a0 a1) := by
  intro a0 a1 k
  obtain ⟨ih0, ih1⟩ := gramaryeref02_letters.mono_l k
  unfold gramaryeref02_letters.f
  repeat' first
      | (with_reducible exact ih0 _ _ _)
      | (with_reducible exact ih1 _ _ _)
      | (with_reducible exact LeO.refl _)
      | (with_reducible exact LeO.none _)
      | (with_reducible refine LeO.ite ?_ ?_)
      | (with_reducible refine LeO.bind ?_ (fun _ => ?_))
      | exact ih0 _ _ _
      | exact ih1 _ _ _
      | exact LeO.none _
      | refine LeO.ite ?_ ?_
      | refine LeO.bind ?_ (fun _ => ?_)
set_option maxHeartbeats 8000000 in
set_option maxRecDepth 100000 in
theorem gramaryeref02_letters.calls (k : Nat) (a0 : ByteArray) (a1 : Int) (r : Bool) (w : World) (h : gramaryeref02_letters.f k a0 a1 = some r) :
    Calls Tryd.prog 50 #[.string a0, .int .u8 a1] w fun e w' => e = .returned (.bool r) ∧ Drawn0 w w' := by
  have H : (if (a0.size : Int) < 1 then (gramaryeref02_letters.j0 k a0 a1 true) else (gramaryeref02_letters.j0 k a0 a1 (decide ((a0.size : Int) > 20)))) = some r := h
  clear h
  have HC3 := Aside0.mk H
  clear H
  go_enter Tryd.func50, Tryd.ntmps50
  go_upto_region 1 with (fail)
  go_cut [15] (fun v15 wc => ∃ (kq : Nat) (x15_2 : Bool), v15 = .bool x15_2 ∧ Aside0 (gramaryeref02_letters.j0 kq a0 a1 x15_2 = some r) ∧ Aside0 (kq ≤ k) ∧ Drawn0 w wc)
  case first =>
    have H := HC3.out
    clear HC3
    by_cases c4 : (a0.size : Int) < 1
    · rw [if_pos c4] at H
      have c4b0 : decide ((a0.size : Int) < 1) = true := decide_eq_true c4
      have c4b1 : decide (a0.size < 1) = true := decide_eq_true (by omega)
      clear c4
      (first | rw [c4b0] | (simp only [i64_w, i32_w]; rw [c4b0]) | skip)
      have H' := Aside0.mk H
      clear H
      go_wp2
      go_meet
      case rel => exact ⟨_, (true), (by first | rfl | (simp; done) | (simp [*]; done)), H', ⟨by first | omega | exact Nat.le_refl _⟩, by repeat (first | exact Drawn0.refl _ | apply Drawn0.step)⟩
    · rw [if_neg c4] at H
      have c4b0 : decide ((a0.size : Int) < 1) = false := decide_eq_false c4
      have c4b1 : decide (a0.size < 1) = false := decide_eq_false (by omega)
      clear c4
      (first | rw [c4b0] | (simp only [i64_w, i32_w]; rw [c4b0]) | skip)
      have H' := Aside0.mk H
      clear H
      go_wp2
      go_meet
      case rel => exact ⟨_, (decide ((a0.size : Int) > 20)), (by first | rfl | (simp; done) | (simp [*]; done)), H', ⟨by first | omega | exact Nat.le_refl _⟩, by repeat (first | exact Drawn0.refl _ | apply Drawn0.step)⟩
  case rest =>
    clear HC3
    try clear p2
    try clear c4
    try clear c4b0
    try clear c4b1
    obtain ⟨kq, x15_2, rfl, HA, HJ2, ⟨mc2, rfl⟩⟩ := hcut
    cases kq with
    | zero => exact absurd HA.out (by simp [gramaryeref02_letters.j0])
    | succ kj2 =>
      have H := HA.out
      clear HA
      simp only [gramaryeref02_letters.j0] at H
      by_cases c5 : x15_2 = true
      · subst c5
        have H1 : (some false) = some r := by rw [if_pos rfl] at H; exact H
        clear H
        have H := H1
        clear H1
        obtain rfl := Option.some.inj H
        go_wp2
        go_ret
        exact ⟨by first | rfl | (simp; done) | (simp [*]; done), by repeat (first | exact Drawn0.refl _ | apply Drawn0.step)⟩
      · replace c5 := Bool.eq_false_iff.mpr c5
        subst c5
        have H1 : (gramaryeref02_letters.l0 kj2 a0 a1 0) = some r := by rw [if_neg (show ¬ (false = true) by decide)] at H; exact H
        clear H
        have H := H1
        clear H1
        have H' := Aside0.mk H
        clear H
        go_wp2
        go_loopg [5] kj2 (fun kq v5 w' => ∃ (x5_2 : Int), v5 = .int .i64 x5_2 ∧ Aside0 (gramaryeref02_letters.l0 kq a0 a1 x5_2 = some r) ∧ Aside0 (kq ≤ kj2) ∧ Drawn0 w w')
        case atStart => exact ⟨(0), (by first | rfl | (simp; done) | (simp [*]; done)), H', ⟨Nat.le_refl _⟩, by repeat (first | exact Drawn0.refl _ | apply Drawn0.step)⟩
        case round =>
          clear H'
          try clear c2
          try clear p2
          try clear c4
          try clear c4b0
          try clear c4b1
          try clear c5
          try clear p2
          obtain ⟨x5_2, rfl, HA, HK2, ⟨m2, rfl⟩⟩ := hrel
          cases gk with
          | zero => exact absurd HA.out (by simp [gramaryeref02_letters.l0])
          | succ k2 =>
            have H := HA.out
            clear HA
            simp only [gramaryeref02_letters.l0] at H
            by_cases c6 : x5_2 < (a0.size : Int)
            · rw [if_pos c6] at H
              have c6b0 : decide (x5_2 < (a0.size : Int)) = true := decide_eq_true c6
              clear c6
              by_cases c7 : 0 ≤ x5_2
              · rw [if_pos c7] at H
                have c7b0 : decide (0 ≤ x5_2) = true := decide_eq_true c7
                clear c7
                by_cases c9 : (bt a0 x5_2) ≥ a1
                · rw [if_pos c9] at H
                  have c9b0 : decide (a1 ≤ (bt a0 x5_2)) = true := decide_eq_true c9
                  clear c9
                  by_cases c10 : ((bt a0 x5_2) ≤ ((a1 + 25) % 256))
                  · rw [if_pos c10] at H
                    have c10b0 : decide ((bt a0 x5_2) ≤ ((a1 + 25) % 256)) = true := decide_eq_true c10
                    clear c10
                    have H' := Aside0.mk H
                    clear H
                    have p8 : 0 ≤ (x5_2 : Int) := of_decide_eq_true (by first | (with_reducible assumption) | assumption)
                    have q8 : x5_2 < (a0.size : Int) := of_decide_eq_true (by first | (with_reducible assumption) | assumption)
                    have hx8 := bt_at a0 x5_2
                    replace p8 := eq_true p8
                    replace q8 := eq_true q8
                    go_wp2
                    go_roundg k2
                    case measure => have := HJ2.out; have := HK2.out; omega
                    case rel => exact ⟨(wrap64 (x5_2 + 1)), (by first | rfl | (simp; done) | (simp [*]; done)), H', ⟨by have := HJ2.out; have := HK2.out; omega⟩, by repeat (first | exact Drawn0.refl _ | apply Drawn0.step)⟩
                  · rw [if_neg c10] at H
                    have c10b0 : decide ((bt a0 x5_2) ≤ ((a1 + 25) % 256)) = false := decide_eq_false c10
                    clear c10
                    by_cases c11 : x5_2 = 0
                    · rw [if_pos c11] at H
                      have c11b0 : (x5_2 == 0) = true := beq_iff_eq.mpr c11
                      have c11b1 : (x5_2 != 0) = false := bne_eq_false_iff_eq.mpr c11
                      clear c11
                      obtain rfl := Option.some.inj H
                      have p8 : 0 ≤ (x5_2 : Int) := of_decide_eq_true (by first | (with_reducible assumption) | assumption)
                      have q8 : x5_2 < (a0.size : Int) := of_decide_eq_true (by first | (with_reducible assumption) | assumption)
                      have hx8 := bt_at a0 x5_2
                      replace p8 := eq_true p8
                      replace q8 := eq_true q8
                      go_wp2
                      go_ret
                      exact ⟨by first | rfl | (simp; done) | (simp [*]; done), by repeat (first | exact Drawn0.refl _ | apply Drawn0.step)⟩
                    · rw [if_neg c11] at H
                      have c11b0 : (x5_2 == 0) = false := beq_eq_false_iff_ne.mpr c11
                      have c11b1 : (x5_2 != 0) = true := bne_iff_ne.mpr c11
                      by_cases c12 : (bt a0 x5_2) = 95
                      · rw [if_pos c12] at H
                        have c12b0 : ((bt a0 x5_2) == 95) = true := beq_iff_eq.mpr c12
                        have c12b1 : ((bt a0 x5_2) != 95) = false := bne_eq_false_iff_eq.mpr c12
                        clear c12
                        have H' := Aside0.mk H
                        clear H
                        have p8 : 0 ≤ (x5_2 : Int) := of_decide_eq_true (by first | (with_reducible assumption) | assumption)
                        have q8 : x5_2 < (a0.size : Int) := of_decide_eq_true (by first | (with_reducible assumption) | assumption)
                        have hx8 := bt_at a0 x5_2
                        replace p8 := eq_true p8
                        replace q8 := eq_true q8
                        go_wp2
                        go_roundg k2
                        case measure => have := HJ2.out; have := HK2.out; omega
                        case rel => exact ⟨(wrap64 (x5_2 + 1)), (by first | rfl | (simp; done) | (simp [*]; done)), H', ⟨by have := HJ2.out; have := HK2.out; omega⟩, by repeat (first | exact Drawn0.refl _ | apply Drawn0.step)⟩
                      · rw [if_neg c12] at H
                        have c12b0 : ((bt a0 x5_2) == 95) = false := beq_eq_false_iff_ne.mpr c12
                        have c12b1 : ((bt a0 x5_2) != 95) = true := bne_iff_ne.mpr c12
                        by_cases c13 : (bt a0 x5_2) < 48
                        · rw [if_pos c13] at H
                          have c13b0 : decide ((bt a0 x5_2) < 48) = true := decide_eq_true c13
                          clear c13
                          obtain rfl := Option.some.inj H
                          have p8 : 0 ≤ (x5_2 : Int) := of_decide_eq_true (by first | (with_reducible assumption) | assumption)
                          have q8 : x5_2 < (a0.size : Int) := of_decide_eq_true (by first | (with_reducible assumption) | assumption)
                          have hx8 := bt_at a0 x5_2
                          replace p8 := eq_true p8
                          replace q8 := eq_true q8
                          go_wp2
                          go_ret
                          exact ⟨by first | rfl | (simp; done) | (simp [*]; done), by repeat (first | exact Drawn0.refl _ | apply Drawn0.step)⟩
                        · rw [if_neg c13] at H
                          have c13b0 : decide ((bt a0 x5_2) < 48) = false := decide_eq_false c13
                          clear c13
                          by_cases c14 : (bt a0 x5_2) > 57
                          · rw [if_pos c14] at H
                            have c14b0 : decide (57 < (bt a0 x5_2)) = true := decide_eq_true c14
                            clear c14
                            obtain rfl := Option.some.inj H
                            have p8 : 0 ≤ (x5_2 : Int) := of_decide_eq_true (by first | (with_reducible assumption) | assumption)
                            have q8 : x5_2 < (a0.size : Int) := of_decide_eq_true (by first | (with_reducible assumption) | assumption)
                            have hx8 := bt_at a0 x5_2
                            replace p8 := eq_true p8
                            replace q8 := eq_true q8
                            go_wp2
                            go_ret
                            exact ⟨by first | rfl | (simp; done) | (simp [*]; done), by repeat (first | exact Drawn0.refl _ | apply Drawn0.step)⟩
                          · rw [if_neg c14] at H
                            have c14b0 : decide (57 < (bt a0 x5_2)) = false := decide_eq_false c14
                            clear c14
                            have H' := Aside0.mk H
                            clear H
                            have p8 : 0 ≤ (x5_2 : Int) := of_decide_eq_true (by first | (with_reducible assumption) | assumption)
                            have q8 : x5_2 < (a0.size : Int) := of_decide_eq_true (by first | (with_reducible assumption) | assumption)
                            have hx8 := bt_at a0 x5_2
                            replace p8 := eq_true p8
                            replace q8 := eq_true q8
                            go_wp2
                            go_roundg k2
                            case measure => have := HJ2.out; have := HK2.out; omega
                            case rel => exact ⟨(wrap64 (x5_2 + 1)), (by first | rfl | (simp; done) | (simp [*]; done)), H', ⟨by have := HJ2.out; have := HK2.out; omega⟩, by repeat (first | exact Drawn0.refl _ | apply Drawn0.step)⟩
                · rw [if_neg c9] at H
                  have c9b0 : decide (a1 ≤ (bt a0 x5_2)) = false := decide_eq_false c9
                  clear c9
                  by_cases c15 : x5_2 = 0
                  · rw [if_pos c15] at H
                    have c15b0 : (x5_2 == 0) = true := beq_iff_eq.mpr c15
                    have c15b1 : (x5_2 != 0) = false := bne_eq_false_iff_eq.mpr c15
                    clear c15
                    obtain rfl := Option.some.inj H
                    have p8 : 0 ≤ (x5_2 : Int) := of_decide_eq_true (by first | (with_reducible assumption) | assumption)
                    have q8 : x5_2 < (a0.size : Int) := of_decide_eq_true (by first | (with_reducible assumption) | assumption)
                    have hx8 := bt_at a0 x5_2
                    replace p8 := eq_true p8
                    replace q8 := eq_true q8
                    go_wp2
                    go_ret
                    exact ⟨by first | rfl | (simp; done) | (simp [*]; done), by repeat (first | exact Drawn0.refl _ | apply Drawn0.step)⟩
                  · rw [if_neg c15] at H
                    have c15b0 : (x5_2 == 0) = false := beq_eq_false_iff_ne.mpr c15
                    have c15b1 : (x5_2 != 0) = true := bne_iff_ne.mpr c15
                    by_cases c16 : (bt a0 x5_2) = 95
                    · rw [if_pos c16] at H
                      have c16b0 : ((bt a0 x5_2) == 95) = true := beq_iff_eq.mpr c16
                      have c16b1 : ((bt a0 x5_2) != 95) = false := bne_eq_false_iff_eq.mpr c16
                      clear c16
                      have H' := Aside0.mk H
                      clear H
                      have p8 : 0 ≤ (x5_2 : Int) := of_decide_eq_true (by first | (with_reducible assumption) | assumption)
                      have q8 : x5_2 < (a0.size : Int) := of_decide_eq_true (by first | (with_reducible assumption) | assumption)
                      have hx8 := bt_at a0 x5_2
                      replace p8 := eq_true p8
                      replace q8 := eq_true q8
                      go_wp2
                      go_roundg k2
                      case measure => have := HJ2.out; have := HK2.out; omega
                      case rel => exact ⟨(wrap64 (x5_2 + 1)), (by first | rfl | (simp; done) | (simp [*]; done)), H', ⟨by have := HJ2.out; have := HK2.out; omega⟩, by repeat (first | exact Drawn0.refl _ | apply Drawn0.step)⟩
                    · rw [if_neg c16] at H
                      have c16b0 : ((bt a0 x5_2) == 95) = false := beq_eq_false_iff_ne.mpr c16
                      have c16b1 : ((bt a0 x5_2) != 95) = true := bne_iff_ne.mpr c16
                      by_cases c17 : (bt a0 x5_2) < 48
                      · rw [if_pos c17] at H
                        have c17b0 : decide ((bt a0 x5_2) < 48) = true := decide_eq_true c17
                        clear c17
                        obtain rfl := Option.some.inj H
                        have p8 : 0 ≤ (x5_2 : Int) := of_decide_eq_true (by first | (with_reducible assumption) | assumption)
                        have q8 : x5_2 < (a0.size : Int) := of_decide_eq_true (by first | (with_reducible assumption) | assumption)
                        have hx8 := bt_at a0 x5_2
                        replace p8 := eq_true p8
                        replace q8 := eq_true q8
                        go_wp2
                        go_ret
                        exact ⟨by first | rfl | (simp; done) | (simp [*]; done), by repeat (first | exact Drawn0.refl _ | apply Drawn0.step)⟩
                      · rw [if_neg c17] at H
                        have c17b0 : decide ((bt a0 x5_2) < 48) = false := decide_eq_false c17
                        clear c17
                        by_cases c18 : (bt a0 x5_2) > 57
                        · rw [if_pos c18] at H
                          have c18b0 : decide (57 < (bt a0 x5_2)) = true := decide_eq_true c18
                          clear c18
                          obtain rfl := Option.some.inj H
                          have p8 : 0 ≤ (x5_2 : Int) := of_decide_eq_true (by first | (with_reducible assumption) | assumption)
                          have q8 : x5_2 < (a0.size : Int) := of_decide_eq_true (by first | (with_reducible assumption) | assumption)
                          have hx8 := bt_at a0 x5_2
                          replace p8 := eq_true p8
                          replace q8 := eq_true q8
                          go_wp2
                          go_ret
                          exact ⟨by first | rfl | (simp; done) | (simp [*]; done), by repeat (first | exact Drawn0.refl _ | apply Drawn0.step)⟩
                        · rw [if_neg c18] at H
                          have c18b0 : decide (57 < (bt a0 x5_2)) = false := decide_eq_false c18
                          clear c18
                          have H' := Aside0.mk H
                          clear H
                          have p8 : 0 ≤ (x5_2 : Int) := of_decide_eq_true (by first | (with_reducible assumption) | assumption)
                          have q8 : x5_2 < (a0.size : Int) := of_decide_eq_true (by first | (with_reducible assumption) | assumption)
                          have hx8 := bt_at a0 x5_2
                          replace p8 := eq_true p8
                          replace q8 := eq_true q8
                          go_wp2
                          go_roundg k2
                          case measure => have := HJ2.out; have := HK2.out; omega
                          case rel => exact ⟨(wrap64 (x5_2 + 1)), (by first | rfl | (simp; done) | (simp [*]; done)), H', ⟨by have := HJ2.out; have := HK2.out; omega⟩, by repeat (first | exact Drawn0.refl _ | apply Drawn0.step)⟩
              · rw [if_neg c7] at H
                exact absurd H (by simp)
            · rw [if_neg c6] at H
              have c6b0 : decide (x5_2 < (a0.size : Int)) = false := decide_eq_false c6
              clear c6
              obtain rfl := Option.some.inj H
              go_wp2
              go_ret
              exact ⟨by first | rfl | (simp; done) | (simp [*]; done), by repeat (first | exact Drawn0.refl _ | apply Drawn0.step)⟩

/-! ### gramaryeref02_Cap: function 26 -/
def gramaryeref02_Cap.f (k : Nat) (a0 : ByteArray) : Option (Bool) := (gramaryeref02_letters.f k a0 65).bind fun t101 => (some t101)
theorem gramaryeref02_Cap.mono : ∀ a0 k, LeO (gramaryeref02_Cap.f k a0) (gramaryeref02_Cap.f (k + 1) a0) := by
  intro a0 k
  unfold gramaryeref02_Cap.f
  repeat' first
      | (with_reducible exact gramaryeref02_letters.mono _ _ _)
      | (with_reducible exact LeO.refl _)
      | (with_reducible exact LeO.none _)
      | (with_reducible refine LeO.ite ?_ ?_)
      | (with_reducible refine LeO.bind ?_ (fun _ => ?_))
      | exact gramaryeref02_letters.mono _ _ _
      | exact LeO.none _
      | refine LeO.ite ?_ ?_
      | refine LeO.bind ?_ (fun _ => ?_)
set_option maxHeartbeats 8000000 in
set_option maxRecDepth 100000 in
theorem gramaryeref02_Cap.calls (k : Nat) (a0 : ByteArray) (r : Bool) (w : World) (h : gramaryeref02_Cap.f k a0 = some r) :
    Calls Tryd.prog 26 #[.string a0] w fun e w' => e = .returned (.bool r) ∧ Drawn0 w w' := by
  have H : ((gramaryeref02_letters.f k a0 65).bind fun t101 => (some t101)) = some r := h
  clear h
  replace H := Option.bind_eq_some_iff.mp H
  obtain ⟨t101, A20, H⟩ := H
  replace H : (some t101) = some r := H
  have A2 := Aside0.mk A20
  clear A20
  obtain rfl := Option.some.inj H
  go_enter Tryd.func26, Tryd.ntmps26
  go_wp2_with (first | ((with_reducible refine gate_callee (f := 50) rfl ?_); refine goesL_ (some 4) rfl rfl Tryd.func50 (by kernel_rfl) rfl #[.string a0, .int .u8 65] rfl (by (try simp only [List.map_toArray, List.map_cons, List.map_nil]); first | done | rfl | (simp only [List.length_drop, List.length_take]; rfl)) ?_; (with_reducible refine (gramaryeref02_letters.calls k a0 65 t101 _ A2.out).mono ?_); rintro e w' ⟨rfl, ⟨nd, rfl⟩⟩; refine ⟨_, rfl, ?_⟩))
  go_ret
  exact ⟨by first | rfl | (simp; done) | (simp [*]; done), by repeat (first | exact Drawn0.refl _ | apply Drawn0.step)⟩

/-! ### name_Keyword: function 29 -/
def name_Keyword.f (a0 : ByteArray) : Option Bool := some (Plus.isKw a0)
def name_Keyword.miss (a0 : ByteArray) (k : Nat) : Prop := (1 ≤ k → (Plus.kwA.toList == a0.toList) = false) ∧ (2 ≤ k → (Plus.kwB.toList == a0.toList) = false) ∧ (3 ≤ k → (Plus.kwC.toList == a0.toList) = false) ∧ (4 ≤ k → (Plus.kwD.toList == a0.toList) = false)
set_option maxRecDepth 100000 in
theorem name_Keyword.calls (a0 : ByteArray) (r : Bool) (w : World) (hG : GL w) (h : name_Keyword.f a0 = some r) :
    Calls Tryd.prog 29 #[.string a0] w fun e w' => e = .returned (.bool r) ∧ Drawn0 w w' := by
  obtain rfl := Option.some.inj h
  obtain ⟨t, fr, hrow⟩ := hG.keywords.row (by kernel_rfl : Tryd.prog.globalNamed "gramarye/name.keywords" = some 0)
  have HR := Lib.hid hrow
  clear hrow hG h
  have i0 : ∀ w, (Instr.index 74 (.agg Plus.kwCells) (.int .i64 0)).run Tryd.prog w = .ok (.string Plus.kwA) w := fun _ => by kernel_rfl
  have i1 : ∀ w, (Instr.index 74 (.agg Plus.kwCells) (.int .i64 1)).run Tryd.prog w = .ok (.string Plus.kwB) w := fun _ => by kernel_rfl
  have i2 : ∀ w, (Instr.index 74 (.agg Plus.kwCells) (.int .i64 2)).run Tryd.prog w = .ok (.string Plus.kwC) w := fun _ => by kernel_rfl
  have i3 : ∀ w, (Instr.index 74 (.agg Plus.kwCells) (.int .i64 3)).run Tryd.prog w = .ok (.string Plus.kwD) w := fun _ => by kernel_rfl
  go_enter Tryd.func29, Tryd.ntmps29
  go_wp2_with (refine wpList_load_row rfl 74 _ rfl 0 rfl t _ fr _ HR.out Tryd.underlying74 rfl (by kernel_rfl) ?_)
  go_loop [6] (fun i => ∃ k : Nat, k ≤ 4 ∧ i = .int .i64 k ∧ name_Keyword.miss a0 k) (fun i => 4 - (Plus.intOf i).toNat)
  case atStart => exact ⟨0, by omega, rfl, by omega, by omega, by omega, by omega⟩
  case round =>
    obtain ⟨k, hk, rfl, hm⟩ := hrel
    have HM := Lib.hid hm
    clear hm
    have hk5 : k = 0 ∨ k = 1 ∨ k = 2 ∨ k = 3 ∨ k = 4 := by omega
    rcases hk5 with rfl | rfl | rfl | rfl | rfl
    · cases hb : (Plus.kwA.toList == a0.toList)
      · go_wp2
        go_round
        case rel => exact ⟨1, by omega, rfl, fun _ => hb, by omega, by omega, by omega⟩
        case measure => simp [Plus.intOf]
      · go_wp2
        go_ret
        exact ⟨by rw [show Plus.isKw a0 = true by unfold Plus.isKw; rw [hb]; rfl]; rfl, Drawn0.refl _⟩
    · cases hb : (Plus.kwB.toList == a0.toList)
      · go_wp2
        go_round
        case rel => exact ⟨2, by omega, rfl, fun _ => HM.out.1 (by omega), fun _ => hb, by omega, by omega⟩
        case measure => simp [Plus.intOf]
      · go_wp2
        go_ret
        exact ⟨by rw [show Plus.isKw a0 = true by unfold Plus.isKw; rw [hb]; simp]; rfl, Drawn0.refl _⟩
    · cases hb : (Plus.kwC.toList == a0.toList)
      · go_wp2
        go_round
        case rel => exact ⟨3, by omega, rfl, fun _ => HM.out.1 (by omega), fun _ => HM.out.2.1 (by omega), fun _ => hb, by omega⟩
        case measure => simp [Plus.intOf]
      · go_wp2
        go_ret
        exact ⟨by rw [show Plus.isKw a0 = true by unfold Plus.isKw; rw [hb]; simp]; rfl, Drawn0.refl _⟩
    · cases hb : (Plus.kwD.toList == a0.toList)
      · go_wp2
        go_round
        case rel => exact ⟨4, by omega, rfl, fun _ => HM.out.1 (by omega), fun _ => HM.out.2.1 (by omega), fun _ => HM.out.2.2.1 (by omega), fun _ => hb⟩
        case measure => simp [Plus.intOf]
      · go_wp2
        go_ret
        exact ⟨by rw [show Plus.isKw a0 = true by unfold Plus.isKw; rw [hb]; simp]; rfl, Drawn0.refl _⟩
    · go_wp2
      go_ret
      have e := HM.out
      exact ⟨by rw [show Plus.isKw a0 = false by unfold Plus.isKw; rw [e.1 (by omega), e.2.1 (by omega), e.2.2.1 (by omega), e.2.2.2 (by omega)]; rfl]; rfl, Drawn0.refl _⟩

/-! ### name_small: function 51 -/
def name_small.f (a0 : Int) : Option (Bool) := if a0 ≥ 97 then (some (decide (a0 ≤ 122))) else (some false)
set_option maxHeartbeats 8000000 in
set_option maxRecDepth 100000 in
theorem name_small.calls (a0 : Int) (r : Bool) (w : World) (h : name_small.f a0 = some r) :
    Calls Tryd.prog 51 #[.int .u8 a0] w fun e w' => e = .returned (.bool r) ∧ Drawn0 w w' := by
  have H : (if a0 ≥ 97 then (some (decide (a0 ≤ 122))) else (some false)) = some r := h
  clear h
  by_cases c2 : a0 ≥ 97
  · rw [if_pos c2] at H
    have c2b0 : decide (97 ≤ a0) = true := decide_eq_true c2
    clear c2
    obtain rfl := Option.some.inj H
    go_enter Tryd.func51, Tryd.ntmps51
    go_wp2
    go_ret
    exact ⟨by first | rfl | (simp; done) | (simp [*]; done), by repeat (first | exact Drawn0.refl _ | apply Drawn0.step)⟩
  · rw [if_neg c2] at H
    have c2b0 : decide (97 ≤ a0) = false := decide_eq_false c2
    clear c2
    obtain rfl := Option.some.inj H
    go_enter Tryd.func51, Tryd.ntmps51
    go_wp2
    go_ret
    exact ⟨by first | rfl | (simp; done) | (simp [*]; done), by repeat (first | exact Drawn0.refl _ | apply Drawn0.step)⟩

/-! ### name_Name: function 27 -/
def name_Name.let (c : Int) : Bool := decide (97 ≤ c) && decide (c ≤ 122)
def name_Name.rest (c : Int) : Bool := c == 95 || decide (48 ≤ c) && decide (c ≤ 57)
def name_Name.all (s : ByteArray) : Nat → Bool
  | 0 => true
  | n + 1 => name_Name.all s n && (name_Name.let (bt s n) || name_Name.rest (bt s n))
def name_Name.spelt (s : ByteArray) : Bool := decide (0 < s.size) && decide (s.size ≤ 20) && name_Name.let (bt s 0) && name_Name.all s s.size
theorem name_Name.all_mono (s : ByteArray) (n m : Nat) (h : n ≤ m) (ha : name_Name.all s n = false) : name_Name.all s m = false := by
  induction m with
  | zero => obtain rfl : n = 0 := by omega
            exact ha
  | succ m ih =>
    by_cases e : n = m + 1
    · rw [← e]; exact ha
    · show (name_Name.all s m && _) = false
      rw [ih (by omega)]; rfl
theorem name_Name.let_calls (c : Int) (w : World) : Calls Tryd.prog 51 #[.int .u8 c] w fun e w' => e = .returned (.bool (name_Name.let c)) ∧ Drawn0 w w' :=
  name_small.calls c _ w (by unfold name_small.f name_Name.let; by_cases h : c ≥ 97 <;> simp [h])
theorem name_Name.rest_calls (c : Int) (w : World) : Calls Tryd.prog 72 #[.int .u8 c] w fun e w' => e = .returned (.bool (name_Name.rest c)) ∧ Drawn0 w w' :=
  name_rest.calls c _ w (by unfold name_rest.f name_Name.rest; by_cases h0 : c = 95 <;> by_cases h : c ≥ 48 <;> simp [h0, h])
set_option maxRecDepth 100000 in
theorem name_Name.spelt_calls (a0 : ByteArray) (w : World) :
    Calls Tryd.prog 48 #[.string a0, .func (.func 51) #[] #[]] w fun e w' => e = .returned (.bool (name_Name.spelt a0)) ∧ Drawn0 w w' := by
  by_cases h0 : a0.size = 0
  · have hr : name_Name.spelt a0 = false := by unfold name_Name.spelt; simp [h0]
    have HR := Lib.hid hr
    clear hr
    have h0' : (((a0.size : Nat) : Int) == 0) = true := by rw [h0]; rfl
    clear h0
    go_enter Tryd.func48, Tryd.ntmps48
    go_wp2
    go_ret
    exact ⟨by rw [HR.out]; rfl, by repeat (first | exact Drawn0.refl _ | apply Drawn0.step)⟩
  have h0' : (((a0.size : Nat) : Int) == 0) = false := by simp [h0]
  by_cases h1 : a0.size ≤ 20
  · cases h2 : name_Name.let (bt a0 0)
    · have hr : name_Name.spelt a0 = false := by unfold name_Name.spelt; simp [h2]
      have HR := Lib.hid hr
      have H2 := Lib.hid h2
      have p : 0 < a0.size := by omega
      have hx : ((a0[0]'p).toNat : Int) = bt a0 0 := by rw [← bt_at a0 0 p]; rfl
      have h1' : decide ((20 : Int) < (a0.size : Int)) = false := by simp; omega
      clear hr h2 h0
      go_enter Tryd.func48, Tryd.ntmps48
      go_wp2_with (go_at_call 51; refine (name_Name.let_calls _ _).mono ?_; rintro e w' ⟨rfl, ⟨nd, rfl⟩⟩; rw [H2.out])
      go_ret
      exact ⟨by rw [HR.out]; rfl, by repeat (first | exact Drawn0.refl _ | apply Drawn0.step)⟩
    · have H2 := Lib.hid h2
      have p : 0 < a0.size := by omega
      have hx : ((a0[0]'p).toNat : Int) = bt a0 0 := by rw [← bt_at a0 0 p]; rfl
      have h1' : decide ((20 : Int) < (a0.size : Int)) = false := by simp; omega
      clear h2 h0
      go_enter Tryd.func48, Tryd.ntmps48
      go_wp2_with (go_at_call 51; refine (name_Name.let_calls _ _).mono ?_; rintro e w' ⟨rfl, ⟨nd, rfl⟩⟩; rw [H2.out])
      clear hx
      go_loopw [23] (fun v w' => ∃ (i m : Nat), i ≤ a0.size ∧ v = .int .i64 i ∧ name_Name.all a0 i = true ∧ w' = w.drewN m) (fun v _ => a0.size - (Plus.intOf v).toNat)
      case atStart => exact ⟨0, _, Nat.zero_le _, rfl, rfl, rfl⟩
      case round =>
        obtain ⟨i, m, hi, rfl, ha, rfl⟩ := hrel
        have HA := Lib.hid ha
        clear ha
        by_cases hlt : i < a0.size
        · have hx : ((a0[i]'hlt).toNat : Int) = bt a0 i := by rw [← bt_at a0 (i : Int) (by simpa using hlt)]; rfl
          cases h3 : name_Name.let (bt a0 i)
          · cases h4 : name_Name.rest (bt a0 i)
            · have hr : name_Name.spelt a0 = false := by
                have : name_Name.all a0 (i + 1) = false := by
                  show (name_Name.all a0 i && _) = false
                  rw [h3, h4]; simp
                unfold name_Name.spelt
                rw [name_Name.all_mono a0 (i + 1) a0.size hlt this]; simp
              have HR := Lib.hid hr
              have H3 := Lib.hid h3
              have H4 := Lib.hid h4
              clear hr h3 h4
              go_wp2_with (first | (go_at_call 51; refine (name_Name.let_calls _ _).mono ?_; rintro e w' ⟨rfl, ⟨nd, rfl⟩⟩; rw [H3.out]) | (go_at_call 72; refine (name_Name.rest_calls _ _).mono ?_; rintro e w' ⟨rfl, ⟨nd, rfl⟩⟩; rw [H4.out]))
              go_ret
              exact ⟨by rw [HR.out]; rfl, by repeat (first | exact Drawn0.refl _ | apply Drawn0.step)⟩
            · have ha : name_Name.all a0 (i + 1) = true := by
                show (name_Name.all a0 i && _) = true
                rw [HA.out, h4]; simp
              have HA' := Lib.hid ha
              have H3 := Lib.hid h3
              have H4 := Lib.hid h4
              clear ha h3 h4
              go_wp2_with (first | (go_at_call 51; refine (name_Name.let_calls _ _).mono ?_; rintro e w' ⟨rfl, ⟨nd, rfl⟩⟩; rw [H3.out]) | (go_at_call 72; refine (name_Name.rest_calls _ _).mono ?_; rintro e w' ⟨rfl, ⟨nd, rfl⟩⟩; rw [H4.out]))
              go_roundw
              case rel => exact ⟨i + 1, _, by omega, by go_num, HA'.out, rfl⟩
              case measure => simp [Plus.intOf]; omega
          · have ha : name_Name.all a0 (i + 1) = true := by
              show (name_Name.all a0 i && _) = true
              rw [HA.out, h3]; simp
            have HA' := Lib.hid ha
            have H3 := Lib.hid h3
            clear ha h3
            go_wp2_with (go_at_call 51; refine (name_Name.let_calls _ _).mono ?_; rintro e w' ⟨rfl, ⟨nd, rfl⟩⟩; rw [H3.out])
            go_roundw
            case rel => exact ⟨i + 1, _, by omega, by go_num, HA'.out, rfl⟩
            case measure => simp [Plus.intOf]; omega
        · have hr : name_Name.spelt a0 = true := by
            have e : i = a0.size := by omega
            unfold name_Name.spelt
            rw [← e, HA.out, H2.out]; simp; omega
          have HR := Lib.hid hr
          clear hr
          go_wp2
          go_ret
          exact ⟨by rw [HR.out]; rfl, by repeat (first | exact Drawn0.refl _ | apply Drawn0.step)⟩
  · have hr : name_Name.spelt a0 = false := by unfold name_Name.spelt; simp [h1]
    have HR := Lib.hid hr
    have h1' : decide ((20 : Int) < (a0.size : Int)) = true := by simp; omega
    clear hr h0
    go_enter Tryd.func48, Tryd.ntmps48
    go_wp2
    go_ret
    exact ⟨by rw [HR.out]; rfl, by repeat (first | exact Drawn0.refl _ | apply Drawn0.step)⟩
def name_Name.f (a0 : ByteArray) : Option Bool := some (name_Name.spelt a0 && !Plus.isKw a0)
set_option maxRecDepth 100000 in
theorem name_Name.calls (a0 : ByteArray) (r : Bool) (w : World) (hG : GL w) (h : name_Name.f a0 = some r) :
    Calls Tryd.prog 27 #[.string a0] w fun e w' => e = .returned (.bool r) ∧ Drawn0 w w' := by
  obtain rfl := Option.some.inj h
  have HG := Lib.hid hG
  clear h hG
  cases hs : name_Name.spelt a0
  · have HS := Lib.hid hs
    clear hs
    go_enter Tryd.func27, Tryd.ntmps27
    go_wp2_with (go_at_call 48; refine (name_Name.spelt_calls _ _).mono ?_; rintro e w' ⟨rfl, ⟨nd, rfl⟩⟩; rw [HS.out])
    go_ret
    exact ⟨rfl, by repeat (first | exact Drawn0.refl _ | apply Drawn0.step)⟩
  · have HS := Lib.hid hs
    clear hs
    go_enter Tryd.func27, Tryd.ntmps27
    go_wp2_with (first | (go_at_call 48; refine (name_Name.spelt_calls _ _).mono ?_; rintro e w' ⟨rfl, ⟨nd, rfl⟩⟩; rw [HS.out]) | (go_at_call 29; refine (name_Keyword.calls a0 (Plus.isKw a0) _ (HG.out.below (pw_below_drewN (Below.refl _ _) _)) rfl).mono ?_; rintro e w' ⟨rfl, ⟨nd, rfl⟩⟩))
    go_ret
    exact ⟨rfl, by repeat (first | exact Drawn0.refl _ | apply Drawn0.step)⟩

/-! ### gramaryeref02_Keyword: function 30 -/
def gramaryeref02_Keyword.f (a0 : ByteArray) : Option (Bool) := if a0.toList = ([103, 114, 97, 109, 109, 97, 114] : List UInt8) then (some true) else (if a0.toList = ([108, 111, 111, 107] : List UInt8) then (some true) else (if a0.toList = ([115, 121, 110, 99] : List UInt8) then (some true) else (some (a0.toList == ([116, 111, 107, 101, 110] : List UInt8)))))
set_option maxHeartbeats 8000000 in
set_option maxRecDepth 100000 in
theorem gramaryeref02_Keyword.calls (a0 : ByteArray) (r : Bool) (w : World) (h : gramaryeref02_Keyword.f a0 = some r) :
    Calls Tryd.prog 30 #[.string a0] w fun e w' => e = .returned (.bool r) ∧ Drawn0 w w' := by
  have H : (if a0.toList = ([103, 114, 97, 109, 109, 97, 114] : List UInt8) then (some true) else (if a0.toList = ([108, 111, 111, 107] : List UInt8) then (some true) else (if a0.toList = ([115, 121, 110, 99] : List UInt8) then (some true) else (some (a0.toList == ([116, 111, 107, 101, 110] : List UInt8)))))) = some r := h
  clear h
  by_cases c2 : a0.toList = ([103, 114, 97, 109, 109, 97, 114] : List UInt8)
  · rw [if_pos c2] at H
    have c2b0 : (a0.toList == ([103, 114, 97, 109, 109, 97, 114] : List UInt8)) = true := beq_iff_eq.mpr c2
    have c2b1 : (a0.toList != ([103, 114, 97, 109, 109, 97, 114] : List UInt8)) = false := bne_eq_false_iff_eq.mpr c2
    clear c2
    obtain rfl := Option.some.inj H
    go_enter Tryd.func30, Tryd.ntmps30
    go_wp2
    go_ret
    exact ⟨by first | rfl | (simp; done) | (simp [*]; done), by repeat (first | exact Drawn0.refl _ | apply Drawn0.step)⟩
  · rw [if_neg c2] at H
    have c2b0 : (a0.toList == ([103, 114, 97, 109, 109, 97, 114] : List UInt8)) = false := beq_eq_false_iff_ne.mpr c2
    have c2b1 : (a0.toList != ([103, 114, 97, 109, 109, 97, 114] : List UInt8)) = true := bne_iff_ne.mpr c2
    by_cases c3 : a0.toList = ([108, 111, 111, 107] : List UInt8)
    · rw [if_pos c3] at H
      have c3b0 : (a0.toList == ([108, 111, 111, 107] : List UInt8)) = true := beq_iff_eq.mpr c3
      have c3b1 : (a0.toList != ([108, 111, 111, 107] : List UInt8)) = false := bne_eq_false_iff_eq.mpr c3
      clear c3
      obtain rfl := Option.some.inj H
      go_enter Tryd.func30, Tryd.ntmps30
      go_wp2
      go_ret
      exact ⟨by first | rfl | (simp; done) | (simp [*]; done), by repeat (first | exact Drawn0.refl _ | apply Drawn0.step)⟩
    · rw [if_neg c3] at H
      have c3b0 : (a0.toList == ([108, 111, 111, 107] : List UInt8)) = false := beq_eq_false_iff_ne.mpr c3
      have c3b1 : (a0.toList != ([108, 111, 111, 107] : List UInt8)) = true := bne_iff_ne.mpr c3
      by_cases c4 : a0.toList = ([115, 121, 110, 99] : List UInt8)
      · rw [if_pos c4] at H
        have c4b0 : (a0.toList == ([115, 121, 110, 99] : List UInt8)) = true := beq_iff_eq.mpr c4
        have c4b1 : (a0.toList != ([115, 121, 110, 99] : List UInt8)) = false := bne_eq_false_iff_eq.mpr c4
        clear c4
        obtain rfl := Option.some.inj H
        go_enter Tryd.func30, Tryd.ntmps30
        go_wp2
        go_ret
        exact ⟨by first | rfl | (simp; done) | (simp [*]; done), by repeat (first | exact Drawn0.refl _ | apply Drawn0.step)⟩
      · rw [if_neg c4] at H
        have c4b0 : (a0.toList == ([115, 121, 110, 99] : List UInt8)) = false := beq_eq_false_iff_ne.mpr c4
        have c4b1 : (a0.toList != ([115, 121, 110, 99] : List UInt8)) = true := bne_iff_ne.mpr c4
        obtain rfl := Option.some.inj H
        go_enter Tryd.func30, Tryd.ntmps30
        go_wp2
        go_ret
        exact ⟨by first | rfl | (simp; done) | (simp [*]; done), by repeat (first | exact Drawn0.refl _ | apply Drawn0.step)⟩

/-! ### gramaryeref02_Word: function 52 -/
def gramaryeref02_Word.f (k : Nat) (a0 : ByteArray) : Option (Bool) := (gramaryeref02_letters.f k a0 97).bind fun t102 => (some t102)
theorem gramaryeref02_Word.mono : ∀ a0 k, LeO (gramaryeref02_Word.f k a0) (gramaryeref02_Word.f (k + 1) a0) := by
  intro a0 k
  unfold gramaryeref02_Word.f
  repeat' first
      | (with_reducible exact gramaryeref02_letters.mono _ _ _)
      | (with_reducible exact LeO.refl _)
      | (with_reducible exact LeO.none _)
      | (with_reducible refine LeO.ite ?_ ?_)
      | (with_reducible refine LeO.bind ?_ (fun _ => ?_))
      | exact gramaryeref02_letters.mono _ _ _
      | exact LeO.none _
      | refine LeO.ite ?_ ?_
      | refine LeO.bind ?_ (fun _ => ?_)
set_option maxHeartbeats 8000000 in
set_option maxRecDepth 100000 in
theorem gramaryeref02_Word.calls (k : Nat) (a0 : ByteArray) (r : Bool) (w : World) (h : gramaryeref02_Word.f k a0 = some r) :
    Calls Tryd.prog 52 #[.string a0] w fun e w' => e = .returned (.bool r) ∧ Drawn0 w w' := by
  have H : ((gramaryeref02_letters.f k a0 97).bind fun t102 => (some t102)) = some r := h
  clear h
  replace H := Option.bind_eq_some_iff.mp H
  obtain ⟨t102, A20, H⟩ := H
  replace H : (some t102) = some r := H
  have A2 := Aside0.mk A20
  clear A20
  obtain rfl := Option.some.inj H
  go_enter Tryd.func52, Tryd.ntmps52
  go_wp2_with (first | ((with_reducible refine gate_callee (f := 50) rfl ?_); refine goesL_ (some 4) rfl rfl Tryd.func50 (by kernel_rfl) rfl #[.string a0, .int .u8 97] rfl (by (try simp only [List.map_toArray, List.map_cons, List.map_nil]); first | done | rfl | (simp only [List.length_drop, List.length_take]; rfl)) ?_; (with_reducible refine (gramaryeref02_letters.calls k a0 97 t102 _ A2.out).mono ?_); rintro e w' ⟨rfl, ⟨nd, rfl⟩⟩; refine ⟨_, rfl, ?_⟩))
  go_ret
  exact ⟨by first | rfl | (simp; done) | (simp [*]; done), by repeat (first | exact Drawn0.refl _ | apply Drawn0.step)⟩

end Go.Proofs.YtdmjehepfkgpgaaDoor.HNameTells
