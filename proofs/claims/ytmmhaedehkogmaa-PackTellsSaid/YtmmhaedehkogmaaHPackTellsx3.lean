-- Written by plus.py for this claim.
import Derived.Test.YtmmhaedehkogmaaHPackTellsx0
import Derived.Test.YtmmhaedehkogmaaHPackTellsx1
import Derived.Test.YtmmhaedehkogmaaHPackTellsx2
namespace Go.Proofs.Ytmmhaedehkogmaa.HPackTells
open Go.RowKit Go.Proofs.YtmmhaedehkogmaaW.PrintWords Go.Proofs.YtmmhaedehkogmaaW.PrintLast Go.Proofs.YtmmhaedehkogmaaW.PrintMore
attribute [local go_sem] max2_int min2_int max_two min_two max_three min_three max_four min_four   -- for this text's walks alone
set_option linter.unusedVariables false
set_option linter.unusedSimpArgs false

/-! ### slices_BinarySearch_string_string: function 33 -/
def slices_BinarySearch_string_string.l0 : Nat → List ByteArray → ByteArray → Int → Int → Int → Option (Int × Bool)
  | 0, _, _, _, _, _ => none
  | k + 1, x0, x1, x6, x7, x8 => if x7 < x8 then (if 0 ≤ (wrap64 ((IntKind.u64.wrap (wrap64 (x7 + x8))) / 2)) then (if (wrap64 ((IntKind.u64.wrap (wrap64 (x7 + x8))) / 2)) < (x0.length : Int) then ((cmp_Less_string.f (rdOf ByteArray.empty x0 (wrap64 ((IntKind.u64.wrap (wrap64 (x7 + x8))) / 2))) x1).bind fun t149 => (if t149 = true then (slices_BinarySearch_string_string.l0 k x0 x1 x6 (wrap64 ((wrap64 ((IntKind.u64.wrap (wrap64 (x7 + x8))) / 2)) + 1)) x8) else (slices_BinarySearch_string_string.l0 k x0 x1 x6 x7 (wrap64 ((IntKind.u64.wrap (wrap64 (x7 + x8))) / 2))))) else (none)) else (none)) else (if x7 < x6 then (if 0 ≤ x7 then (if x7 < (x0.length : Int) then (if (rdOf ByteArray.empty x0 x7).toList = x1.toList then (some (x7, true)) else ((slices_isNaN_string.f (rdOf ByteArray.empty x0 x7)).bind fun t152 => (if t152 = true then ((slices_isNaN_string.f x1).bind fun t153 => (some (x7, t153))) else (some (x7, false))))) else (none)) else (none)) else (some (x7, false)))
def slices_BinarySearch_string_string.f (k : Nat) (l0 : List ByteArray) (a1 : ByteArray) : Option (Int × Bool) := slices_BinarySearch_string_string.l0 k l0 a1 (l0.length : Int) 0 (l0.length : Int)
theorem slices_BinarySearch_string_string.mono_l : ∀ k, (∀ y0 y1 y2 y3 y4, LeO (slices_BinarySearch_string_string.l0 k y0 y1 y2 y3 y4) (slices_BinarySearch_string_string.l0 (k + 1) y0 y1 y2 y3 y4))
  | 0 => fun _ _ _ _ _ r h => by simp [slices_BinarySearch_string_string.l0] at h
  | k + 1 => by
    have ih0 := slices_BinarySearch_string_string.mono_l k
    · intro y0 y1 y2 y3 y4
      unfold slices_BinarySearch_string_string.l0
      repeat' first
      | (with_reducible exact ih0 _ _ _ _ _)
      | (with_reducible exact LeO.refl _)
      | (with_reducible exact LeO.none _)
      | (with_reducible refine LeO.ite ?_ ?_)
      | (with_reducible refine LeO.bind ?_ (fun _ => ?_))
      | exact ih0 _ _ _ _ _
      | exact LeO.none _
      | refine LeO.ite ?_ ?_
      | refine LeO.bind ?_ (fun _ => ?_)
theorem slices_BinarySearch_string_string.mono : ∀ a0 a1 k, LeO (slices_BinarySearch_string_string.f k a0 a1) (slices_BinarySearch_string_string.f (k + 1) a0 a1) := by
  intro a0 a1 k
  have ih0 := slices_BinarySearch_string_string.mono_l k
  unfold slices_BinarySearch_string_string.f
  repeat' first
      | (with_reducible exact ih0 _ _ _ _ _)
      | (with_reducible exact LeO.refl _)
      | (with_reducible exact LeO.none _)
      | (with_reducible refine LeO.ite ?_ ?_)
      | (with_reducible refine LeO.bind ?_ (fun _ => ?_))
      | exact ih0 _ _ _ _ _
      | exact LeO.none _
      | refine LeO.ite ?_ ?_
      | refine LeO.bind ?_ (fun _ => ?_)
set_option maxHeartbeats 8000000 in
set_option maxRecDepth 100000 in
theorem slices_BinarySearch_string_string.calls (k : Nat) (A0 : Option Addr) (c0 : Nat) (l0 : List ByteArray) (a1 : ByteArray) (r1 : Int) (r2 : Bool) (w : World) (hr0 : Kd.C Kd.string w A0 l0.length l0) (hc0 : l0.length ≤ c0) (h : slices_BinarySearch_string_string.f k l0 a1 = some (r1, r2)) :
    Calls Try.prog 33 #[.slice A0 l0.length c0, .string a1] w fun e w' => e = .returned (.tuple #[.int .i64 r1, .bool r2]) ∧ Drawn0 w w' := by
  have HR0 := Aside0.mk hr0
  have HC0 := Aside0.mk hc0
  clear hr0 hc0
  have H : (slices_BinarySearch_string_string.l0 k l0 a1 (l0.length : Int) 0 (l0.length : Int)) = some (r1, r2) := h
  clear h
  have H' := Aside0.mk H
  clear H
  go_enter Try.func33, Try.ntmps33
  go_wp2
  go_loopg [7, 8] k (fun kq v7 v8 w' => ∃ (x7_1 : Int) (x8_1 : Int), v7 = .int .i64 x7_1 ∧ v8 = .int .i64 x8_1 ∧ Aside0 (slices_BinarySearch_string_string.l0 kq l0 a1 (l0.length : Int) x7_1 x8_1 = some (r1, r2)) ∧ Aside0 (kq ≤ k) ∧ Drawn0 w w')
  case atStart => exact ⟨(0), ((l0.length : Int)), (by first | rfl | (simp; done) | (simp [*]; done)), (by first | rfl | (simp; done) | (simp [*]; done)), H', ⟨Nat.le_refl _⟩, by repeat (first | exact Drawn0.refl _ | apply Drawn0.step)⟩
  case round =>
    clear H'
    try clear p2
    obtain ⟨x7_1, x8_1, rfl, rfl, HA, HK1, ⟨m1, rfl⟩⟩ := hrel
    cases gk with
    | zero => exact absurd HA.out (by simp [slices_BinarySearch_string_string.l0])
    | succ k1 =>
      have H := HA.out
      clear HA
      simp only [slices_BinarySearch_string_string.l0] at H
      by_cases c3 : x7_1 < x8_1
      · rw [if_pos c3] at H
        have c3b0 : decide (x7_1 < x8_1) = true := decide_eq_true c3
        clear c3
        obtain ⟨ji4, hji4⟩ : ∃ j_ : Int, (wrap64 ((IntKind.u64.wrap (wrap64 (x7_1 + x8_1))) / 2)) = j_ := ⟨_, rfl⟩
        replace H : (if 0 ≤ (ji4) then (if (ji4) < (l0.length : Int) then ((cmp_Less_string.f (rdOf ByteArray.empty l0 (ji4)) a1).bind fun t149 => (if t149 = true then (slices_BinarySearch_string_string.l0 k1 l0 a1 (l0.length : Int) (wrap64 ((ji4) + 1)) x8_1) else (slices_BinarySearch_string_string.l0 k1 l0 a1 (l0.length : Int) x7_1 ji4))) else (none)) else (none)) = some (r1, r2) := by first | (rw [hji4] at H; exact H) | (simp only [hji4] at H ⊢; exact H)
        have hji4w : (IntKind.i64.wrap ((IntKind.u64.wrap (wrap64 (x7_1 + x8_1))) / 2)) = ji4 := (i64_w _).trans hji4
        by_cases c5 : 0 ≤ (ji4)
        · rw [if_pos c5] at H
          have c5b0 : decide (0 ≤ (ji4)) = true := decide_eq_true c5
          clear c5
          by_cases c6 : (ji4) < (l0.length : Int)
          · rw [if_pos c6] at H
            have c6b0 : decide ((ji4) < (l0.length : Int)) = true := decide_eq_true c6
            clear c6
            replace H := Option.bind_eq_some_iff.mp H
            obtain ⟨t149, A70, H⟩ := H
            replace H : (if t149 = true then (slices_BinarySearch_string_string.l0 k1 l0 a1 (l0.length : Int) (wrap64 ((ji4) + 1)) x8_1) else (slices_BinarySearch_string_string.l0 k1 l0 a1 (l0.length : Int) x7_1 ji4)) = some (r1, r2) := H
            have A7 := Aside0.mk A70
            clear A70
            by_cases c8 : t149 = true
            · subst c8
              have H1 : (slices_BinarySearch_string_string.l0 k1 l0 a1 (l0.length : Int) (wrap64 ((ji4) + 1)) x8_1) = some (r1, r2) := by rw [if_pos rfl] at H; exact H
              clear H
              have H := H1
              clear H1
              have H' := Aside0.mk H
              clear H
              have p148 : 0 ≤ ((ji4) : Int) := of_decide_eq_true (by first | (with_reducible assumption) | assumption)
              have q148 : (ji4) < (l0.length : Int) := of_decide_eq_true (by first | (with_reducible assumption) | assumption)
              obtain ⟨ad148, e148, hx148_0⟩ := Kd.at_string HR0.out (ji4) p148 q148
              cases e148
              replace p148 := eq_true p148
              replace q148 := eq_true q148
              go_wp2_with (first | ((with_reducible refine gate_callee (f := 44) rfl ?_); refine goesL_ (some 27) rfl rfl Try.func44 (by kernel_rfl) rfl #[.string (rdOf ByteArray.empty l0 (ji4)), .string a1] rfl (by (try simp only [List.map_toArray, List.map_cons, List.map_nil]); first | done | (simp only [hji4]; rfl) | rfl | (simp only [List.length_drop, List.length_take]; rfl)) ?_; (with_reducible refine (cmp_Less_string.calls (rdOf ByteArray.empty l0 (ji4)) a1 true _ A7.out).mono ?_); rintro e w' ⟨rfl, ⟨nd, rfl⟩⟩; refine ⟨_, rfl, ?_⟩))
              go_roundg k1
              case measure => have := HK1.out; omega
              case rel => exact ⟨(wrap64 ((ji4) + 1)), (x8_1), (by first | rfl | (simp; done) | (simp only [← hji4] <;> (first | rfl | simp)) | (simp [*]; done)), (by first | rfl | (simp; done) | (simp [*]; done)), H', ⟨by have := HK1.out; omega⟩, by repeat (first | exact Drawn0.refl _ | apply Drawn0.step)⟩
            · replace c8 := Bool.eq_false_iff.mpr c8
              subst c8
              have H1 : (slices_BinarySearch_string_string.l0 k1 l0 a1 (l0.length : Int) x7_1 ji4) = some (r1, r2) := by rw [if_neg (show ¬ (false = true) by decide)] at H; exact H
              clear H
              have H := H1
              clear H1
              have H' := Aside0.mk H
              clear H
              have p148 : 0 ≤ ((ji4) : Int) := of_decide_eq_true (by first | (with_reducible assumption) | assumption)
              have q148 : (ji4) < (l0.length : Int) := of_decide_eq_true (by first | (with_reducible assumption) | assumption)
              obtain ⟨ad148, e148, hx148_0⟩ := Kd.at_string HR0.out (ji4) p148 q148
              cases e148
              replace p148 := eq_true p148
              replace q148 := eq_true q148
              go_wp2_with (first | ((with_reducible refine gate_callee (f := 44) rfl ?_); refine goesL_ (some 27) rfl rfl Try.func44 (by kernel_rfl) rfl #[.string (rdOf ByteArray.empty l0 (ji4)), .string a1] rfl (by (try simp only [List.map_toArray, List.map_cons, List.map_nil]); first | done | (simp only [hji4]; rfl) | rfl | (simp only [List.length_drop, List.length_take]; rfl)) ?_; (with_reducible refine (cmp_Less_string.calls (rdOf ByteArray.empty l0 (ji4)) a1 false _ A7.out).mono ?_); rintro e w' ⟨rfl, ⟨nd, rfl⟩⟩; refine ⟨_, rfl, ?_⟩))
              go_roundg k1
              case measure => have := HK1.out; omega
              case rel => exact ⟨(x7_1), (ji4), (by first | rfl | (simp; done) | (simp [*]; done)), (by first | rfl | (simp; done) | (simp only [← hji4] <;> (first | rfl | simp)) | (simp [*]; done)), H', ⟨by have := HK1.out; omega⟩, by repeat (first | exact Drawn0.refl _ | apply Drawn0.step)⟩
          · rw [if_neg c6] at H
            exact absurd H (by simp)
        · rw [if_neg c5] at H
          exact absurd H (by simp)
      · rw [if_neg c3] at H
        have c3b0 : decide (x7_1 < x8_1) = false := decide_eq_false c3
        clear c3
        by_cases c9 : x7_1 < (l0.length : Int)
        · rw [if_pos c9] at H
          have c9b0 : decide (x7_1 < (l0.length : Int)) = true := decide_eq_true c9
          clear c9
          by_cases c10 : 0 ≤ x7_1
          · rw [if_pos c10] at H
            have c10b0 : decide (0 ≤ x7_1) = true := decide_eq_true c10
            clear c10
            by_cases c11 : x7_1 < (l0.length : Int)
            · rw [if_pos c11] at H
              have c11b0 : decide (x7_1 < (l0.length : Int)) = true := decide_eq_true c11
              clear c11
              by_cases c12 : (rdOf ByteArray.empty l0 x7_1).toList = a1.toList
              · rw [if_pos c12] at H
                have c12b0 : ((rdOf ByteArray.empty l0 x7_1).toList == a1.toList) = true := beq_iff_eq.mpr c12
                have c12b1 : ((rdOf ByteArray.empty l0 x7_1).toList != a1.toList) = false := bne_eq_false_iff_eq.mpr c12
                clear c12
                simp only [Option.some.injEq, Prod.mk.injEq] at H
                obtain ⟨rfl, rfl⟩ := H
                have p150 : 0 ≤ (x7_1 : Int) := of_decide_eq_true (by first | (with_reducible assumption) | assumption)
                have q150 : x7_1 < (l0.length : Int) := of_decide_eq_true (by first | (with_reducible assumption) | assumption)
                obtain ⟨ad150, e150, hx150_0⟩ := Kd.at_string HR0.out x7_1 p150 q150
                cases e150
                replace p150 := eq_true p150
                replace q150 := eq_true q150
                go_wp2
                go_ret2
                exact ⟨by first | rfl | (simp; done) | (simp [*]; done), by repeat (first | exact Drawn0.refl _ | apply Drawn0.step)⟩
              · rw [if_neg c12] at H
                have c12b0 : ((rdOf ByteArray.empty l0 x7_1).toList == a1.toList) = false := beq_eq_false_iff_ne.mpr c12
                have c12b1 : ((rdOf ByteArray.empty l0 x7_1).toList != a1.toList) = true := bne_iff_ne.mpr c12
                replace H := Option.bind_eq_some_iff.mp H
                obtain ⟨t152, A130, H⟩ := H
                replace H : (if t152 = true then ((slices_isNaN_string.f a1).bind fun t153 => (some (x7_1, t153))) else (some (x7_1, false))) = some (r1, r2) := H
                have A13 := Aside0.mk A130
                clear A130
                by_cases c14 : t152 = true
                · subst c14
                  have H1 : ((slices_isNaN_string.f a1).bind fun t153 => (some (x7_1, t153))) = some (r1, r2) := by rw [if_pos rfl] at H; exact H
                  clear H
                  have H := H1
                  clear H1
                  replace H := Option.bind_eq_some_iff.mp H
                  obtain ⟨t153, A150, H⟩ := H
                  replace H : (some (x7_1, t153)) = some (r1, r2) := H
                  have A15 := Aside0.mk A150
                  clear A150
                  simp only [Option.some.injEq, Prod.mk.injEq] at H
                  obtain ⟨rfl, rfl⟩ := H
                  have p150 : 0 ≤ (x7_1 : Int) := of_decide_eq_true (by first | (with_reducible assumption) | assumption)
                  have q150 : x7_1 < (l0.length : Int) := of_decide_eq_true (by first | (with_reducible assumption) | assumption)
                  obtain ⟨ad150, e150, hx150_0⟩ := Kd.at_string HR0.out x7_1 p150 q150
                  cases e150
                  replace p150 := eq_true p150
                  replace q150 := eq_true q150
                  have p151 : 0 ≤ (x7_1 : Int) := of_decide_eq_true (by first | (with_reducible assumption) | assumption)
                  have q151 : x7_1 < (l0.length : Int) := of_decide_eq_true (by first | (with_reducible assumption) | assumption)
                  obtain ⟨ad151, e151, hx151_0⟩ := Kd.at_string HR0.out x7_1 p151 q151
                  obtain rfl : ad150 = ad151 := (by injection e151)
                  replace p151 := eq_true p151
                  replace q151 := eq_true q151
                  go_wp2_with (first | (go_at_call 45; (with_reducible refine (slices_isNaN_string.calls (rdOf ByteArray.empty l0 x7_1) true _ A13.out).mono ?_); rintro e w' ⟨rfl, ⟨nd, rfl⟩⟩; clear A13) | (go_at_call 45; (with_reducible refine (slices_isNaN_string.calls a1 t153 _ A15.out).mono ?_); rintro e w' ⟨rfl, ⟨nd, rfl⟩⟩; clear A15))
                  go_ret2
                  exact ⟨by first | rfl | (simp; done) | (simp [*]; done), by repeat (first | exact Drawn0.refl _ | apply Drawn0.step)⟩
                · replace c14 := Bool.eq_false_iff.mpr c14
                  subst c14
                  have H1 : (some (x7_1, false)) = some (r1, r2) := by rw [if_neg (show ¬ (false = true) by decide)] at H; exact H
                  clear H
                  have H := H1
                  clear H1
                  simp only [Option.some.injEq, Prod.mk.injEq] at H
                  obtain ⟨rfl, rfl⟩ := H
                  have p150 : 0 ≤ (x7_1 : Int) := of_decide_eq_true (by first | (with_reducible assumption) | assumption)
                  have q150 : x7_1 < (l0.length : Int) := of_decide_eq_true (by first | (with_reducible assumption) | assumption)
                  obtain ⟨ad150, e150, hx150_0⟩ := Kd.at_string HR0.out x7_1 p150 q150
                  cases e150
                  replace p150 := eq_true p150
                  replace q150 := eq_true q150
                  have p151 : 0 ≤ (x7_1 : Int) := of_decide_eq_true (by first | (with_reducible assumption) | assumption)
                  have q151 : x7_1 < (l0.length : Int) := of_decide_eq_true (by first | (with_reducible assumption) | assumption)
                  obtain ⟨ad151, e151, hx151_0⟩ := Kd.at_string HR0.out x7_1 p151 q151
                  obtain rfl : ad150 = ad151 := (by injection e151)
                  replace p151 := eq_true p151
                  replace q151 := eq_true q151
                  go_wp2_with (first | (go_at_call 45; (with_reducible refine (slices_isNaN_string.calls (rdOf ByteArray.empty l0 x7_1) false _ A13.out).mono ?_); rintro e w' ⟨rfl, ⟨nd, rfl⟩⟩))
                  go_ret2
                  exact ⟨by first | rfl | (simp; done) | (simp [*]; done), by repeat (first | exact Drawn0.refl _ | apply Drawn0.step)⟩
            · rw [if_neg c11] at H
              exact absurd H (by simp)
          · rw [if_neg c10] at H
            exact absurd H (by simp)
        · rw [if_neg c9] at H
          have c9b0 : decide (x7_1 < (l0.length : Int)) = false := decide_eq_false c9
          clear c9
          simp only [Option.some.injEq, Prod.mk.injEq] at H
          obtain ⟨rfl, rfl⟩ := H
          go_wp2
          go_ret2
          exact ⟨by first | rfl | (simp; done) | (simp [*]; done), by repeat (first | exact Drawn0.refl _ | apply Drawn0.step)⟩

/-! ### pack_Meet: function 15 -/
def pack_Meet.keep (k : Nat) (y : List ByteArray) (t : ByteArray) : Option Bool := (slices_BinarySearch_string_string.f k y t).bind fun p => some p.2
def pack_Meet.filt (k : Nat) (y : List ByteArray) : List ByteArray → Option (List ByteArray)
  | [] => some []
  | x :: xs => (pack_Meet.keep k y x).bind fun b => (pack_Meet.filt k y xs).bind fun r => some (if b = true then x :: r else r)
def pack_Meet.f (k : Nat) (l0 l1 : List ByteArray) : Option (List ByteArray) := (pack_set_string.f l0).bind fun x => (pack_set_string.f l1).bind fun y => pack_Meet.filt k y x
theorem pack_Meet.keep_mono (y : List ByteArray) (t : ByteArray) (k : Nat) : LeO (pack_Meet.keep k y t) (pack_Meet.keep (k + 1) y t) := LeO.bind (slices_BinarySearch_string_string.mono _ _ _) (fun _ => LeO.refl _)
theorem pack_Meet.filt_mono (y : List ByteArray) (k : Nat) : ∀ xs, LeO (pack_Meet.filt k y xs) (pack_Meet.filt (k + 1) y xs)
  | [] => LeO.refl _
  | _ :: xs => LeO.bind (pack_Meet.keep_mono _ _ _) (fun _ => LeO.bind (pack_Meet.filt_mono y k xs) (fun _ => LeO.refl _))
theorem pack_Meet.mono : ∀ a0 a1 k, LeO (pack_Meet.f k a0 a1) (pack_Meet.f (k + 1) a0 a1) := fun _ _ k => LeO.bind (LeO.refl _) (fun _ => LeO.bind (LeO.refl _) (fun _ => pack_Meet.filt_mono _ k _))
theorem pack_Meet.filt_all {k : Nat} {y : List ByteArray} : ∀ {xs r : List ByteArray}, pack_Meet.filt k y xs = some r → (∀ x ∈ xs, ∃ b, pack_Meet.keep k y x = some b) ∧ r = xs.filter fun x => (pack_Meet.keep k y x).getD false
  | [], r, h => ⟨fun x hx => by simp at hx, (Option.some.inj h).symm⟩
  | x :: xs, r, h => by
    obtain ⟨b, hb, h⟩ := Option.bind_eq_some_iff.mp h
    obtain ⟨r', hr, h⟩ := Option.bind_eq_some_iff.mp h
    obtain ⟨h1, h2⟩ := pack_Meet.filt_all hr
    refine ⟨fun z hz => ?_, ?_⟩
    · rcases List.mem_cons.1 hz with rfl | hz
      · exact ⟨b, hb⟩
      · exact h1 z hz
    · rw [← Option.some.inj h, List.filter_cons, hb, h2]; rfl
set_option maxHeartbeats 8000000 in
set_option maxRecDepth 100000 in
theorem pack_Meet.del (k : Nat) (p : Addr) (A1 : Option Addr) (c1 : Nat) (y : List ByteArray) (t : ByteArray) (b : Bool) (w : World) (hp : w.cell? p = some (.slice A1 y.length c1)) (hC : Kd.C Kd.string w A1 y.length y) (hc : y.length ≤ c1) (h : pack_Meet.keep k y t = some b) :
    Calls Try.prog 32 #[.string t, .pointer (some p)] w fun e w' => e = .returned (.bool (!b)) ∧ Drawn0 w w' := by
  obtain ⟨⟨i, b'⟩, hbs, hb⟩ := Option.bind_eq_some_iff.mp h
  obtain rfl : b' = b := Option.some.inj hb
  have HBS := Plus.Kept.mk hbs
  have HCC := Plus.Kept.mk hC
  have HLC := Plus.Kept.mk hc
  clear hbs hC h hb hc
  go_enter Try.func32, Try.ntmps32
  go_wp2_with (first | (go_at_call 33; refine (slices_BinarySearch_string_string.calls k A1 c1 y t i b' _ HCC.out HLC.out HBS.out).mono ?_; rintro e w' ⟨rfl, ⟨nd, rfl⟩⟩) | go_in)
  go_ret
  exact ⟨rfl, by repeat (first | exact Drawn0.refl _ | apply Drawn0.step)⟩
/-- The first place whose text is struck; -1: none. -/
def pack_Meet.kp (k : Nat) (y : List ByteArray) (t : ByteArray) : Bool := (pack_Meet.keep k y t).getD false
def pack_Meet.at_ (k : Nat) (y xs : List ByteArray) : Nat := xs.findIdx fun x => !pack_Meet.kp k y x
theorem pack_Meet.kp_of {k : Nat} {y xs : List ByteArray} (hk : ∀ x ∈ xs, ∃ b, pack_Meet.keep k y x = some b) {i : Nat} (hi : i < xs.length) : pack_Meet.keep k y xs[i] = some (pack_Meet.kp k y xs[i]) := by
  obtain ⟨b, hb⟩ := hk _ (List.getElem_mem hi)
  unfold pack_Meet.kp
  rw [hb]; rfl
theorem pack_Meet.rd_at {xs : List ByteArray} {i : Nat} (hi : i < xs.length) : rdOf ByteArray.empty xs (i : Int) = xs[i] := by
  unfold rdOf
  simp [List.getD_eq_getElem?_getD, hi]
def pack_Meet.clo (p : Addr) : Value := .func (.func 32) #[] #[.pointer (some p)]
set_option maxHeartbeats 8000000 in
set_option maxRecDepth 100000 in
theorem pack_Meet.idx (k : Nat) (p : Addr) (A1 : Option Addr) (c1 : Nat) (y xs : List ByteArray) (A0 : Option Addr) (c0 : Nat) (w : World) (hp : w.cell? p = some (.slice A1 y.length c1)) (hC : Kd.C Kd.string w A1 y.length y) (hc : y.length ≤ c1) (hX : Kd.C Kd.string w A0 xs.length xs) (hlen : xs.length ≤ 8796093022208) (hk : ∀ x ∈ xs, ∃ b, pack_Meet.keep k y x = some b) :
    Calls Try.prog 43 #[.slice A0 xs.length c0, .func (.func 32) #[] #[.pointer (some p)]] w fun e w' => e = .returned (.int .i64 (if pack_Meet.at_ k y xs < xs.length then (pack_Meet.at_ k y xs : Int) else -1)) ∧ Drawn0 w w' := by
  have HP := Plus.Kept.mk hp
  have HC := Plus.Kept.mk hC
  have HX := Plus.Kept.mk hX
  have HK := Plus.Kept.mk hk
  obtain ⟨z, hz⟩ : ∃ z : Int, z = (if pack_Meet.at_ k y xs < xs.length then (pack_Meet.at_ k y xs : Int) else -1) := ⟨_, rfl⟩
  rw [← hz]
  have HZ := Plus.Kept.mk hz
  clear hp hC hX hk hz
  go_enter Try.func43, Try.ntmps43
  go_wp2
  go_loopw [8] (fun v8 wr => ∃ i : Nat, v8 = .int .i64 (i : Int) ∧ Plus.Kept (i ≤ xs.length) ∧ Plus.Kept (∀ j (hj : j < i) (h2 : j < xs.length), pack_Meet.kp k y xs[j] = true) ∧ Drawn0 w wr)
    (fun v8 _ => xs.length - (Plus.intOf v8).toNat)
  case atStart => exact ⟨0, rfl, ⟨Nat.zero_le _⟩, ⟨fun j hj => by omega⟩, by repeat (first | exact Drawn0.refl _ | apply Drawn0.step)⟩
  case round =>
    obtain ⟨i, rfl, HI, HA, ⟨m1, rfl⟩⟩ := hrel
    by_cases hlt : i < xs.length
    · have c0b : decide ((i : Int) < (xs.length : Int)) = true := decide_eq_true (by omega)
      have p1 : 0 ≤ (i : Int) := by omega
      have q1 : (i : Int) < (xs.length : Int) := by omega
      obtain ⟨ad, e1, hx1⟩ := Kd.at_string HX.out (i : Int) p1 q1
      rw [pack_Meet.rd_at hlt, Int.toNat_natCast] at hx1
      have hkp := pack_Meet.kp_of HK.out hlt
      obtain ⟨s, hs⟩ : ∃ s, s = xs[i] := ⟨_, rfl⟩
      rw [← hs] at hx1 hkp
      cases e1
      replace p1 := eq_true p1
      replace q1 := eq_true q1
      have hw : wrap64 ((i : Int) + 1) = ((i + 1 : Nat) : Int) := by unfold wrap64; omega
      have HKP := Plus.Kept.mk hkp
      clear hkp
      cases hb : pack_Meet.kp k y s
      · have hat : pack_Meet.at_ k y xs = i := (List.findIdx_eq hlt).2 ⟨by rw [← hs, hb]; rfl, fun j hj => by rw [HA.out j hj (by omega)]; rfl⟩
        have HAT := Plus.Kept.mk (show z = (i : Int) from by rw [HZ.out, hat, if_pos hlt])
        rw [hb] at HKP
        clear hat hb hs
        go_wp2_with (first | (go_at_call 32; refine (pack_Meet.del k p A1 c1 y s false (w.drewN m1) (show (w.drewN m1).cell? p = _ from HP.out) (Kd.C_drewN HC.out _) hc HKP.out).mono ?_; rintro e w' ⟨rfl, ⟨nd, rfl⟩⟩) | go_in)
        go_ret
        exact ⟨by rw [HAT.out]; rfl, by repeat (first | exact Drawn0.refl _ | apply Drawn0.step)⟩
      · have hA' : ∀ j (hj : j < i + 1) (h2 : j < xs.length), pack_Meet.kp k y xs[j] = true := fun j hj h2 => by
          by_cases e : j = i
          · subst e; rw [← hs]; exact hb
          · exact HA.out j (by omega) h2
        have HA' := Plus.Kept.mk hA'
        rw [hb] at HKP
        clear hA' hb hs
        go_wp2_with (first | (go_at_call 32; refine (pack_Meet.del k p A1 c1 y s true (w.drewN m1) (show (w.drewN m1).cell? p = _ from HP.out) (Kd.C_drewN HC.out _) hc HKP.out).mono ?_; rintro e w' ⟨rfl, ⟨nd, rfl⟩⟩) | go_in)
        go_roundw
        case rel => exact ⟨i + 1, (by first | rfl | rw [hw]), ⟨hlt⟩, HA', by repeat (first | exact Drawn0.refl _ | apply Drawn0.step)⟩
        case measure => simp only [Plus.intOf]; omega
    · obtain rfl : i = xs.length := by have := HI.out; omega
      have hat : ¬ pack_Meet.at_ k y xs < xs.length := by
        unfold pack_Meet.at_
        rw [List.findIdx_eq_length.2 (fun x hx => by
          obtain ⟨j, hj, rfl⟩ := List.getElem_of_mem hx
          rw [HA.out j hj hj]; rfl)]
        omega
      have HAT := Plus.Kept.mk (show z = -1 from by rw [HZ.out, if_neg hat])
      clear hat
      go_wp2
      go_ret
      exact ⟨by rw [HAT.out]; rfl, by repeat (first | exact Drawn0.refl _ | apply Drawn0.step)⟩
theorem pack_Meet.wrap_small {x : Int} (h0 : 0 ≤ x) (h1 : x ≤ 4611686018427387904) : wrap64 x = x := by unfold wrap64; omega
theorem pack_Meet.wrap_nat {i n : Nat} (h : i ≤ n) (hn : n ≤ 8796093022208) : wrap64 ((i : Int) + 1) = (i : Int) + 1 := by unfold wrap64; omega
theorem pack_Meet.grown_set {w : World} {g i : Nat} {v : Value} {cur : Array Value} {t : TypeId} (hb : w.heap[g]? = some (.cells cur t (0, 0))) : w.grownBy (w.setCell ⟨g, i, none⟩ v) (some g) := by
  rw [setCell_eq_setRow _ _ _ _ _ _ _ hb]
  exact ⟨rfl, rfl, rfl, by rw [setRow_size]; exact Nat.le_refl _, fun k _ hk => setRow_other _ _ _ _ (fun e => hk (by rw [e]))⟩
theorem pack_Meet.set_cells {g : Nat} {t : TypeId} : ∀ (vs : List Value) (o : Nat) (w : World) (cur : Array Value), w.heap[g]? = some (.cells cur t (0, 0)) → ∃ cur' : Array Value, (w.setCells g o vs).heap[g]? = some (.cells cur' t (0, 0)) ∧ cur'.size = cur.size ∧ cur'.toList.take o = cur.toList.take o ∧ w.grownBy (w.setCells g o vs) (some g)
  | [], o, w, cur, h => ⟨cur, h, rfl, rfl, World.grownBy.refl _ _⟩
  | v :: vs, o, w, cur, h => by
    have h1 : (w.setCell ⟨g, o, none⟩ v).heap[g]? = some (.cells (cur.setIfInBounds o v) t (0, 0)) := by rw [setCell_eq_setRow _ _ _ _ _ _ _ h, setRow_heap _ _ _ _ _ _ h]
    obtain ⟨cur', a, b, c, d⟩ := pack_Meet.set_cells vs (o + 1) _ _ h1
    refine ⟨cur', a, by rw [b]; simp, ?_, (pack_Meet.grown_set h).trans d⟩
    have := congrArg (List.take o) c
    rw [List.take_take, List.take_take, Nat.min_eq_left (Nat.le_succ o)] at this
    rw [this, Array.toList_setIfInBounds, List.take_set_of_le (Nat.le_refl _)]
/-- Where the rows stand while texts are struck. -/
def pack_Meet.St (k : Nat) (y xs : List ByteArray) (tl : List Value) (i j : Nat) (cur : Array Value) : Prop :=
  ∃ (K : List ByteArray) (x : Value) (jk : List Value), i = K.length ∧ K = (xs.take j).filter (pack_Meet.kp k y) ∧ K.length + (jk.length + 1) = j ∧ j ≤ xs.length ∧ cur.toList = K.map Value.string ++ (x :: jk) ++ (xs.drop j).map Value.string ++ tl
theorem pack_Meet.st_read {k : Nat} {y xs : List ByteArray} {tl : List Value} {i j : Nat} {cur : Array Value} (h : pack_Meet.St k y xs tl i j cur) (hj : j < xs.length) : cur[j]? = some (.string xs[j]) := by
  obtain ⟨K, x, jk, _, _, hl, _, hc⟩ := h
  rw [← Array.getElem?_toList, hc, List.append_assoc, List.getElem?_append_right (by simp; omega)]
  simp only [List.length_append, List.length_map, List.length_cons]
  rw [show j - (K.length + (jk.length + 1)) = 0 by omega, List.getElem?_append_left (by simp; omega), List.getElem?_map, List.getElem?_drop, Nat.add_zero, List.getElem?_eq_getElem hj]
  rfl
theorem pack_Meet.drop_at {xs : List ByteArray} {j : Nat} (hj : j < xs.length) : xs.drop j = xs[j] :: xs.drop (j + 1) := List.drop_eq_getElem_cons hj
theorem pack_Meet.drop_map {xs : List ByteArray} {j : Nat} (hj : j < xs.length) : (xs.map Value.string).drop j = .string xs[j] :: (xs.map Value.string).drop (j + 1) := by rw [← List.map_drop, pack_Meet.drop_at hj, List.map_cons, List.map_drop]
theorem pack_Meet.st_skip {k : Nat} {y xs : List ByteArray} {tl : List Value} {i j : Nat} {cur : Array Value} (h : pack_Meet.St k y xs tl i j cur) (hj : j < xs.length) (hb : pack_Meet.kp k y xs[j] = false) : pack_Meet.St k y xs tl i (j + 1) cur := by
  obtain ⟨K, x, jk, hi, hK, hl, _, hc⟩ := h
  refine ⟨K, x, jk ++ [.string xs[j]], hi, ?_, by simp; omega, hj, ?_⟩
  · rw [List.take_succ_eq_append_getElem hj, List.filter_append, ← hK]
    simp [hb]
  · rw [hc]; simp [pack_Meet.drop_map hj]
theorem pack_Meet.st_keep {k : Nat} {y xs : List ByteArray} {tl : List Value} {i j : Nat} {cur : Array Value} (h : pack_Meet.St k y xs tl i j cur) (hj : j < xs.length) (hb : pack_Meet.kp k y xs[j] = true) : pack_Meet.St k y xs tl (i + 1) (j + 1) (cur.setIfInBounds i (.string xs[j])) := by
  obtain ⟨K, x, jk, hi, hK, hl, _, hc⟩ := h
  have key : ((K.map Value.string ++ (x :: jk) ++ (xs.drop j).map Value.string ++ tl).set i (.string xs[j])) = (K ++ [xs[j]]).map Value.string ++ (jk ++ [.string xs[j]]) ++ (xs.drop (j + 1)).map Value.string ++ tl := by
    rw [hi, List.append_assoc, List.append_assoc, List.set_append_right _ _ (by simp)]
    simp [pack_Meet.drop_map hj]
  have hset : (cur.setIfInBounds i (.string xs[j])).toList = (K ++ [xs[j]]).map Value.string ++ (jk ++ [.string xs[j]]) ++ (xs.drop (j + 1)).map Value.string ++ tl := by rw [Array.toList_setIfInBounds, hc, key]
  have hK2 : K ++ [xs[j]] = (xs.take (j + 1)).filter (pack_Meet.kp k y) := by
    rw [List.take_succ_eq_append_getElem hj, List.filter_append, ← hK]
    simp [hb]
  cases jk with
  | nil => exact ⟨K ++ [xs[j]], .string xs[j], [], by simp; omega, hK2, by simp at hl ⊢; omega, hj, by rw [hset]; simp⟩
  | cons z jk => exact ⟨K ++ [xs[j]], z, jk ++ [.string xs[j]], by simp; omega, hK2, by simp at hl ⊢; omega, hj, by rw [hset]; simp⟩
theorem pack_Meet.st_lt {k : Nat} {y xs : List ByteArray} {tl : List Value} {i j : Nat} {cur : Array Value} (h : pack_Meet.St k y xs tl i j cur) : i < j ∧ j ≤ xs.length := by
  obtain ⟨K, x, jk, hi, _, hl, hj, _⟩ := h
  omega
theorem pack_Meet.st_end {k : Nat} {y xs : List ByteArray} {tl : List Value} {i : Nat} {cur : Array Value} (h : pack_Meet.St k y xs tl i xs.length cur) : i = (xs.filter (pack_Meet.kp k y)).length ∧ cur.toList.take i = (xs.filter (pack_Meet.kp k y)).map Value.string := by
  obtain ⟨K, x, jk, hi, hK, hl, _, hc⟩ := h
  rw [List.take_length] at hK
  subst hK
  refine ⟨hi, ?_⟩
  rw [hc, List.append_assoc, List.append_assoc, hi]
  exact List.take_left' (by simp)
theorem pack_Meet.st_start {k : Nat} {y xs : List ByteArray} {tl : List Value} {a : Nat} {cur : Array Value} (ha : a < xs.length) (hat : pack_Meet.at_ k y xs = a) (hc : cur.toList = xs.map Value.string ++ tl) : pack_Meet.St k y xs tl a (a + 1) cur := by
  have h1 : ∀ j (hj : j < a), pack_Meet.kp k y (xs[j]'(by omega)) = true := fun j hj => by
    have := List.not_of_lt_findIdx (p := fun x => !pack_Meet.kp k y x) (xs := xs) (i := j) (by unfold pack_Meet.at_ at hat; rw [hat]; exact hj)
    simpa using this
  have h2 : pack_Meet.kp k y xs[a] = false := by
    have := List.findIdx_getElem (p := fun x => !pack_Meet.kp k y x) (xs := xs) (w := by unfold pack_Meet.at_ at hat; rw [hat]; exact ha)
    unfold pack_Meet.at_ at hat
    simp only [hat] at this
    simpa using this
  have hf : (xs.take a).filter (pack_Meet.kp k y) = xs.take a := List.filter_eq_self.2 fun x hx => by
    obtain ⟨j, hj, rfl⟩ := List.getElem_of_mem hx
    rw [List.getElem_take]
    exact h1 j (by rw [List.length_take] at hj; omega)
  refine ⟨xs.take a, .string xs[a], [], by simp; omega, ?_, by simp; omega, ha, ?_⟩
  · rw [List.take_succ_eq_append_getElem ha, List.filter_append, hf]
    simp [h2]
  · rw [hc]
    conv => lhs; rw [← List.take_append_drop a (xs.map Value.string), pack_Meet.drop_map ha]
    simp
set_option maxHeartbeats 8000000 in
set_option maxRecDepth 100000 in
theorem pack_Meet.delf (k : Nat) (p : Addr) (A1 : Option Addr) (c1 : Nat) (y xs : List ByteArray) (g cap : Nat) (cur : Array Value) (tl : List Value) (w : World)
    (hp : ∀ w1, w.grownBy w1 (some g) → w1.cell? p = some (.slice A1 y.length c1)) (hC : ∀ w1, w.grownBy w1 (some g) → Kd.C Kd.string w1 A1 y.length y) (hc : y.length ≤ c1) (hbk : w.heap[g]? = some (.cells cur 9 (0, 0))) (hcap : xs.length ≤ cap) (hcs : cur.size = cap) (hcm : cap ≤ maxLen) (hct : cur.toList = xs.map Value.string ++ tl)
    (hlen : xs.length ≤ 8796093022208) (hk : ∀ x ∈ xs, ∃ b, pack_Meet.keep k y x = some b) :
    Calls Try.prog 31 #[.slice (some ⟨g, 0, none⟩) xs.length cap, .func (.func 32) #[] #[.pointer (some p)]] w fun e w' => ∃ cur' : Array Value, e = .returned (.slice (some ⟨g, 0, none⟩) (xs.filter (pack_Meet.kp k y)).length cap) ∧ w'.heap[g]? = some (.cells cur' 9 (0, 0)) ∧ cur'.size = cap ∧ cur'.toList.take (xs.filter (pack_Meet.kp k y)).length = (xs.filter (pack_Meet.kp k y)).map Value.string ∧ w.grownBy w' (some g) := by
  have hX : Kd.C Kd.string w (some ⟨g, 0, none⟩) xs.length xs := by
    refine Kd.C_of_reads (enc := Value.string) (d := ByteArray.empty) (h1 := fun _ => rfl) ⟨rfl, by omega, fun _ => ⟨_, rfl, fun j hj => ?_⟩⟩
    rw [pack_set_string.add_at, Nat.zero_add]
    have : cur[j]? = some (.string xs[j]) := by
      rw [← Array.getElem?_toList, hct, List.getElem?_append_left (by simp; exact hj), List.getElem?_map, List.getElem?_eq_getElem hj, Option.map_some]
    simp [World.cell?, hbk, this, List.getD_eq_getElem?_getD, hj]
  have hidx := pack_Meet.idx k p A1 c1 y xs (some ⟨g, 0, none⟩) cap w (hp _ (World.grownBy.refl _ _)) (hC _ (World.grownBy.refl _ _)) hc hX hlen hk
  have HP := Plus.Kept.mk hp
  have HC := Plus.Kept.mk hC
  have HK := Plus.Kept.mk hk
  have HBK := Plus.Kept.mk hbk
  have HCT := Plus.Kept.mk hct
  clear hp hC hk hX hbk hct
  by_cases ha : pack_Meet.at_ k y xs < xs.length
  · rw [if_pos ha] at hidx
    obtain ⟨a, hae⟩ : ∃ a, a = pack_Meet.at_ k y xs := ⟨_, rfl⟩
    rw [← hae] at hidx ha
    have HI := Plus.Kept.mk hidx
    have hst := pack_Meet.st_start ha hae.symm HCT.out
    have HST := Plus.Kept.mk hst
    have hn1 : decide ((a : Int) = -1) = false := decide_eq_false (by omega)
    have hn2 : ((a : Int) == -1) = false := beq_eq_false_iff_ne.2 (by omega)
    have hn3 : ((a : Int) = -1) = False := eq_false (by omega)
    have hw0 : wrap64 ((a : Int) + 1) = (a : Int) + 1 := pack_Meet.wrap_nat (Nat.le_of_lt ha) hlen
    clear hidx hst hae
    go_enter Try.func31, Try.ntmps31
    go_wp2_with (first | (go_at_call 43; refine HI.out.mono ?_; rintro e w1 ⟨rfl, ⟨nd0, rfl⟩⟩) | go_in)
    go_loopw [5, 6] (fun v5 v6 wr => ∃ (i j : Nat) (cu : Array Value), v5 = .int .i64 (i : Int) ∧ v6 = .int .i64 (j : Int) ∧ Plus.Kept (pack_Meet.St k y xs tl i j cu) ∧ Plus.Kept (wr.heap[g]? = some (.cells cu 9 (0, 0)) ∧ cu.size = cap) ∧ Plus.Kept (w.grownBy wr (some g)))
      (fun _ v6 _ => xs.length - (Plus.intOf v6).toNat)
    case atStart => exact ⟨a, a + 1, cur, rfl, by first | rfl | simp, HST, ⟨HBK.out, hcs⟩, ⟨⟨rfl, rfl, rfl, Nat.le_refl _, fun _ _ _ => rfl⟩⟩⟩
    case round =>
      obtain ⟨i, j, cu, rfl, rfl, HS, HG, HW⟩ := hrel
      have hij := pack_Meet.st_lt HS.out
      by_cases hlt : j < xs.length
      · have c0b : decide ((j : Int) < (xs.length : Int)) = true := decide_eq_true (by omega)
        have p1 : (0 ≤ (j : Int)) = True := eq_true (by omega)
        have q1 : ((j : Int) < (xs.length : Int)) = True := eq_true (by omega)
        have p2 : (0 ≤ (i : Int)) = True := eq_true (by omega)
        have q2 : ((i : Int) < (xs.length : Int)) = True := eq_true (by omega)
        have hrd := pack_Meet.st_read HS.out hlt
        have hkp := pack_Meet.kp_of HK.out hlt
        obtain ⟨s, hs⟩ : ∃ s, s = xs[j] := ⟨_, rfl⟩
        have hx1 : wr.cell? ⟨g, j, none⟩ = some (.string s) := by simp [World.cell?, HG.out.1, hrd, hs]
        have hci : ∃ v, cu[i]? = some v := ⟨_, Array.getElem?_eq_getElem (by have := HG.out.2; omega)⟩
        obtain ⟨vi, hci⟩ := hci
        have hx2 : wr.cell? ⟨g, i, none⟩ = some vi := by simp [World.cell?, HG.out.1, hci]
        have hf2 : wr.frozen? ⟨g, i, none⟩ = false := by simp [World.frozen?, HG.out.1]
        have hwj : wrap64 ((j : Int) + 1) = (j : Int) + 1 := pack_Meet.wrap_nat (Nat.le_of_lt hlt) hlen
        have hwi : wrap64 ((i : Int) + 1) = (i : Int) + 1 := pack_Meet.wrap_nat (Nat.le_trans (Nat.le_of_lt hij.1) hij.2) hlen
        rw [← hs] at hkp
        have HKP := Plus.Kept.mk hkp
        clear hkp hrd hci
        cases hb : pack_Meet.kp k y s
        · have HS2 := Plus.Kept.mk (pack_Meet.st_skip HS.out hlt (by rw [← hs]; exact hb))
          rw [hb] at HKP
          clear hb hs hij
          go_wp2_with (first | (go_at_call 32; refine (pack_Meet.del k p A1 c1 y s false wr (HP.out wr HW.out) (HC.out wr HW.out) hc HKP.out).mono ?_; rintro e w' ⟨rfl, ⟨nd, rfl⟩⟩) | go_in)
          go_roundw
          case rel => exact ⟨i, j + 1, cu, rfl, by first | rfl | (rw [hwj]; rfl), HS2, ⟨HG.out.1, HG.out.2⟩, ⟨⟨HW.out.os, HW.out.tape, HW.out.output, HW.out.size, HW.out.block⟩⟩⟩
          case measure => simp only [Plus.intOf]; omega
        · have HS2 := Plus.Kept.mk (pack_Meet.st_keep HS.out hlt (by rw [← hs]; exact hb))
          rw [hb] at HKP
          rw [← hs] at HS2
          clear hb hs hij
          go_wp2_with (first | (go_at_call 32; refine (pack_Meet.del k p A1 c1 y s true wr (HP.out wr HW.out) (HC.out wr HW.out) hc HKP.out).mono ?_; rintro e w' ⟨rfl, ⟨nd, rfl⟩⟩) | go_in)
          go_roundw
          case rel =>
            have hb2 : (wr.drewN nd).heap[g]? = some (.cells cu 9 (0, 0)) := HG.out.1
            exact ⟨i + 1, j + 1, _, by first | rfl | (rw [hwi]; rfl), by first | rfl | (rw [hwj]; rfl), HS2, ⟨by rw [setCell_eq_setRow _ _ _ _ _ _ _ hb2, setRow_heap _ _ _ _ _ _ hb2], by rw [Array.size_setIfInBounds]; exact HG.out.2⟩, ⟨World.grownBy.trans (show w.grownBy (wr.drewN nd) (some g) from ⟨HW.out.os, HW.out.tape, HW.out.output, HW.out.size, HW.out.block⟩) (pack_Meet.grown_set hb2)⟩⟩
          case measure => simp only [Plus.intOf]; omega
      · obtain rfl : j = xs.length := by omega
        obtain ⟨he1, he2⟩ := pack_Meet.st_end HS.out
        have hlt2 : i < xs.length := hij.1
        have hcl : ∀ ty, (Builtin.clear_ #[22] ty #[.slice (some ⟨g, i, none⟩) (xs.length - i) (cap - i)]).run Try.prog wr = .ok (.tuple #[]) (wr.setCells g i (List.replicate (xs.length - i) (.string ⟨#[]⟩))) :=
          fun ty => Lib.run_clear_slice wr _ _ ty (.string ⟨#[]⟩) Try.underlying22 (fun w => by kernel_rfl) rfl rfl g i _ _ (by omega) (fun q hq => by
            have hqc : i + q < cu.size := by have := HG.out.2; omega
            simp [World.cell?, HG.out.1, hqc]) (fun q _ => by simp [World.frozen?, HG.out.1])
        obtain ⟨cu2, hb2, hs2, ht2, hg2⟩ := pack_Meet.set_cells (List.replicate (xs.length - i) (Value.string ⟨#[]⟩)) i wr cu HG.out.1
        have c0b : decide ((xs.length : Int) < (xs.length : Int)) = false := decide_eq_false (by omega)
        have p2 : (0 ≤ (i : Int)) = True := eq_true (Int.natCast_nonneg i)
        have q2 : ((i : Int) ≤ (xs.length : Int)) = True := eq_true (Int.ofNat_le.2 (Nat.le_of_lt hlt2))
        have HE1 := Plus.Kept.mk he1
        have HE2 := Plus.Kept.mk he2
        have HT2 := Plus.Kept.mk ht2
        have HB2 := Plus.Kept.mk hb2
        have HG2 := Plus.Kept.mk hg2
        have HS2 := Plus.Kept.mk hs2
        clear he1 he2 ht2 hb2 hg2 hs2 hij
        go_wp2
        go_ret
        refine ⟨cu2, by rw [← HE1.out]; rfl, HB2.out, by rw [HS2.out]; exact HG.out.2, ?_, HW.out.trans HG2.out⟩
        rw [← HE1.out, HT2.out]
        exact HE2.out
  · rw [if_neg ha] at hidx
    have hfl : xs.filter (pack_Meet.kp k y) = xs := List.filter_eq_self.2 fun x hx => by
      have h1 : pack_Meet.at_ k y xs = xs.length := Nat.le_antisymm List.findIdx_le_length (Nat.not_lt.1 ha)
      have := List.findIdx_eq_length.1 h1 x hx
      simpa using this
    rw [hfl]
    have HI := Plus.Kept.mk hidx
    clear hidx hfl
    go_enter Try.func31, Try.ntmps31
    go_wp2_with (first | (go_at_call 43; refine HI.out.mono ?_; rintro e w1 ⟨rfl, ⟨nd0, rfl⟩⟩) | go_in)
    go_ret
    refine ⟨cur, rfl, HBK.out, hcs, ?_, ⟨rfl, rfl, rfl, Nat.le_refl _, fun _ _ _ => rfl⟩⟩
    rw [HCT.out]
    exact List.take_left' (by simp)
set_option maxHeartbeats 8000000 in
set_option maxRecDepth 100000 in
theorem pack_Meet.del0 (k : Nat) (p : Addr) (A1 : Option Addr) (c1 : Nat) (y : List ByteArray) (A0 : Option Addr) (c0 : Nat) (w : World) (hp : w.cell? p = some (.slice A1 y.length c1)) (hC : Kd.C Kd.string w A1 y.length y) (hc : y.length ≤ c1) (hX : Kd.C Kd.string w A0 0 []) :
    Calls Try.prog 31 #[.slice A0 0 c0, .func (.func 32) #[] #[.pointer (some p)]] w fun e w' => e = .returned (.slice A0 0 c0) ∧ Drawn0 w w' := by
  have hidx := pack_Meet.idx k p A1 c1 y [] A0 c0 w hp hC hc hX (Nat.zero_le _) (fun x hx => by simp at hx)
  rw [if_neg (by simp)] at hidx
  have HI := Plus.Kept.mk hidx
  clear hidx hp hC hX
  go_enter Try.func31, Try.ntmps31
  go_wp2_with (first | (go_at_call 43; refine HI.out.mono ?_; rintro e w1 ⟨rfl, ⟨nd0, rfl⟩⟩) | go_in)
  go_ret
  exact ⟨rfl, by repeat (first | exact Drawn0.refl _ | apply Drawn0.step)⟩
theorem pack_Meet.delR (k : Nat) (p : Addr) (A1 : Option Addr) (c1 : Nat) (y xs : List ByteArray) (A0 : Option Addr) (c0 base : Nat) (ok : Nat → Prop) (w : World) (hR : Kd.R Kd.string 9 w base ok (.slice A0 xs.length c0) xs)
    (hp : ∀ w1, w.grownBy w1 (Value.slice A0 xs.length c0).ownBlock → w1.cell? p = some (.slice A1 y.length c1)) (hC : ∀ w1, w.grownBy w1 (Value.slice A0 xs.length c0).ownBlock → Kd.C Kd.string w1 A1 y.length y) (hc : y.length ≤ c1)
    (hlen : xs.length ≤ 8796093022208) (hk : ∀ x ∈ xs, ∃ b, pack_Meet.keep k y x = some b) :
    Calls Try.prog 31 #[.slice A0 xs.length c0, .func (.func 32) #[] #[.pointer (some p)]] w fun e w' => ∃ v', e = .returned v' ∧ Kd.R Kd.string 9 w' base (fun _ => True) v' (xs.filter (pack_Meet.kp k y)) ∧ w.grownBy w' (Value.slice A0 xs.length c0).ownBlock := by
  have hX := (Kd.R_reads' hR).2.2
  rcases (Kd.own_of_R hR).2 with ⟨hnil, _⟩ | ⟨g, cap, cur, hv, hbase, hb, h1, h2, h3, h4⟩
  · injection hnil with e1 e2 e3
    obtain rfl : xs = [] := List.eq_nil_of_length_eq_zero e2
    subst e1 e3
    refine (pack_Meet.del0 k p A1 c1 y none 0 w (hp _ (World.grownBy.refl _ _)) (hC _ (World.grownBy.refl _ _)) hc hX).mono fun e w' ⟨he, ⟨n, hw⟩⟩ => ?_
    subst hw
    exact ⟨_, he, Kd.R_nil _ _ _ _ _, ⟨rfl, rfl, rfl, Nat.le_refl _, fun _ _ _ => rfl⟩⟩
  · injection hv with e1 e2 e3
    subst e1 e3
    have hct : cur.toList = xs.map Value.string ++ cur.toList.drop xs.length := by
      rw [Nat.mul_one] at h4
      conv => lhs; rw [← List.take_append_drop xs.length cur.toList, h4]
      rfl
    refine (pack_Meet.delf k p A1 c1 y xs g c0 cur _ w hp hC hc hb (by omega) (by omega) h2 hct hlen hk).mono fun e w' ⟨cur', he, hb', hs', ht', hg'⟩ => ⟨_, he, ?_, hg'⟩
    have hfl : (xs.filter (pack_Meet.kp k y)).length ≤ xs.length := List.length_filter_le _ _
    exact Kd.R_of_own (enc := Value.string) (h1 := fun _ => rfl) ⟨by simp [encs], .inr ⟨g, c0, cur', rfl, hbase, hb', by omega, h2, by omega, by rw [Nat.mul_one]; exact ht'⟩⟩ (fun _ _ => trivial)
theorem pack_Meet.set_short {l x : List ByteArray} (h : pack_set_string.f l = some x) : x.length ≤ 8796093022208 := by
  unfold pack_set_string.f at h
  split at h
  case isFalse => cases h
  rename_i hs
  rw [← Option.some.inj h]
  have h1 := Plus.tset_length_le (pack_set_string.keys l)
  have h2 : (pack_set_string.keys l).length = l.length := by simp [pack_set_string.keys]
  have h3 : (pack_set_string.texts (Plus.tset (pack_set_string.keys l))).length = (Plus.tset (pack_set_string.keys l)).length := by simp [pack_set_string.texts]
  omega
theorem pack_Meet.fin (k : Nat) (l0 l1 x y : List ByteArray) (Xv : Option Addr) (cx : Nat) (Yv : Option Addr) (cy : Nat) (w w1 w2 : World) (hX : Kd.R Kd.string 9 w1 w.heap.size (fun _ => True) (.slice Xv x.length cx) x) (hY : Kd.R Kd.string 9 w2 w1.heap.size (fun _ => True) (.slice Yv y.length cy) y)
    (hbw : Below w.heap.size w w1) (hb : Below w1.heap.size w1 w2) (hk : ∀ z ∈ x, ∃ b, pack_Meet.keep k y z = some b) (hlen : x.length ≤ 8796093022208) :
    Calls Try.prog 31 #[.slice Xv x.length cx, .func (.func 32) #[] #[.pointer (some ⟨w2.heap.size, 0, none⟩)]] (w2.alloc (.cells #[.slice Yv y.length cy] 22 (0, 0))) fun e w' => ∃ v', e = .returned v' ∧ Kd.R Kd.string 9 w' w.heap.size (fun _ => True) v' (x.filter (pack_Meet.kp k y)) ∧ True ∧ Below w.heap.size w w' := by
  have hXb := Kd.R_below (Kd.R_below hX hb) (below_alloc (Below.refl w2.heap.size w2) (.cells #[.slice Yv y.length cy] 22 (0, 0)))
  have hlt := Kd.R_lt hX
  have hYa : Kd.R Kd.string 9 (w2.alloc (.cells #[.slice Yv y.length cy] 22 (0, 0))) w1.heap.size (fun k => w1.heap.size ≤ k) (.slice Yv y.length cy) y := Kd.R_alloc (Kd.R_mono (Kd.R_bound hY) (fun _ h => h.2.1)) _
  have hb2 : Below w1.heap.size w1 (w2.alloc (.cells #[.slice Yv y.length cy] 22 (0, 0))) := hb.alloc hb.size _
  refine (pack_Meet.delR k ⟨w2.heap.size, 0, none⟩ Yv cy y x Xv cx w.heap.size _ _ hXb (fun w3 hg => ?_) (fun w3 hg => ?_) (Kd.R_reads' hY).2.1 hlen hk).mono fun e w' ⟨v', he, hR, hg⟩ => ⟨v', he, hR, trivial, ?_⟩
  · have hne : some w2.heap.size ≠ (Value.slice Xv x.length cx).ownBlock := fun e => by have := hlt _ e.symm; have := hb.size; omega
    have := hg.block w2.heap.size (by simp) hne
    rw [World.cell?_of_block this]
    unfold World.cell?
    rw [blk_new]; rfl
  · exact (Kd.R_reads' (Kd.R_grown hYa hg (fun q hq e => by have := hlt q e.symm; omega))).2.2
  · have hb3 := (below_step hbw hb).alloc (below_step hbw hb).size (.cells #[.slice Yv y.length cy] 22 (0, 0))
    exact hb3.grown hg hb3.size (fun q hq => Kd.R_base hX q hq)
set_option maxHeartbeats 8000000 in
set_option maxRecDepth 100000 in
theorem pack_Meet.calls (k : Nat) (A0 : Option Addr) (c0 : Nat) (l0 : List ByteArray) (A1 : Option Addr) (c1 : Nat) (l1 : List ByteArray) (r : List ByteArray) (w : World) (hr0 : Kd.C Kd.string w A0 l0.length l0) (hc0 : l0.length ≤ c0) (hr1 : Kd.C Kd.string w A1 l1.length l1) (hc1 : l1.length ≤ c1) (h : pack_Meet.f k l0 l1 = some r) :
    Calls Try.prog 15 #[.slice A0 l0.length c0, .slice A1 l1.length c1] w fun e w' => ∃ v0_ : Value, e = .returned v0_ ∧ Kd.R Kd.string 9 w' w.heap.size (fun _ => True) v0_ r ∧ Below w.heap.size w w' := by
  obtain ⟨x, hx, h⟩ := Option.bind_eq_some_iff.mp h
  obtain ⟨y, hy, h⟩ := Option.bind_eq_some_iff.mp h
  obtain ⟨hk, hr⟩ := pack_Meet.filt_all h
  have HR0 := Plus.Kept.mk hr0
  have HR1 := Plus.Kept.mk hr1
  have HX := Plus.Kept.mk hx
  have HY := Plus.Kept.mk hy
  have HK := Plus.Kept.mk hk
  have HRR := Plus.Kept.mk hr
  have HLX := Plus.Kept.mk (pack_Meet.set_short hx)
  clear hr0 hr1 hx hy h hk hr
  go_enter Try.func15, Try.ntmps15
  go_wp2_with (first
    | (go_at_call 25; refine (pack_set_string.calls A0 c0 l0 x w HR0.out hc0 HX.out).mono ?_; rintro e w1 ⟨v1, rfl, hR1, hb1⟩; obtain ⟨Xv, cx, rfl⟩ := Kd.R_slice hR1; have HRA := Plus.Kept.mk hR1; have HBA := Plus.Kept.mk hb1; clear hR1 hb1)
    | (go_at_call 25; refine (pack_set_string.calls A1 c1 l1 y w1 (Kd.C_below HR1.out HBA.out) hc1 HY.out).mono ?_; rintro e w2 ⟨v2, rfl, hR2, hb2⟩; obtain ⟨Yv, cy, rfl⟩ := Kd.R_slice hR2; have HRB := Plus.Kept.mk hR2; have HBB := Plus.Kept.mk hb2; clear hR2 hb2)
    | (go_at_call 31; refine (pack_Meet.fin k l0 l1 x y Xv cx Yv cy w w1 w2 HRA.out HRB.out HBA.out HBB.out HK.out HLX.out).mono ?_; rintro e w3 ⟨v3, rfl, hR3, hg3, hB3⟩)
    | go_in)
  go_ret
  rw [HRR.out]
  exact ⟨_, rfl, hR3, hB3⟩

/-! ### slices_Equal_string_string: function 34 -/
def slices_Equal_string_string.l0 : Nat → List ByteArray → List ByteArray → Int → Int → Option (Bool)
  | 0, _, _, _, _ => none
  | k + 1, x0, x1, x12, x13 => if x13 < x12 then (if 0 ≤ x13 then (if x13 < (x0.length : Int) then (if x13 < (x1.length : Int) then (if (rdOf ByteArray.empty x0 x13).toList = (rdOf ByteArray.empty x1 x13).toList then (slices_Equal_string_string.l0 k x0 x1 x12 (wrap64 (x13 + 1))) else (some false)) else (none)) else (none)) else (none)) else (some true)
def slices_Equal_string_string.f (k : Nat) (l0 : List ByteArray) (l1 : List ByteArray) : Option (Bool) := if (l0.length : Int) = (l1.length : Int) then (slices_Equal_string_string.l0 k l0 l1 (l0.length : Int) 0) else (some false)
theorem slices_Equal_string_string.mono_l : ∀ k, (∀ y0 y1 y2 y3, LeO (slices_Equal_string_string.l0 k y0 y1 y2 y3) (slices_Equal_string_string.l0 (k + 1) y0 y1 y2 y3))
  | 0 => fun _ _ _ _ r h => by simp [slices_Equal_string_string.l0] at h
  | k + 1 => by
    have ih0 := slices_Equal_string_string.mono_l k
    · intro y0 y1 y2 y3
      unfold slices_Equal_string_string.l0
      repeat' first
      | (with_reducible exact ih0 _ _ _ _)
      | (with_reducible exact LeO.refl _)
      | (with_reducible exact LeO.none _)
      | (with_reducible refine LeO.ite ?_ ?_)
      | (with_reducible refine LeO.bind ?_ (fun _ => ?_))
      | exact ih0 _ _ _ _
      | exact LeO.none _
      | refine LeO.ite ?_ ?_
      | refine LeO.bind ?_ (fun _ => ?_)
theorem slices_Equal_string_string.mono : ∀ a0 a1 k, LeO (slices_Equal_string_string.f k a0 a1) (slices_Equal_string_string.f (k + 1) a0 a1) := by
  intro a0 a1 k
  have ih0 := slices_Equal_string_string.mono_l k
  unfold slices_Equal_string_string.f
  repeat' first
      | (with_reducible exact ih0 _ _ _ _)
      | (with_reducible exact LeO.refl _)
      | (with_reducible exact LeO.none _)
      | (with_reducible refine LeO.ite ?_ ?_)
      | (with_reducible refine LeO.bind ?_ (fun _ => ?_))
      | exact ih0 _ _ _ _
      | exact LeO.none _
      | refine LeO.ite ?_ ?_
      | refine LeO.bind ?_ (fun _ => ?_)
set_option maxHeartbeats 8000000 in
set_option maxRecDepth 100000 in
theorem slices_Equal_string_string.calls (k : Nat) (A0 : Option Addr) (c0 : Nat) (l0 : List ByteArray) (A1 : Option Addr) (c1 : Nat) (l1 : List ByteArray) (r : Bool) (w : World) (hr0 : Kd.C Kd.string w A0 l0.length l0) (hc0 : l0.length ≤ c0) (hr1 : Kd.C Kd.string w A1 l1.length l1) (hc1 : l1.length ≤ c1) (h : slices_Equal_string_string.f k l0 l1 = some r) :
    Calls Try.prog 34 #[.slice A0 l0.length c0, .slice A1 l1.length c1] w fun e w' => e = .returned (.bool r) ∧ Drawn0 w w' := by
  have HR0 := Aside0.mk hr0
  have HC0 := Aside0.mk hc0
  clear hr0 hc0
  have HR1 := Aside0.mk hr1
  have HC1 := Aside0.mk hc1
  clear hr1 hc1
  have H : (if (l0.length : Int) = (l1.length : Int) then (slices_Equal_string_string.l0 k l0 l1 (l0.length : Int) 0) else (some false)) = some r := h
  clear h
  by_cases c3 : (l0.length : Int) = (l1.length : Int)
  · rw [if_pos c3] at H
    have c3b0 : ((l0.length : Int) == (l1.length : Int)) = true := beq_iff_eq.mpr c3
    have c3b1 : ((l0.length : Int) != (l1.length : Int)) = false := bne_eq_false_iff_eq.mpr c3
    have c3b2 : (l0.length == l1.length) = true := by first | simpa using c3 | (simp at c3 ⊢; omega)
    clear c3
    have H' := Aside0.mk H
    clear H
    go_enter Try.func34, Try.ntmps34
    go_wp2
    repeat (go_quiet (fail); try go_wp2)
    go_loopg [13] k (fun kq v13 w' => ∃ (x13_1 : Int), v13 = .int .i64 x13_1 ∧ Aside0 (slices_Equal_string_string.l0 kq l0 l1 (l0.length : Int) x13_1 = some r) ∧ Aside0 (kq ≤ k) ∧ Drawn0 w w')
    case atStart => exact ⟨(0), (by first | rfl | (simp; done) | (simp [*]; done)), H', ⟨Nat.le_refl _⟩, by repeat (first | exact Drawn0.refl _ | apply Drawn0.step)⟩
    case round =>
      clear H'
      try clear c1
      try clear p2
      try clear c3
      try clear c3b0
      try clear c3b1
      try clear c3b2
      obtain ⟨x13_1, rfl, HA, HK1, ⟨m1, rfl⟩⟩ := hrel
      cases gk with
      | zero => exact absurd HA.out (by simp [slices_Equal_string_string.l0])
      | succ k1 =>
        have H := HA.out
        clear HA
        simp only [slices_Equal_string_string.l0] at H
        by_cases c4 : x13_1 < (l0.length : Int)
        · rw [if_pos c4] at H
          have c4b0 : decide (x13_1 < (l0.length : Int)) = true := decide_eq_true c4
          clear c4
          by_cases c5 : 0 ≤ x13_1
          · rw [if_pos c5] at H
            have c5b0 : decide (0 ≤ x13_1) = true := decide_eq_true c5
            clear c5
            by_cases c6 : x13_1 < (l0.length : Int)
            · rw [if_pos c6] at H
              have c6b0 : decide (x13_1 < (l0.length : Int)) = true := decide_eq_true c6
              clear c6
              by_cases c7 : x13_1 < (l1.length : Int)
              · rw [if_pos c7] at H
                have c7b0 : decide (x13_1 < (l1.length : Int)) = true := decide_eq_true c7
                clear c7
                by_cases c8 : (rdOf ByteArray.empty l0 x13_1).toList = (rdOf ByteArray.empty l1 x13_1).toList
                · rw [if_pos c8] at H
                  have c8b0 : ((rdOf ByteArray.empty l0 x13_1).toList == (rdOf ByteArray.empty l1 x13_1).toList) = true := beq_iff_eq.mpr c8
                  have c8b1 : ((rdOf ByteArray.empty l0 x13_1).toList != (rdOf ByteArray.empty l1 x13_1).toList) = false := bne_eq_false_iff_eq.mpr c8
                  clear c8
                  have H' := Aside0.mk H
                  clear H
                  have p154 : 0 ≤ (x13_1 : Int) := of_decide_eq_true (by first | (with_reducible assumption) | assumption)
                  have q154 : x13_1 < (l0.length : Int) := of_decide_eq_true (by first | (with_reducible assumption) | assumption)
                  obtain ⟨ad154, e154, hx154_0⟩ := Kd.at_string HR0.out x13_1 p154 q154
                  cases e154
                  replace p154 := eq_true p154
                  replace q154 := eq_true q154
                  have p155 : 0 ≤ (x13_1 : Int) := of_decide_eq_true (by first | (with_reducible assumption) | assumption)
                  have q155 : x13_1 < (l1.length : Int) := of_decide_eq_true (by first | (with_reducible assumption) | assumption)
                  obtain ⟨ad155, e155, hx155_0⟩ := Kd.at_string HR1.out x13_1 p155 q155
                  cases e155
                  replace p155 := eq_true p155
                  replace q155 := eq_true q155
                  go_wp2
                  repeat (go_quiet (fail); try go_wp2)
                  go_roundg k1
                  case measure => have := HK1.out; omega
                  case rel => exact ⟨(wrap64 (x13_1 + 1)), (by first | rfl | (simp; done) | (simp [*]; done)), H', ⟨by have := HK1.out; omega⟩, by repeat (first | exact Drawn0.refl _ | apply Drawn0.step)⟩
                · rw [if_neg c8] at H
                  have c8b0 : ((rdOf ByteArray.empty l0 x13_1).toList == (rdOf ByteArray.empty l1 x13_1).toList) = false := beq_eq_false_iff_ne.mpr c8
                  have c8b1 : ((rdOf ByteArray.empty l0 x13_1).toList != (rdOf ByteArray.empty l1 x13_1).toList) = true := bne_iff_ne.mpr c8
                  obtain rfl := Option.some.inj H
                  have p154 : 0 ≤ (x13_1 : Int) := of_decide_eq_true (by first | (with_reducible assumption) | assumption)
                  have q154 : x13_1 < (l0.length : Int) := of_decide_eq_true (by first | (with_reducible assumption) | assumption)
                  obtain ⟨ad154, e154, hx154_0⟩ := Kd.at_string HR0.out x13_1 p154 q154
                  cases e154
                  replace p154 := eq_true p154
                  replace q154 := eq_true q154
                  have p155 : 0 ≤ (x13_1 : Int) := of_decide_eq_true (by first | (with_reducible assumption) | assumption)
                  have q155 : x13_1 < (l1.length : Int) := of_decide_eq_true (by first | (with_reducible assumption) | assumption)
                  obtain ⟨ad155, e155, hx155_0⟩ := Kd.at_string HR1.out x13_1 p155 q155
                  cases e155
                  replace p155 := eq_true p155
                  replace q155 := eq_true q155
                  go_wp2
                  repeat (go_quiet (fail); try go_wp2)
                  go_ret
                  exact ⟨by first | rfl | (simp; done) | (simp [*]; done), by repeat (first | exact Drawn0.refl _ | apply Drawn0.step)⟩
              · rw [if_neg c7] at H
                exact absurd H (by simp)
            · rw [if_neg c6] at H
              exact absurd H (by simp)
          · rw [if_neg c5] at H
            exact absurd H (by simp)
        · rw [if_neg c4] at H
          have c4b0 : decide (x13_1 < (l0.length : Int)) = false := decide_eq_false c4
          clear c4
          obtain rfl := Option.some.inj H
          go_wp2
          repeat (go_quiet (fail); try go_wp2)
          go_ret
          exact ⟨by first | rfl | (simp; done) | (simp [*]; done), by repeat (first | exact Drawn0.refl _ | apply Drawn0.step)⟩
  · rw [if_neg c3] at H
    have c3b0 : ((l0.length : Int) == (l1.length : Int)) = false := beq_eq_false_iff_ne.mpr c3
    have c3b1 : ((l0.length : Int) != (l1.length : Int)) = true := bne_iff_ne.mpr c3
    have c3b2 : (l0.length == l1.length) = false := by first | simpa using c3 | (simp at c3 ⊢; omega)
    obtain rfl := Option.some.inj H
    go_enter Try.func34, Try.ntmps34
    go_wp2
    repeat (go_quiet (fail); try go_wp2)
    go_ret
    exact ⟨by first | rfl | (simp; done) | (simp [*]; done), by repeat (first | exact Drawn0.refl _ | apply Drawn0.step)⟩

/-! ### pack_Same: function 16 -/
def pack_Same.f (k : Nat) (l0 : List ByteArray) (l1 : List ByteArray) : Option (Bool) := (pack_set_string.f l0).bind fun t156 => ((pack_set_string.f l1).bind fun t159 => ((slices_Equal_string_string.f k t156 t159).bind fun t162 => (some t162)))
theorem pack_Same.mono : ∀ a0 a1 k, LeO (pack_Same.f k a0 a1) (pack_Same.f (k + 1) a0 a1) := by
  intro a0 a1 k
  unfold pack_Same.f
  repeat' first
      | (with_reducible exact slices_Equal_string_string.mono _ _ _)
      | (with_reducible exact LeO.refl _)
      | (with_reducible exact LeO.none _)
      | (with_reducible refine LeO.ite ?_ ?_)
      | (with_reducible refine LeO.bind ?_ (fun _ => ?_))
      | exact slices_Equal_string_string.mono _ _ _
      | exact LeO.none _
      | refine LeO.ite ?_ ?_
      | refine LeO.bind ?_ (fun _ => ?_)
set_option maxHeartbeats 8000000 in
set_option maxRecDepth 100000 in
theorem pack_Same.calls (k : Nat) (A0 : Option Addr) (c0 : Nat) (l0 : List ByteArray) (A1 : Option Addr) (c1 : Nat) (l1 : List ByteArray) (r : Bool) (w : World) (hr0 : Kd.C Kd.string w A0 l0.length l0) (hc0 : l0.length ≤ c0) (hr1 : Kd.C Kd.string w A1 l1.length l1) (hc1 : l1.length ≤ c1) (h : pack_Same.f k l0 l1 = some r) :
    Calls Try.prog 16 #[.slice A0 l0.length c0, .slice A1 l1.length c1] w fun e w' => e = .returned (.bool r) ∧ Below w.heap.size w w' := by
  have HR0 := Aside0.mk hr0
  have HC0 := Aside0.mk hc0
  clear hr0 hc0
  have HR1 := Aside0.mk hr1
  have HC1 := Aside0.mk hc1
  clear hr1 hc1
  have HB := Aside0.mk (Below.refl w.heap.size w)
  have H : ((pack_set_string.f l0).bind fun t156 => ((pack_set_string.f l1).bind fun t159 => ((slices_Equal_string_string.f k t156 t159).bind fun t162 => (some t162)))) = some r := h
  clear h
  replace H := Option.bind_eq_some_iff.mp H
  obtain ⟨t156, A30, H⟩ := H
  replace H : ((pack_set_string.f l1).bind fun t159 => ((slices_Equal_string_string.f k t156 t159).bind fun t162 => (some t162))) = some r := H
  have A3 := Aside0.mk A30
  clear A30
  replace H := Option.bind_eq_some_iff.mp H
  obtain ⟨t159, A40, H⟩ := H
  replace H : ((slices_Equal_string_string.f k t156 t159).bind fun t162 => (some t162)) = some r := H
  have A4 := Aside0.mk A40
  clear A40
  replace H := Option.bind_eq_some_iff.mp H
  obtain ⟨t162, A50, H⟩ := H
  replace H : (some t162) = some r := H
  have A5 := Aside0.mk A50
  clear A50
  obtain rfl := Option.some.inj H
  go_enter Try.func16, Try.ntmps16
  go_wp2_with (first | ((with_reducible refine gate_callee (f := 25) rfl ?_); refine goesL_ (some 6) rfl rfl Try.func25 (by kernel_rfl) rfl #[.slice A0 l0.length c0] rfl (by (try simp only [List.map_toArray, List.map_cons, List.map_nil]); first | done | rfl | (simp only [List.length_drop, List.length_take]; rfl)) ?_; (with_reducible refine (pack_set_string.calls _ _ l0 t156 _ ?side1 ?side2 A3.out).mono ?_); (case side1 => repeat (first | exact HR0.out | (with_reducible refine Kd.C_alloc ?_ _) | (with_reducible refine Kd.C_drewN ?_ _) | (with_reducible refine Kd.C_drew ?_))); (case side2 => exact HC0.out); rintro e w6 ⟨v157, rfl, ho0, hb⟩; refine ⟨_, rfl, ?_⟩; have n0_ := Aside0.mk (Kd.R_lower ho0 (below_size (by repeat (first | (with_reducible first | exact HB.out | apply below_alloc | apply pw_below_drewN | apply below_drew1) | exact HB.out)))); have n1_ := Aside0.mk (below_step (by repeat (first | (with_reducible first | exact HB.out | apply below_alloc | apply pw_below_drewN | apply below_drew1) | exact HB.out)) hb); clear HB; have HO158 := n0_; have HB := n1_; clear n0_ n1_; (try clear hb); (try clear hb2); (try clear hk); (try clear hi); (try clear ho0)) | ((with_reducible refine gate_callee (f := 25) rfl ?_); refine goesL_ (some 8) rfl rfl Try.func25 (by kernel_rfl) rfl #[.slice A1 l1.length c1] rfl (by (try simp only [List.map_toArray, List.map_cons, List.map_nil]); first | done | rfl | (simp only [List.length_drop, List.length_take]; rfl)) ?_; (with_reducible refine (pack_set_string.calls _ _ l1 t159 _ ?side1 ?side2 A4.out).mono ?_); (case side1 => repeat (first | exact (Kd.C_below HR1.out HB.out) | (with_reducible refine Kd.C_alloc ?_ _) | (with_reducible refine Kd.C_drewN ?_ _) | (with_reducible refine Kd.C_drew ?_))); (case side2 => exact HC1.out); rintro e w7 ⟨v160, rfl, ho0, hb⟩; refine ⟨_, rfl, ?_⟩; have n0_ := Aside0.mk (Kd.R_elder' (by (with_reducible repeat (first | apply Kd.R_alloc | apply Kd.R_drewN | apply Kd.R_drew)); exact HO158.out) (Kd.R_base ho0) hb); have n1_ := Aside0.mk (Kd.R_lower (Kd.R_new' ho0 (Kd.R_lt (by (with_reducible repeat (first | apply Kd.R_alloc | apply Kd.R_drewN | apply Kd.R_drew)); exact HO158.out))) (below_size (by repeat (first | (with_reducible first | exact HB.out | apply below_alloc | apply pw_below_drewN | apply below_drew1) | exact HB.out)))); have n2_ := Aside0.mk (below_step (by repeat (first | (with_reducible first | exact HB.out | apply below_alloc | apply pw_below_drewN | apply below_drew1) | exact HB.out)) hb); clear HO158; clear HB; have HO158 := n0_; have HO161 := n1_; have HB := n2_; clear n0_ n1_ n2_; (try clear hb); (try clear hb2); (try clear hk); (try clear hi); (try clear ho0); obtain ⟨Ao8, co8, eo8⟩ := Kd.R_slice HO158.out; subst eo8; obtain ⟨Ao9, co9, eo9⟩ := Kd.R_slice HO161.out; subst eo9) | ((with_reducible refine gate_callee (f := 34) rfl ?_); refine goesL_ (some 9) rfl rfl Try.func34 (by kernel_rfl) rfl #[.slice Ao8 t156.length co8, .slice Ao9 t159.length co9] rfl (by (try simp only [List.map_toArray, List.map_cons, List.map_nil]); first | done | rfl | (simp only [List.length_drop, List.length_take]; rfl)) ?_; (with_reducible refine (slices_Equal_string_string.calls k _ _ t156 _ _ t159 t162 _ ?side1 ?side2 ?side3 ?side4 A5.out).mono ?_); (case side1 => repeat (first | exact (Kd.R_reads' HO158.out).2.2 | (with_reducible refine Kd.C_alloc ?_ _) | (with_reducible refine Kd.C_drewN ?_ _) | (with_reducible refine Kd.C_drew ?_))); (case side2 => exact (Kd.R_reads' HO158.out).2.1); (case side3 => repeat (first | exact (Kd.R_reads' HO161.out).2.2 | (with_reducible refine Kd.C_alloc ?_ _) | (with_reducible refine Kd.C_drewN ?_ _) | (with_reducible refine Kd.C_drew ?_))); (case side4 => exact (Kd.R_reads' HO161.out).2.1); rintro e w' ⟨rfl, ⟨nd, rfl⟩⟩; refine ⟨_, rfl, ?_⟩))
  go_ret
  exact ⟨by first | rfl | (simp [errW_none, errW_some] <;> rfl) | (simp [*, errW_none, errW_some] <;> rfl), by repeat (first | (with_reducible first | exact HB.out | apply below_alloc | apply pw_below_drewN | apply below_drew1) | exact HB.out)⟩

end Go.Proofs.Ytmmhaedehkogmaa.HPackTells
