-- Written by plus.py for this claim.
import Derived.Test.YtdmjehepfkgpgaaDoorHPlaceBackx0
namespace Go.Proofs.YtdmjehepfkgpgaaDoor.HPlaceBack
open Go.RowKit Go.Proofs.YtdmjehepfkgpgaaDoorW.PrintWords Go.Proofs.YtdmjehepfkgpgaaDoorW.PrintLast Go.Proofs.YtdmjehepfkgpgaaDoorW.PrintMore
attribute [local go_sem] max2_int min2_int max_two min_two max_three min_three max_four min_four   -- for this text's walks alone
set_option linter.unusedVariables false
set_option linter.unusedSimpArgs false

theorem reads_len_ {α : Type} {R : α → List Value → Prop} {size : Nat} {w : World} {A : Option Addr} {n m : Nat} {ps : List α} (h : n = m) (k : ReadsRow R size w A n ps) : ReadsRow R size w A m ps := h ▸ k

/-- What the package variables hold that are read. -/
def GL (w : World) : Prop := Plus.Glob Tryd.prog w "internal/strconv.uint64pow10" Plus.powCells
theorem GL.pow10 {w : World} (h : GL w) : Plus.Glob Tryd.prog w "internal/strconv.uint64pow10" Plus.powCells := h
theorem GL.below {w W : World} (h : GL w) (k : Below w.heap.size w W) : GL W := Plus.Glob.below (h) (by kernel_rfl : Tryd.prog.globalNamed "internal/strconv.uint64pow10" = some 2) k

/-! ### gramaryebase_Among: function 18 -/
def gramaryebase_Among.f (a0 : Int) (a1 : Int) : Option (Int) := if a1 < 1 then (some 0) else (if (IntKind.u64.wrap (a1)) = 0 then (none) else (some (wrap64 (Int.tmod (IntKind.u64.wrap (a0)) (IntKind.u64.wrap (a1))))))
set_option maxHeartbeats 8000000 in
set_option maxRecDepth 100000 in
theorem gramaryebase_Among.calls (a0 : Int) (a1 : Int) (r : Int) (w : World) (h : gramaryebase_Among.f a0 a1 = some r) :
    Calls Tryd.prog 18 #[.int .i64 a0, .int .i64 a1] w fun e w' => e = .returned (.int .i64 r) ∧ Drawn0 w w' := by
  have H : (if a1 < 1 then (some 0) else (if (IntKind.u64.wrap (a1)) = 0 then (none) else (some (wrap64 (Int.tmod (IntKind.u64.wrap (a0)) (IntKind.u64.wrap (a1))))))) = some r := h
  clear h
  by_cases c3 : a1 < 1
  · rw [if_pos c3] at H
    have c3b0 : decide (a1 < 1) = true := decide_eq_true c3
    clear c3
    obtain rfl := Option.some.inj H
    go_enter Tryd.func18, Tryd.ntmps18
    go_wp2
    go_ret
    exact ⟨by first | rfl | (simp; done) | (simp [*]; done), by repeat (first | exact Drawn0.refl _ | apply Drawn0.step)⟩
  · rw [if_neg c3] at H
    have c3b0 : decide (a1 < 1) = false := decide_eq_false c3
    clear c3
    by_cases c4 : (IntKind.u64.wrap (a1)) = 0
    · rw [if_pos c4] at H
      exact absurd H (by simp)
    · rw [if_neg c4] at H
      have c4b0 : ((IntKind.u64.wrap (a1)) == 0) = false := beq_eq_false_iff_ne.mpr c4
      have c4b1 : ((IntKind.u64.wrap (a1)) != 0) = true := bne_iff_ne.mpr c4
      obtain rfl := Option.some.inj H
      go_enter Tryd.func18, Tryd.ntmps18
      go_wp2
      go_ret
      exact ⟨by first | rfl | (simp; done) | (simp [*]; done), by repeat (first | exact Drawn0.refl _ | apply Drawn0.step)⟩

/-! ### strings_Count: function 59 -/
def strings_Count.f (a0 a1 : ByteArray) : Option Int := if a1.size = 1 then some (Lib.countByte a0.data.toList (a1.data.toList.headD 0)) else none
theorem strings_Count.calls (a0 a1 : ByteArray) (r : Int) (w : World) (h : strings_Count.f a0 a1 = some r) :
    Calls Tryd.prog 59 #[.string a0, .string a1] w fun e w' => e = .returned (.int .i64 r) ∧ Drawn0 w w' := by
  unfold strings_Count.f at h
  split at h
  case isFalse => cases h
  rename_i h1
  obtain ⟨c, rfl⟩ : ∃ c : UInt8, a1 = ⟨#[c]⟩ := by
    obtain ⟨⟨l⟩⟩ := a1
    match l, h1 with
    | [c], _ => exact ⟨c, rfl⟩
    | [], h => cases h
    | _ :: _ :: _, h => exact absurd h (by simp [ByteArray.size])
  obtain rfl := Option.some.inj h
  exact (Tryd.strings_Count_one a0 c w).mono fun e w' ⟨he, hw⟩ => ⟨he, hw ▸ Drawn0.refl _⟩

/-! ### place_column: function 60 -/
def place_column.n (s : ByteArray) : Nat → Nat
  | 0 => 0
  | n + 1 => if bt s n = 10 then n + 1 else place_column.n s n
def place_column.f (a0 : ByteArray) (a1 : Int) : Option Int := if 0 ≤ a1 ∧ a1 ≤ (a0.size : Int) ∧ a0.size ≤ 140737488355328 then some (a1 - (place_column.n a0 a1.toNat : Int) + 1) else none
theorem place_column.n_le (s : ByteArray) : ∀ n, place_column.n s n ≤ n
  | 0 => Nat.le_refl _
  | n + 1 => by unfold place_column.n; split
                · omega
                · exact Nat.le_succ_of_le (place_column.n_le s n)
set_option maxRecDepth 100000 in
theorem place_column.calls (a0 : ByteArray) (a1 : Int) (r : Int) (w : World) (h : place_column.f a0 a1 = some r) :
    Calls Tryd.prog 60 #[.string a0, .int .i64 a1] w fun e w' => e = .returned (.int .i64 r) ∧ Drawn0 w w' := by
  unfold place_column.f at h
  split at h
  case isFalse => cases h
  rename_i hb
  obtain ⟨h0, h1, h2⟩ := hb
  obtain rfl := Option.some.inj h
  clear h
  obtain ⟨m, rfl⟩ := Int.eq_ofNat_of_zero_le h0
  go_enter Tryd.func60, Tryd.ntmps60
  go_wp2
  let J : Nat → Act → World → Prop := fun l a' w' => l = 0 ∧ ∃ (nd m' : Nat) (u0 u1 u2 u3 u4 u6 u7 u8 u9 u10 u11 u12 u13 u14 u15 u16 u17 u18 u19 : Value), w' = w.drewN nd ∧ m' ≤ m ∧ place_column.n a0 m' = place_column.n a0 m ∧ a' = { tmps := #[.string a0, .int .i64 m, u2, u3, u4, .int .i64 m', u6, u7, u8, u9, u10, u11, u12, u13, u14, u15, u16, u17, u18, u19, u0, u1], defers := [] }
  refine Plus.wp_scope_gotos J (fun _ a' _ => (Plus.intOf (a'.tmps.getD 5 undef)).toNat) ?_ ?_
  · rintro l a' w' ⟨rfl, nd, m', u0, u1, u2, u3, u4, u6, u7, u8, u9, u10, u11, u12, u13, u14, u15, u16, u17, u18, u19, rfl, hm, hn, rfl⟩
    refine ⟨_, rfl, ?_⟩
    cases m' with
    | zero =>
      have hn' : (place_column.n a0 m : Int) = 0 := by rw [← hn]; rfl
      have Hn := Lib.hid hn'
      clear hn' hn
      go_wp2
      go_ret
      exact ⟨Plus.ret_int (by rw [Int.toNat_natCast, Hn.out]; omega), by repeat (first | exact Drawn0.refl _ | apply Drawn0.step)⟩
    | succ m' =>
      obtain ⟨x, hx0⟩ : ∃ x : Int, x = ((m' + 1 : Nat) : Int) := ⟨_, rfl⟩
      have hr : place_column.n a0 (m' + 1) = if bt a0 (x - 1) = 10 then m' + 1 else place_column.n a0 m' := by
        rw [hx0, show ((m' + 1 : Nat) : Int) - 1 = (m' : Int) from by omega]; rfl
      rw [hr] at hn
      have hm' : (m' : Int) = x - 1 := by omega
      rw [← hx0]
      have x1 : 0 < x := by omega
      have x5 : x ≤ 140737488355328 := by omega
      have x6 : (m : Int) ≤ 140737488355328 := by omega
      have p4 : 0 ≤ x - 1 := by omega
      have q4 : x - 1 < (a0.size : Int) := by omega
      have hx4 : ∀ h : x.toNat - 1 < a0.size, ((a0[x.toNat - 1]'h).toNat : Int) = bt a0 (x - 1) := by
        intro h
        have e : (x - 1).toNat = x.toNat - 1 := by omega
        rw [← bt_at a0 (x - 1) (by omega)]; simp only [e]
      replace p4 := eq_true p4
      replace q4 := eq_true q4
      by_cases hc : bt a0 (x - 1) = 10
      · rw [if_pos hc] at hn
        have c2b0 : (bt a0 (x - 1) == 10) = true := beq_iff_eq.mpr hc
        have c2b1 : (bt a0 (x - 1) != 10) = false := bne_eq_false_iff_eq.mpr hc
        have Hn := Lib.hid hn
        have Hm := Lib.hid hm'
        clear hc hn hm' hr hx0
        go_wp2
        go_ret
        exact ⟨Plus.ret_int (by rw [Int.toNat_natCast, ← Hn.out]; have := Hm.out; omega), by repeat (first | exact Drawn0.refl _ | apply Drawn0.step)⟩
      · rw [if_neg hc] at hn
        have c2b0 : (bt a0 (x - 1) == 10) = false := beq_eq_false_iff_ne.mpr hc
        have c2b1 : (bt a0 (x - 1) != 10) = true := bne_iff_ne.mpr hc
        have Hn := Lib.hid hn
        have Hm := Lib.hid hm'
        have HM := Lib.hid hm
        clear hc hn hm' hr hx0 hm
        go_wp2
        go_step3
        refine ⟨⟨rfl, nd, m', ?_⟩, ?_⟩
        · rw [Hm.out]
          exact ⟨_, _, _, _, _, _, _, _, _, _, _, _, _, _, _, _, _, _, _, rfl, by have := HM.out; omega, Hn.out, rfl⟩
        · simp [Plus.intOf]; omega
  · intro hJ
    go_wp2
    go_step3
    rename_i hK
    refine hK _ _ (hJ 0 _ _ _ rfl ⟨rfl, 0, m, ?_⟩)
    exact ⟨_, _, _, _, _, _, _, _, _, _, _, _, _, _, _, _, _, _, _, rfl, Nat.le_refl _, rfl, rfl⟩

/-! ### place_Of: function 43 -/
def place_Of.j0 : Nat → ByteArray → Int → Bool → Option (Int × Int × Int)
  | 0, _, _, _ => none
  | k + 1, x0, x1, x14 => if x14 = true then (some (0, 0, 2)) else (if 0 ≤ x1 then (if x1 ≤ (x0.size : Int) then ((strings_Count.f (x0.extract 0 (x1 : Int).toNat) (⟨#[10]⟩ : ByteArray)).bind fun t101 => ((place_column.f x0 x1).bind fun t102 => (some (wrap64 (1 + t101), t102, 0)))) else (none)) else (none))
def place_Of.f (k : Nat) (a0 : ByteArray) (a1 : Int) : Option (Int × Int × Int) := if a1 < 0 then (place_Of.j0 k a0 a1 true) else (place_Of.j0 k a0 a1 (decide (a1 > (a0.size : Int))))
theorem place_Of.mono_l : ∀ k, (∀ y0 y1 y2, LeO (place_Of.j0 k y0 y1 y2) (place_Of.j0 (k + 1) y0 y1 y2))
  | 0 => fun _ _ _ r h => by simp [place_Of.j0] at h
  | k + 1 => by
    have ih0 := place_Of.mono_l k
    · intro y0 y1 y2
      unfold place_Of.j0
      repeat' first
      | (with_reducible exact ih0 _ _ _)
      | (with_reducible exact LeO.refl _)
      | (with_reducible exact LeO.none _)
      | (with_reducible refine LeO.ite ?_ ?_)
      | (with_reducible refine LeO.bind ?_ (fun _ => ?_))
      | exact ih0 _ _ _
      | exact LeO.none _
      | refine LeO.ite ?_ ?_
      | refine LeO.bind ?_ (fun _ => ?_)
theorem place_Of.mono : ∀ a0 a1 k, LeO (place_Of.f k a0 a1) (place_Of.f (k + 1) a0 a1) := by
  intro a0 a1 k
  have ih0 := place_Of.mono_l k
  unfold place_Of.f
  repeat' first
      | (with_reducible exact ih0 _ _ _)
      | (with_reducible exact LeO.refl _)
      | (with_reducible exact LeO.none _)
      | (with_reducible refine LeO.ite ?_ ?_)
      | (with_reducible refine LeO.bind ?_ (fun _ => ?_))
      | exact ih0 _ _ _
      | exact LeO.none _
      | refine LeO.ite ?_ ?_
      | refine LeO.bind ?_ (fun _ => ?_)
set_option maxHeartbeats 8000000 in
set_option maxRecDepth 100000 in
theorem place_Of.calls (k : Nat) (a0 : ByteArray) (a1 : Int) (r1 : Int) (r2 : Int) (r3 : Int) (w : World) (h : place_Of.f k a0 a1 = some (r1, r2, r3)) :
    Calls Tryd.prog 43 #[.string a0, .int .i64 a1] w fun e w' => e = .returned (.tuple #[.int .i64 r1, .int .i64 r2, .int .i64 r3]) ∧ Drawn0 w w' := by
  have H : (if a1 < 0 then (place_Of.j0 k a0 a1 true) else (place_Of.j0 k a0 a1 (decide (a1 > (a0.size : Int))))) = some (r1, r2, r3) := h
  clear h
  have HC3 := Aside0.mk H
  clear H
  go_enter Tryd.func43, Tryd.ntmps43
  go_upto_region 1 with (fail)
  go_cut [14] (fun v14 wc => ∃ (kq : Nat) (x14_2 : Bool), v14 = .bool x14_2 ∧ Aside0 (place_Of.j0 kq a0 a1 x14_2 = some (r1, r2, r3)) ∧ Aside0 (kq ≤ k) ∧ Drawn0 w wc)
  case first =>
    have H := HC3.out
    clear HC3
    by_cases c4 : a1 < 0
    · rw [if_pos c4] at H
      have c4b0 : decide (a1 < 0) = true := decide_eq_true c4
      clear c4
      (first | rw [c4b0] | (simp only [i64_w, i32_w]; rw [c4b0]) | skip)
      have H' := Aside0.mk H
      clear H
      go_wp2
      go_meet
      case rel => exact ⟨_, (true), (by first | rfl | (simp; done) | (simp [*]; done)), H', ⟨by first | omega | exact Nat.le_refl _⟩, by repeat (first | exact Drawn0.refl _ | apply Drawn0.step)⟩
    · rw [if_neg c4] at H
      have c4b0 : decide (a1 < 0) = false := decide_eq_false c4
      clear c4
      (first | rw [c4b0] | (simp only [i64_w, i32_w]; rw [c4b0]) | skip)
      have H' := Aside0.mk H
      clear H
      go_wp2
      go_meet
      case rel => exact ⟨_, (decide (a1 > (a0.size : Int))), (by first | rfl | (simp; done) | (simp [*]; done)), H', ⟨by first | omega | exact Nat.le_refl _⟩, by repeat (first | exact Drawn0.refl _ | apply Drawn0.step)⟩
  case rest =>
    clear HC3
    try clear p2
    try clear c4
    try clear c4b0
    obtain ⟨kq, x14_2, rfl, HA, HJ2, ⟨mc2, rfl⟩⟩ := hcut
    cases kq with
    | zero => exact absurd HA.out (by simp [place_Of.j0])
    | succ kj2 =>
      have H := HA.out
      clear HA
      simp only [place_Of.j0] at H
      by_cases c5 : x14_2 = true
      · subst c5
        have H1 : (some (0, 0, 2)) = some (r1, r2, r3) := by rw [if_pos rfl] at H; exact H
        clear H
        have H := H1
        clear H1
        simp only [Option.some.injEq, Prod.mk.injEq] at H
        obtain ⟨rfl, rfl, rfl⟩ := H
        go_wp2
        go_ret3
        exact ⟨by first | rfl | (simp; done) | (simp [*]; done), by repeat (first | exact Drawn0.refl _ | apply Drawn0.step)⟩
      · replace c5 := Bool.eq_false_iff.mpr c5
        subst c5
        have H1 : (if 0 ≤ a1 then (if a1 ≤ (a0.size : Int) then ((strings_Count.f (a0.extract 0 (a1 : Int).toNat) (⟨#[10]⟩ : ByteArray)).bind fun t101 => ((place_column.f a0 a1).bind fun t102 => (some (wrap64 (1 + t101), t102, 0)))) else (none)) else (none)) = some (r1, r2, r3) := by rw [if_neg (show ¬ (false = true) by decide)] at H; exact H
        clear H
        have H := H1
        clear H1
        by_cases c6 : 0 ≤ a1
        · rw [if_pos c6] at H
          have c6b0 := eq_true c6
          have c6b1 : decide (0 ≤ a1) = true := decide_eq_true c6
          clear c6
          by_cases c7 : a1 ≤ (a0.size : Int)
          · rw [if_pos c7] at H
            have c7b0 := eq_true c7
            have c7b1 : decide (a1 ≤ (a0.size : Int)) = true := decide_eq_true c7
            clear c7
            replace H := Option.bind_eq_some_iff.mp H
            obtain ⟨t101, A80, H⟩ := H
            replace H : ((place_column.f a0 a1).bind fun t102 => (some (wrap64 (1 + t101), t102, 0))) = some (r1, r2, r3) := H
            have A8 := Aside0.mk A80
            clear A80
            replace H := Option.bind_eq_some_iff.mp H
            obtain ⟨t102, A90, H⟩ := H
            replace H : (some (wrap64 (1 + t101), t102, 0)) = some (r1, r2, r3) := H
            have A9 := Aside0.mk A90
            clear A90
            simp only [Option.some.injEq, Prod.mk.injEq] at H
            obtain ⟨rfl, rfl, rfl⟩ := H
            go_wp2_with (first | ((with_reducible refine gate_callee (f := 59) rfl ?_); refine goesL_ (some 18) rfl rfl Tryd.func59 (by kernel_rfl) rfl #[.string (a0.extract 0 (a1 : Int).toNat), .string (⟨#[10]⟩ : ByteArray)] rfl (by (try simp only [List.map_toArray, List.map_cons, List.map_nil]); first | done | rfl | (simp only [List.length_drop, List.length_take]; rfl)) ?_; (with_reducible refine (strings_Count.calls (a0.extract 0 (a1 : Int).toNat) (⟨#[10]⟩ : ByteArray) t101 _ A8.out).mono ?_); rintro e w' ⟨rfl, ⟨nd, rfl⟩⟩; refine ⟨_, rfl, ?_⟩) | ((with_reducible refine gate_callee (f := 60) rfl ?_); refine goesL_ (some 22) rfl rfl Tryd.func60 (by kernel_rfl) rfl #[.string a0, .int .i64 a1] rfl (by (try simp only [List.map_toArray, List.map_cons, List.map_nil]); first | done | rfl | (simp only [List.length_drop, List.length_take]; rfl)) ?_; (with_reducible refine (place_column.calls a0 a1 t102 _ A9.out).mono ?_); rintro e w' ⟨rfl, ⟨nd, rfl⟩⟩; refine ⟨_, rfl, ?_⟩))
            go_ret3
            exact ⟨by first | rfl | (simp; done) | (simp [*]; done), by repeat (first | exact Drawn0.refl _ | apply Drawn0.step)⟩
          · rw [if_neg c7] at H
            exact absurd H (by simp)
        · rw [if_neg c6] at H
          exact absurd H (by simp)

/-! ### place_Lines: function 55 -/
def place_Lines.f (a0 : ByteArray) : Option (Int) := (strings_Count.f a0 (⟨#[10]⟩ : ByteArray)).bind fun t103 => (some (wrap64 (1 + t103)))
set_option maxHeartbeats 8000000 in
set_option maxRecDepth 100000 in
theorem place_Lines.calls (a0 : ByteArray) (r : Int) (w : World) (h : place_Lines.f a0 = some r) :
    Calls Tryd.prog 55 #[.string a0] w fun e w' => e = .returned (.int .i64 r) ∧ Drawn0 w w' := by
  have H : ((strings_Count.f a0 (⟨#[10]⟩ : ByteArray)).bind fun t103 => (some (wrap64 (1 + t103)))) = some r := h
  clear h
  replace H := Option.bind_eq_some_iff.mp H
  obtain ⟨t103, A20, H⟩ := H
  replace H : (some (wrap64 (1 + t103))) = some r := H
  have A2 := Aside0.mk A20
  clear A20
  obtain rfl := Option.some.inj H
  go_enter Tryd.func55, Tryd.ntmps55
  go_wp2_with (first | ((with_reducible refine gate_callee (f := 59) rfl ?_); refine goesL_ (some 4) rfl rfl Tryd.func59 (by kernel_rfl) rfl #[.string a0, .string (⟨#[10]⟩ : ByteArray)] rfl (by (try simp only [List.map_toArray, List.map_cons, List.map_nil]); first | done | rfl | (simp only [List.length_drop, List.length_take]; rfl)) ?_; (with_reducible refine (strings_Count.calls a0 (⟨#[10]⟩ : ByteArray) t103 _ A2.out).mono ?_); rintro e w' ⟨rfl, ⟨nd, rfl⟩⟩; refine ⟨_, rfl, ?_⟩))
  go_ret
  exact ⟨by first | rfl | (simp; done) | (simp [*]; done), by repeat (first | exact Drawn0.refl _ | apply Drawn0.step)⟩

/-! ### gramaryelaw01_works: function 39 -/
def gramaryelaw01_works.f (k : Nat)  : Option (Bool) := (place_Of.f k (⟨#[97, 10, 98, 99]⟩ : ByteArray) 3).bind fun bt104 => (if bt104.1 = 2 then (if bt104.2.1 = 2 then (if bt104.2.2 = 0 then ((place_Lines.f (⟨#[97, 10, 98, 99]⟩ : ByteArray)).bind fun t107 => (some (t107 == 2))) else (some false)) else (some false)) else (some false))
theorem gramaryelaw01_works.mono : ∀ k, LeO (gramaryelaw01_works.f k ) (gramaryelaw01_works.f (k + 1) ) := by
  intro  k
  unfold gramaryelaw01_works.f
  repeat' first
      | (with_reducible exact place_Of.mono _ _ _)
      | (with_reducible exact LeO.refl _)
      | (with_reducible exact LeO.none _)
      | (with_reducible refine LeO.ite ?_ ?_)
      | (with_reducible refine LeO.bind ?_ (fun _ => ?_))
      | exact place_Of.mono _ _ _
      | exact LeO.none _
      | refine LeO.ite ?_ ?_
      | refine LeO.bind ?_ (fun _ => ?_)
set_option maxHeartbeats 8000000 in
set_option maxRecDepth 100000 in
theorem gramaryelaw01_works.calls (k : Nat)  (r : Bool) (w : World) (h : gramaryelaw01_works.f k  = some r) :
    Calls Tryd.prog 39 #[] w fun e w' => e = .returned (.bool r) ∧ Drawn0 w w' := by
  have H : ((place_Of.f k (⟨#[97, 10, 98, 99]⟩ : ByteArray) 3).bind fun bt104 => (if bt104.1 = 2 then (if bt104.2.1 = 2 then (if bt104.2.2 = 0 then ((place_Lines.f (⟨#[97, 10, 98, 99]⟩ : ByteArray)).bind fun t107 => (some (t107 == 2))) else (some false)) else (some false)) else (some false))) = some r := h
  clear h
  replace H := Option.bind_eq_some_iff.mp H
  obtain ⟨⟨t104, t105, t106⟩, A10, H⟩ := H
  replace H : (if t104 = 2 then (if t105 = 2 then (if t106 = 0 then ((place_Lines.f (⟨#[97, 10, 98, 99]⟩ : ByteArray)).bind fun t107 => (some (t107 == 2))) else (some false)) else (some false)) else (some false)) = some r := H
  have A1 := Aside0.mk A10
  clear A10
  by_cases c2 : t104 = 2
  · rw [if_pos c2] at H
    have c2b0 : (t104 == 2) = true := beq_iff_eq.mpr c2
    have c2b1 : (t104 != 2) = false := bne_eq_false_iff_eq.mpr c2
    clear c2
    by_cases c3 : t105 = 2
    · rw [if_pos c3] at H
      have c3b0 : (t105 == 2) = true := beq_iff_eq.mpr c3
      have c3b1 : (t105 != 2) = false := bne_eq_false_iff_eq.mpr c3
      clear c3
      by_cases c4 : t106 = 0
      · rw [if_pos c4] at H
        have c4b0 : (t106 == 0) = true := beq_iff_eq.mpr c4
        have c4b1 : (t106 != 0) = false := bne_eq_false_iff_eq.mpr c4
        clear c4
        replace H := Option.bind_eq_some_iff.mp H
        obtain ⟨t107, A50, H⟩ := H
        replace H : (some (t107 == 2)) = some r := H
        have A5 := Aside0.mk A50
        clear A50
        obtain rfl := Option.some.inj H
        go_enter Tryd.func39, Tryd.ntmps39
        go_wp2_with (first | ((with_reducible refine gate_callee (f := 43) rfl ?_); refine goesL_ (some 5) rfl rfl Tryd.func43 (by kernel_rfl) rfl #[.string (⟨#[97, 10, 98, 99]⟩ : ByteArray), .int .i64 3] rfl (by (try simp only [List.map_toArray, List.map_cons, List.map_nil]); first | done | rfl | (simp only [List.length_drop, List.length_take]; rfl)) ?_; (with_reducible refine (place_Of.calls k (⟨#[97, 10, 98, 99]⟩ : ByteArray) 3 t104 t105 t106 _ A1.out).mono ?_); rintro e w' ⟨rfl, ⟨nd, rfl⟩⟩; refine ⟨_, rfl, ?_⟩) | (go_at_call 55; (with_reducible refine (place_Lines.calls (⟨#[97, 10, 98, 99]⟩ : ByteArray) t107 _ A5.out).mono ?_); rintro e w' ⟨rfl, ⟨nd, rfl⟩⟩))
        go_ret
        exact ⟨by first | rfl | (simp; done) | (simp [*]; done), by repeat (first | exact Drawn0.refl _ | apply Drawn0.step)⟩
      · rw [if_neg c4] at H
        have c4b0 : (t106 == 0) = false := beq_eq_false_iff_ne.mpr c4
        have c4b1 : (t106 != 0) = true := bne_iff_ne.mpr c4
        obtain rfl := Option.some.inj H
        go_enter Tryd.func39, Tryd.ntmps39
        go_wp2_with (first | ((with_reducible refine gate_callee (f := 43) rfl ?_); refine goesL_ (some 5) rfl rfl Tryd.func43 (by kernel_rfl) rfl #[.string (⟨#[97, 10, 98, 99]⟩ : ByteArray), .int .i64 3] rfl (by (try simp only [List.map_toArray, List.map_cons, List.map_nil]); first | done | rfl | (simp only [List.length_drop, List.length_take]; rfl)) ?_; (with_reducible refine (place_Of.calls k (⟨#[97, 10, 98, 99]⟩ : ByteArray) 3 t104 t105 t106 _ A1.out).mono ?_); rintro e w' ⟨rfl, ⟨nd, rfl⟩⟩; refine ⟨_, rfl, ?_⟩))
        go_ret
        exact ⟨by first | rfl | (simp; done) | (simp [*]; done), by repeat (first | exact Drawn0.refl _ | apply Drawn0.step)⟩
    · rw [if_neg c3] at H
      have c3b0 : (t105 == 2) = false := beq_eq_false_iff_ne.mpr c3
      have c3b1 : (t105 != 2) = true := bne_iff_ne.mpr c3
      obtain rfl := Option.some.inj H
      go_enter Tryd.func39, Tryd.ntmps39
      go_wp2_with (first | ((with_reducible refine gate_callee (f := 43) rfl ?_); refine goesL_ (some 5) rfl rfl Tryd.func43 (by kernel_rfl) rfl #[.string (⟨#[97, 10, 98, 99]⟩ : ByteArray), .int .i64 3] rfl (by (try simp only [List.map_toArray, List.map_cons, List.map_nil]); first | done | rfl | (simp only [List.length_drop, List.length_take]; rfl)) ?_; (with_reducible refine (place_Of.calls k (⟨#[97, 10, 98, 99]⟩ : ByteArray) 3 t104 t105 t106 _ A1.out).mono ?_); rintro e w' ⟨rfl, ⟨nd, rfl⟩⟩; refine ⟨_, rfl, ?_⟩))
      go_ret
      exact ⟨by first | rfl | (simp; done) | (simp [*]; done), by repeat (first | exact Drawn0.refl _ | apply Drawn0.step)⟩
  · rw [if_neg c2] at H
    have c2b0 : (t104 == 2) = false := beq_eq_false_iff_ne.mpr c2
    have c2b1 : (t104 != 2) = true := bne_iff_ne.mpr c2
    obtain rfl := Option.some.inj H
    go_enter Tryd.func39, Tryd.ntmps39
    go_wp2_with (first | ((with_reducible refine gate_callee (f := 43) rfl ?_); refine goesL_ (some 5) rfl rfl Tryd.func43 (by kernel_rfl) rfl #[.string (⟨#[97, 10, 98, 99]⟩ : ByteArray), .int .i64 3] rfl (by (try simp only [List.map_toArray, List.map_cons, List.map_nil]); first | done | rfl | (simp only [List.length_drop, List.length_take]; rfl)) ?_; (with_reducible refine (place_Of.calls k (⟨#[97, 10, 98, 99]⟩ : ByteArray) 3 t104 t105 t106 _ A1.out).mono ?_); rintro e w' ⟨rfl, ⟨nd, rfl⟩⟩; refine ⟨_, rfl, ?_⟩))
    go_ret
    exact ⟨by first | rfl | (simp; done) | (simp [*]; done), by repeat (first | exact Drawn0.refl _ | apply Drawn0.step)⟩

/-! ### gramaryelaw01_short: function 40 -/
def gramaryelaw01_short.f (a0 : ByteArray) : Option (ByteArray) := if 0 ≤ (mn (a0.size : Int) 300) then (if (mn (a0.size : Int) 300) ≤ (a0.size : Int) then (some (a0.extract 0 ((mn (a0.size : Int) 300) : Int).toNat)) else (none)) else (none)
set_option maxHeartbeats 8000000 in
set_option maxRecDepth 100000 in
theorem gramaryelaw01_short.calls (a0 : ByteArray) (r : ByteArray) (w : World) (h : gramaryelaw01_short.f a0 = some r) :
    Calls Tryd.prog 40 #[.string a0] w fun e w' => e = .returned (.string r) ∧ Below w.heap.size w w' := by
  have HB := Aside0.mk (Below.refl w.heap.size w)
  have H : (if 0 ≤ (mn (a0.size : Int) 300) then (if (mn (a0.size : Int) 300) ≤ (a0.size : Int) then (some (a0.extract 0 ((mn (a0.size : Int) 300) : Int).toNat)) else (none)) else (none)) = some r := h
  clear h
  obtain ⟨ji2, hji2⟩ : ∃ j_ : Int, (mn (a0.size : Int) 300) = j_ := ⟨_, rfl⟩
  replace H : (if 0 ≤ (ji2) then (if (ji2) ≤ (a0.size : Int) then (some (a0.extract 0 ((ji2) : Int).toNat)) else (none)) else (none)) = some r := by first | (rw [hji2] at H; exact H) | (simp only [hji2] at H ⊢; exact H)
  (try (have hji2h : ji2 ≤ 300 := by (rw [← hji2]; unfold mn; (repeat' split) <;> omega)))
  (try (have hji2g : ji2 ≤ 64 := by omega))
  (try (have hji2l : 0 ≤ ji2 := by (rw [← hji2]; unfold mn; (repeat' split) <;> omega)))
  (try (have hji2m : 0 ≤ ji2 := by omega))
  have hji2_ : (if 300 < (a0.size : Int) then 300 else (a0.size : Int)) = ji2 := hji2
  by_cases c3 : 0 ≤ (ji2)
  · rw [if_pos c3] at H
    have c3b0 := eq_true c3
    have c3b1 : decide (0 ≤ (ji2)) = true := decide_eq_true c3
    clear c3
    by_cases c4 : (ji2) ≤ (a0.size : Int)
    · rw [if_pos c4] at H
      have c4b0 := eq_true c4
      have c4b1 : decide ((ji2) ≤ (a0.size : Int)) = true := decide_eq_true c4
      clear c4
      obtain rfl := Option.some.inj H
      go_enter Tryd.func40, Tryd.ntmps40
      go_wp2
      go_ret
      exact ⟨by first | rfl | (simp [errW_none, errW_some] <;> rfl) | (simp only [← hji2]; first | rfl | (simp [errW_none, errW_some] <;> rfl)) | (simp [*, errW_none, errW_some] <;> rfl), by repeat (first | (with_reducible first | exact HB.out | apply below_alloc | apply pw_below_drewN | apply below_drew1) | exact HB.out)⟩
    · rw [if_neg c4] at H
      exact absurd H (by simp)
  · rw [if_neg c3] at H
    exact absurd H (by simp)

/-! ### strconv_Itoa: function 53 -/
def strconv_Itoa.f (a0 : Int) : Option ByteArray := if -9223372036854775808 ≤ a0 ∧ a0 ≤ 9223372036854775807 then some ⟨(Lib.itoa a0).toArray⟩ else none
theorem strconv_Itoa.calls (a0 : Int) (r : ByteArray) (w : World) (hG : GL w) (h : strconv_Itoa.f a0 = some r) :
    Calls Tryd.prog 53 #[.int .i64 a0] w fun e w' => e = .returned (.string r) ∧ Below w.heap.size w w' := by
  unfold strconv_Itoa.f at h
  split at h
  case isFalse => cases h
  rename_i hb
  obtain rfl := Option.some.inj h
  exact (Tryd.strconv_Itoa a0 hb.1 hb.2 w hG.pow10).mono fun e w' ⟨he, k, os, hw⟩ => ⟨he, hw ▸ Lib.below_grow _ _ (Nat.le_refl _) k os⟩

/-! ### api_Errno_Error: function 56 -/
def api_Errno_Error.row (m : Nat) (ds : List UInt8) : Array Value := ((List.replicate m (0 : UInt8) ++ ds).map fun b => Value.int .u8 (b.toNat : Int)).toArray
theorem api_Errno_Error.row_size (m : Nat) (ds : List UInt8) : (api_Errno_Error.row m ds).size = m + ds.length := by simp [api_Errno_Error.row]
theorem api_Errno_Error.row_set (m : Nat) (ds : List UInt8) (d : UInt8) : (api_Errno_Error.row (m + 1) ds).setIfInBounds m (.int .u8 (d.toNat : Int)) = api_Errno_Error.row m (d :: ds) := by
  apply Array.toList_inj.1
  unfold api_Errno_Error.row
  rw [Array.toList_setIfInBounds]
  simp only [List.map_append, List.map_replicate, List.map_cons]
  rw [List.set_append_left _ _ (by simp), List.replicate_succ', List.set_append_right _ _ (by simp)]
  simp
theorem api_Errno_Error.row_at (m : Nat) (ds : List UInt8) (j : Nat) (h : j < ds.length) : (api_Errno_Error.row m ds)[m + j]? = some (.int .u8 ((ds[j]).toNat : Int)) := by
  unfold api_Errno_Error.row
  rw [List.getElem?_toArray, List.getElem?_map, List.getElem?_append_right (by simp)]
  simp [h]
theorem api_Errno_Error.row_in (m : Nat) (ds : List UInt8) (j : Nat) (h : j < m + ds.length) : ∃ v, (api_Errno_Error.row m ds)[j]? = some v := ⟨_, Array.getElem?_eq_getElem (by rw [api_Errno_Error.row_size]; exact h)⟩
theorem api_Errno_Error.built : Tryd.prog.built 87 [] = some (api_Errno_Error.row 20 []) := by kernel_rfl
def api_Errno_Error.tl (n : Nat) (ds : List UInt8) : List UInt8 := if n = 0 then ds else Lib.decDigits n ++ ds
theorem api_Errno_Error.tl_step (n : Nat) (ds : List UInt8) : api_Errno_Error.tl (n / 10) (UInt8.ofNat (48 + n % 10) :: ds) = Lib.decDigits n ++ ds := by
  unfold api_Errno_Error.tl
  rw [Lib.decDigits.eq_1 n]
  split
  · rename_i h
    rw [dif_pos (by omega)]
    rw [show n % 10 = n by omega]; rfl
  · rename_i h
    rw [dif_neg (by omega)]
    simp
theorem api_Errno_Error.below_row {w W : World} {g : Nat} {cs : Array Value} (h : Below w.heap.size w W) (hg : w.heap.size ≤ g) : Below w.heap.size w (W.setRow g cs) :=
  ⟨h.os, h.tape, h.output, by rw [setRow_size]; exact h.size, fun k hk => by rw [setRow_other _ _ _ _ (by omega)]; exact h.block k hk⟩
def api_Errno_Error.Inv (N m n : Nat) (ds : List UInt8) (b : Bool) : Prop := m + ds.length = 20 ∧ n * 10 ^ ds.length ≤ N ∧ N ≤ 9223372036854775807 ∧ (b = true → ds = [] ∧ n = N) ∧ (b = false → api_Errno_Error.tl n ds = Lib.decDigits N)
theorem api_Errno_Error.inv_step {N m n : Nat} {ds : List UInt8} {b : Bool} (h : api_Errno_Error.Inv N m n ds b) (hb : b = true ∨ 0 < n) : ∃ m', m = m' + 1 ∧ m' ≤ 19 ∧ api_Errno_Error.Inv N m' (n / 10) (UInt8.ofNat (48 + n % 10) :: ds) false := by
  obtain ⟨h1, h2, h3, h4, h5⟩ := h
  have hlen : ds.length ≤ 19 := by
    rcases hb with hb | hb
    · rw [(h4 hb).1]; simp
    · rcases Nat.lt_or_ge ds.length 20 with h | h
      · omega
      · exfalso
        have : 10 ^ 20 ≤ 10 ^ ds.length := Nat.pow_le_pow_right (by omega) h
        have : 1 * 10 ^ ds.length ≤ n * 10 ^ ds.length := Nat.mul_le_mul_right _ hb
        omega
  refine ⟨m - 1, by omega, by omega, by simp only [List.length_cons]; omega, ?_, h3, (fun h => by simp at h), fun _ => ?_⟩
  · rw [List.length_cons, Nat.pow_succ, Nat.mul_comm (10 ^ ds.length) 10, ← Nat.mul_assoc]
    exact Nat.le_trans (Nat.mul_le_mul_right _ (by omega)) h2
  · rw [api_Errno_Error.tl_step]
    cases b with
    | true =>
      obtain ⟨e1, e2⟩ := h4 rfl
      rw [e1, e2]; simp
    | false =>
      rcases hb with hb | hb
      · cases hb
      · rw [← h5 rfl]
        unfold api_Errno_Error.tl
        rw [if_neg (by omega)]
def api_Errno_Error.f (a0 : Int) : Option ByteArray := if 0 ≤ a0 ∧ a0 ≤ 9223372036854775807 then some ⟨([101, 114, 114, 111, 114, 32] ++ Lib.decDigits a0.toNat).toArray⟩ else none
set_option maxHeartbeats 8000000 in
set_option maxRecDepth 100000 in
theorem api_Errno_Error.calls (a0 : Int) (r : ByteArray) (w : World) (h : api_Errno_Error.f a0 = some r) :
    Calls Tryd.prog 56 #[.int .i64 a0] w fun e w' => e = .returned (.string r) ∧ Below w.heap.size w w' := by
  unfold api_Errno_Error.f at h
  split at h
  case isFalse => cases h
  rename_i hb
  have hr := Option.some.inj h
  clear h
  go_enter Tryd.func56, Tryd.ntmps56
  go_wp2_with (first
    | ((with_reducible refine gate_dst (N := 7) rfl ?_); refine Kd.event_run rfl (v := .agg (api_Errno_Error.row 20 [])) (run_build _ _ _ _ api_Errno_Error.built) ?_)
    | ((with_reducible refine gate_dst (N := 3) rfl ?_); refine box_event rfl (N := 3) rfl (cs := api_Errno_Error.row 20 []) (t := 87) (by kernel_rfl) ?_; intro g hg w1 hrow hb1)
    | (refine wpList_plain rfl fun K hK => wp_store_row 87 (.tmp 3) (.tmp 7) rfl g (api_Errno_Error.row 20 []) rfl rfl 87 _ hrow (by kernel_rfl) rfl (by kernel_rfl) (hK _ _ ?_))
    | go_in)
  subst hg
  clear hK K
  go_loopw [4, 5, 6] (fun v4 v5 v6 wr => ∃ (m n : Nat) (ds : List UInt8) (b : Bool), v4 = .int .i64 (m : Int) ∧ v5 = .int .i64 (n : Int) ∧ v6 = .bool b ∧ Plus.Kept (api_Errno_Error.Inv a0.toNat m n ds b) ∧ Plus.Kept (wr.heap[w.heap.size]? = some (.cells (api_Errno_Error.row m ds) 87 (0, 0))) ∧ Plus.Kept (Below w.heap.size w wr))
    (fun v4 _ _ _ => (Plus.intOf v4).toNat)
  case atStart =>
    have ea : a0 = ((a0.toNat : Nat) : Int) := by omega
    refine ⟨20, a0.toNat, [], true, rfl, by rw [← ea], rfl, ⟨rfl, by simp, by omega, fun _ => ⟨rfl, rfl⟩, fun h => by cases h⟩, ⟨setRow_heap _ _ _ _ _ _ hrow⟩, ⟨api_Errno_Error.below_row hb1 (Nat.le_refl _)⟩⟩
  case round =>
    obtain ⟨m, n, ds, b, rfl, rfl, rfl, HI, HG, HB⟩ := hrel
    have hcase : (b = true ∨ 0 < n) ∨ (b = false ∧ n = 0) := by cases b <;> simp <;> omega
    rcases hcase with hc | ⟨rfl, rfl⟩
    · obtain ⟨m', rfl, hm, hI'⟩ := api_Errno_Error.inv_step HI.out hc
      have HI' := Plus.Kept.mk hI'
      have hcell : ∃ v, wr.cell? ⟨w.heap.size, m', none⟩ = some v := by
        obtain ⟨v, hv⟩ := api_Errno_Error.row_in (m' + 1) ds m' (by omega)
        exact ⟨v, by simp [World.cell?, HG.out, hv]⟩
      obtain ⟨v, hcell⟩ := hcell
      have hfro : wr.frozen? ⟨w.heap.size, m', none⟩ = false := by simp [World.frozen?, HG.out]
      have hw1 : wrap64 (m' : Int) = (m' : Int) := by unfold wrap64; omega
      have hnN : n ≤ a0.toNat := Nat.le_trans (Nat.le_mul_of_pos_right _ (Nat.pow_pos (by omega))) HI.out.2.1
      have hw2 : wrap64 ((n : Int) / 10) = (n : Int) / 10 := by unfold wrap64; omega
      clear hnN
      have hidx0 : (0 ≤ (m' : Int)) = True := eq_true (by omega)
      have hidx1 : ((m' : Int) < 20) = True := eq_true (by omega)
      clear hI' hm
      have hset : Plus.Kept ((wr.setCell ⟨w.heap.size, m', none⟩ (.int .u8 (48 + (n : Int) % 10))).heap[w.heap.size]? = some (.cells (api_Errno_Error.row m' (UInt8.ofNat (48 + n % 10) :: ds)) 87 (0, 0))) := by
        constructor
        rw [setCell_eq_setRow _ _ _ _ _ _ _ HG.out, setRow_heap _ _ _ _ _ _ HG.out]
        have e : (48 + (n : Int) % 10) = ((UInt8.ofNat (48 + n % 10)).toNat : Int) := by
          rw [UInt8.toNat_ofNat_of_lt' (by show 48 + n % 10 < 256; omega)]; omega
        rw [e, api_Errno_Error.row_set]
      have hbel : Plus.Kept (Below w.heap.size w (wr.setCell ⟨w.heap.size, m', none⟩ (.int .u8 (48 + (n : Int) % 10)))) := ⟨below_set HB.out (Nat.le_refl _)⟩
      have hrel : ∃ (m2 n2 : Nat) (ds2 : List UInt8) (b2 : Bool), Value.int .i64 (wrap64 (m' : Int)) = .int .i64 (m2 : Int) ∧ Value.int .i64 (wrap64 ((n : Int) / 10)) = .int .i64 (n2 : Int) ∧ Value.bool false = .bool b2 ∧ Plus.Kept (api_Errno_Error.Inv a0.toNat m2 n2 ds2 b2) ∧ Plus.Kept ((wr.setCell ⟨w.heap.size, m', none⟩ (.int .u8 (48 + (n : Int) % 10))).heap[w.heap.size]? = some (.cells (api_Errno_Error.row m2 ds2) 87 (0, 0))) ∧ Plus.Kept (Below w.heap.size w (wr.setCell ⟨w.heap.size, m', none⟩ (.int .u8 (48 + (n : Int) % 10)))) :=
        ⟨m', n / 10, _, false, by rw [hw1], by rw [hw2]; simp, rfl, HI', hset, hbel⟩
      have HREL := Plus.Kept.mk hrel
      clear hrel HG hset hbel
      cases b with
      | true =>
        clear hc
        go_wp2
        go_roundw
        case rel => exact HREL.out
        case measure => rw [hw1]; simp only [Plus.intOf]; omega
      | false =>
        have hp0 : 0 < n := by rcases hc with h | h; · cases h
                               · exact h
        have hpos : (0 < n) = True := eq_true hp0
        have hpos1 : decide (0 < n) = true := decide_eq_true hp0
        have hpos2 : (0 < (n : Int)) = True := eq_true (by omega)
        clear hp0
        clear hc
        go_wp2
        go_roundw
        case rel => exact HREL.out
        case measure => rw [hw1]; simp only [Plus.intOf]; omega
    · have hneg : decide ((0 : Int) < 0) = false := rfl
      have hdec : ds = Lib.decDigits a0.toNat := by
        have := HI.out.2.2.2.2 rfl
        unfold api_Errno_Error.tl at this
        rw [if_pos rfl] at this; exact this
      have hm : m + ds.length = 20 := HI.out.1
      have hpos : 0 < ds.length := by rw [hdec, Lib.decDigits_length]; exact Lib.nDigits_pos _
      have hne1 : (20 = m) = False := eq_false (by omega)
      have hne2 : (m = 20) = False := eq_false (by omega)
      have h0 : (0 ≤ (m : Int)) = True := eq_true (by omega)
      have h1 : ((m : Int) ≤ 20) = True := eq_true (by omega)
      have hC : (Kd.int .u8).C wr (some ⟨w.heap.size, m, none⟩) (20 - m) (ds.map fun b => (b.toNat : Int)) := by
        refine Kd.C_of_reads (enc := Value.int .u8) (d := (0 : Int)) (h1 := fun _ => rfl) ⟨by simp; omega, by omega, fun _ => ⟨_, rfl, fun j hj => ?_⟩⟩
        have hjd : j < ds.length := by omega
        have e : (⟨w.heap.size, m, none⟩ : Addr).add j = ⟨w.heap.size, m + j, none⟩ := by unfold Addr.add; split <;> simp_all
        rw [e]
        simp [World.cell?, HG.out, api_Errno_Error.row_at m ds j hjd, List.getD_eq_getElem?_getD, hjd]
      have hcv := Kd.C_string (P := Tryd.prog) (A := some ⟨w.heap.size, m, none⟩) (c := 20 - m) Tryd.underlying66 Tryd.underlying5 Tryd.underlying9 hC
      have hs : strOfNums (ds.map fun b => (b.toNat : Int)) = ⟨ds.toArray⟩ := by
        unfold strOfNums
        rw [List.map_map]
        congr 2
        conv => rhs; rw [← List.map_id ds]
        exact List.map_congr_left fun b _ => by simp
      rw [hs] at hcv
      obtain ⟨s, hse⟩ : ∃ s : ByteArray, s = ⟨ds.toArray⟩ := ⟨_, rfl⟩
      have hz : s.size = ds.length := by rw [hse]; simp [ByteArray.size]
      rw [← hse] at hcv
      have hsz : 6 + s.size ≤ 9223372036854775807 := by rw [hz]; omega
      have z0 := eq_true hsz
      have z1 : decide (6 + s.size ≤ 9223372036854775807) = true := decide_eq_true hsz
      have z2 : (9223372036854775807 < 6 + s.size) = False := eq_false (Nat.not_lt.2 hsz)
      clear hsz hz hs hpos hm hneg hC
      have he : (⟨#[101, 114, 114, 111, 114, 32]⟩ : ByteArray) ++ s = r := by
        rw [← hr, ← hdec, hse]
        apply ByteArray.ext
        apply Array.toList_inj.1
        simp
      have HE := Plus.Kept.mk he
      clear hdec hr hb hse he
      go_wp2
      go_ret
      exact ⟨by rw [← HE.out]; rfl, HB.out⟩

/-! ### place_Fault: function 41 -/
def place_Fault.f (k : Nat) (a0 : ByteArray) (a1 : Int) (a2 : Int) : Option (ByteArray) := (place_Of.f k a0 a1).bind fun bt108 => (if bt108.2.2 = 0 then ((strconv_Itoa.f bt108.1).bind fun t111 => (if t111.size + 1 ≤ 9223372036854775807 then ((strconv_Itoa.f bt108.2.1).bind fun t112 => (if (t111 ++ (⟨#[58]⟩ : ByteArray)).size + t112.size ≤ 9223372036854775807 then (if ((t111 ++ (⟨#[58]⟩ : ByteArray)) ++ t112).size + 2 ≤ 9223372036854775807 then ((api_Errno_Error.f a2).bind fun t113 => (if (((t111 ++ (⟨#[58]⟩ : ByteArray)) ++ t112) ++ (⟨#[58, 32]⟩ : ByteArray)).size + t113.size ≤ 9223372036854775807 then (some ((((t111 ++ (⟨#[58]⟩ : ByteArray)) ++ t112) ++ (⟨#[58, 32]⟩ : ByteArray)) ++ t113)) else (none))) else (none)) else (none))) else (none))) else ((api_Errno_Error.f a2).bind fun t114 => (some t114)))
theorem place_Fault.mono : ∀ a0 a1 a2 k, LeO (place_Fault.f k a0 a1 a2) (place_Fault.f (k + 1) a0 a1 a2) := by
  intro a0 a1 a2 k
  unfold place_Fault.f
  repeat' first
      | (with_reducible exact place_Of.mono _ _ _)
      | (with_reducible exact LeO.refl _)
      | (with_reducible exact LeO.none _)
      | (with_reducible refine LeO.ite ?_ ?_)
      | (with_reducible refine LeO.bind ?_ (fun _ => ?_))
      | exact place_Of.mono _ _ _
      | exact LeO.none _
      | refine LeO.ite ?_ ?_
      | refine LeO.bind ?_ (fun _ => ?_)
set_option maxHeartbeats 8000000 in
set_option maxRecDepth 100000 in
theorem place_Fault.calls (k : Nat) (a0 : ByteArray) (a1 : Int) (a2 : Int) (r : ByteArray) (w : World) (hG : GL w) (h : place_Fault.f k a0 a1 a2 = some r) :
    Calls Tryd.prog 41 #[.string a0, .int .i64 a1, .int .i64 a2] w fun e w' => e = .returned (.string r) ∧ Below w.heap.size w w' := by
  have HG := Aside0.mk hG
  clear hG
  have HB := Aside0.mk (Below.refl w.heap.size w)
  have H : ((place_Of.f k a0 a1).bind fun bt108 => (if bt108.2.2 = 0 then ((strconv_Itoa.f bt108.1).bind fun t111 => (if t111.size + 1 ≤ 9223372036854775807 then ((strconv_Itoa.f bt108.2.1).bind fun t112 => (if (t111 ++ (⟨#[58]⟩ : ByteArray)).size + t112.size ≤ 9223372036854775807 then (if ((t111 ++ (⟨#[58]⟩ : ByteArray)) ++ t112).size + 2 ≤ 9223372036854775807 then ((api_Errno_Error.f a2).bind fun t113 => (if (((t111 ++ (⟨#[58]⟩ : ByteArray)) ++ t112) ++ (⟨#[58, 32]⟩ : ByteArray)).size + t113.size ≤ 9223372036854775807 then (some ((((t111 ++ (⟨#[58]⟩ : ByteArray)) ++ t112) ++ (⟨#[58, 32]⟩ : ByteArray)) ++ t113)) else (none))) else (none)) else (none))) else (none))) else ((api_Errno_Error.f a2).bind fun t114 => (some t114)))) = some r := h
  clear h
  replace H := Option.bind_eq_some_iff.mp H
  obtain ⟨⟨t108, t109, t110⟩, A40, H⟩ := H
  replace H : (if t110 = 0 then ((strconv_Itoa.f t108).bind fun t111 => (if t111.size + 1 ≤ 9223372036854775807 then ((strconv_Itoa.f t109).bind fun t112 => (if (t111 ++ (⟨#[58]⟩ : ByteArray)).size + t112.size ≤ 9223372036854775807 then (if ((t111 ++ (⟨#[58]⟩ : ByteArray)) ++ t112).size + 2 ≤ 9223372036854775807 then ((api_Errno_Error.f a2).bind fun t113 => (if (((t111 ++ (⟨#[58]⟩ : ByteArray)) ++ t112) ++ (⟨#[58, 32]⟩ : ByteArray)).size + t113.size ≤ 9223372036854775807 then (some ((((t111 ++ (⟨#[58]⟩ : ByteArray)) ++ t112) ++ (⟨#[58, 32]⟩ : ByteArray)) ++ t113)) else (none))) else (none)) else (none))) else (none))) else ((api_Errno_Error.f a2).bind fun t114 => (some t114))) = some r := H
  have A4 := Aside0.mk A40
  clear A40
  by_cases c5 : t110 = 0
  · rw [if_pos c5] at H
    have c5b0 : (t110 == 0) = true := beq_iff_eq.mpr c5
    have c5b1 : (t110 != 0) = false := bne_eq_false_iff_eq.mpr c5
    clear c5
    replace H := Option.bind_eq_some_iff.mp H
    obtain ⟨t111, A60, H⟩ := H
    replace H : (if t111.size + 1 ≤ 9223372036854775807 then ((strconv_Itoa.f t109).bind fun t112 => (if (t111 ++ (⟨#[58]⟩ : ByteArray)).size + t112.size ≤ 9223372036854775807 then (if ((t111 ++ (⟨#[58]⟩ : ByteArray)) ++ t112).size + 2 ≤ 9223372036854775807 then ((api_Errno_Error.f a2).bind fun t113 => (if (((t111 ++ (⟨#[58]⟩ : ByteArray)) ++ t112) ++ (⟨#[58, 32]⟩ : ByteArray)).size + t113.size ≤ 9223372036854775807 then (some ((((t111 ++ (⟨#[58]⟩ : ByteArray)) ++ t112) ++ (⟨#[58, 32]⟩ : ByteArray)) ++ t113)) else (none))) else (none)) else (none))) else (none)) = some r := H
    have A6 := Aside0.mk A60
    clear A60
    by_cases c7 : t111.size + 1 ≤ 9223372036854775807
    · rw [if_pos c7] at H
      have c7b0 := eq_true c7
      have c7b1 : decide (t111.size + 1 ≤ 9223372036854775807) = true := decide_eq_true c7
      try have c7b2 : (9223372036854775807 < t111.size + 1) = False := eq_false (Nat.not_lt.2 c7)
      replace H := Option.bind_eq_some_iff.mp H
      obtain ⟨t112, A80, H⟩ := H
      replace H : (if (t111 ++ (⟨#[58]⟩ : ByteArray)).size + t112.size ≤ 9223372036854775807 then (if ((t111 ++ (⟨#[58]⟩ : ByteArray)) ++ t112).size + 2 ≤ 9223372036854775807 then ((api_Errno_Error.f a2).bind fun t113 => (if (((t111 ++ (⟨#[58]⟩ : ByteArray)) ++ t112) ++ (⟨#[58, 32]⟩ : ByteArray)).size + t113.size ≤ 9223372036854775807 then (some ((((t111 ++ (⟨#[58]⟩ : ByteArray)) ++ t112) ++ (⟨#[58, 32]⟩ : ByteArray)) ++ t113)) else (none))) else (none)) else (none)) = some r := H
      have A8 := Aside0.mk A80
      clear A80
      by_cases c9 : (t111 ++ (⟨#[58]⟩ : ByteArray)).size + t112.size ≤ 9223372036854775807
      · rw [if_pos c9] at H
        have c9b0 := eq_true c9
        have c9b1 : decide ((t111 ++ (⟨#[58]⟩ : ByteArray)).size + t112.size ≤ 9223372036854775807) = true := decide_eq_true c9
        try have c9b2 : (9223372036854775807 < (t111 ++ (⟨#[58]⟩ : ByteArray)).size + t112.size) = False := eq_false (Nat.not_lt.2 c9)
        have c9f : t111.size + 1 + t112.size ≤ 9223372036854775807 := (show (t111 ++ (⟨#[58]⟩ : ByteArray)).size + t112.size = t111.size + 1 + t112.size from (by simp only [ByteArray.size_append]; rfl)) ▸ c9
        have c9f0 := eq_true c9f
        have c9f1 : decide (t111.size + 1 + t112.size ≤ 9223372036854775807) = true := decide_eq_true c9f
        have c9f2 : (9223372036854775807 < t111.size + 1 + t112.size) = False := eq_false (Nat.not_lt.2 c9f)
        clear c9f
        by_cases c10 : ((t111 ++ (⟨#[58]⟩ : ByteArray)) ++ t112).size + 2 ≤ 9223372036854775807
        · rw [if_pos c10] at H
          have c10b0 := eq_true c10
          have c10b1 : decide (((t111 ++ (⟨#[58]⟩ : ByteArray)) ++ t112).size + 2 ≤ 9223372036854775807) = true := decide_eq_true c10
          try have c10b2 : (9223372036854775807 < ((t111 ++ (⟨#[58]⟩ : ByteArray)) ++ t112).size + 2) = False := eq_false (Nat.not_lt.2 c10)
          have c10f : t111.size + 1 + t112.size + 2 ≤ 9223372036854775807 := (show ((t111 ++ (⟨#[58]⟩ : ByteArray)) ++ t112).size + 2 = t111.size + 1 + t112.size + 2 from (by simp only [ByteArray.size_append]; rfl)) ▸ c10
          have c10f0 := eq_true c10f
          have c10f1 : decide (t111.size + 1 + t112.size + 2 ≤ 9223372036854775807) = true := decide_eq_true c10f
          have c10f2 : (9223372036854775807 < t111.size + 1 + t112.size + 2) = False := eq_false (Nat.not_lt.2 c10f)
          clear c10f
          replace H := Option.bind_eq_some_iff.mp H
          obtain ⟨t113, A110, H⟩ := H
          replace H : (if (((t111 ++ (⟨#[58]⟩ : ByteArray)) ++ t112) ++ (⟨#[58, 32]⟩ : ByteArray)).size + t113.size ≤ 9223372036854775807 then (some ((((t111 ++ (⟨#[58]⟩ : ByteArray)) ++ t112) ++ (⟨#[58, 32]⟩ : ByteArray)) ++ t113)) else (none)) = some r := H
          have A11 := Aside0.mk A110
          clear A110
          by_cases c12 : (((t111 ++ (⟨#[58]⟩ : ByteArray)) ++ t112) ++ (⟨#[58, 32]⟩ : ByteArray)).size + t113.size ≤ 9223372036854775807
          · rw [if_pos c12] at H
            have c12b0 := eq_true c12
            have c12b1 : decide ((((t111 ++ (⟨#[58]⟩ : ByteArray)) ++ t112) ++ (⟨#[58, 32]⟩ : ByteArray)).size + t113.size ≤ 9223372036854775807) = true := decide_eq_true c12
            try have c12b2 : (9223372036854775807 < (((t111 ++ (⟨#[58]⟩ : ByteArray)) ++ t112) ++ (⟨#[58, 32]⟩ : ByteArray)).size + t113.size) = False := eq_false (Nat.not_lt.2 c12)
            have c12f : t111.size + 1 + t112.size + 2 + t113.size ≤ 9223372036854775807 := (show (((t111 ++ (⟨#[58]⟩ : ByteArray)) ++ t112) ++ (⟨#[58, 32]⟩ : ByteArray)).size + t113.size = t111.size + 1 + t112.size + 2 + t113.size from (by simp only [ByteArray.size_append]; rfl)) ▸ c12
            have c12f0 := eq_true c12f
            have c12f1 : decide (t111.size + 1 + t112.size + 2 + t113.size ≤ 9223372036854775807) = true := decide_eq_true c12f
            have c12f2 : (9223372036854775807 < t111.size + 1 + t112.size + 2 + t113.size) = False := eq_false (Nat.not_lt.2 c12f)
            clear c12f
            obtain rfl := Option.some.inj H
            go_enter Tryd.func41, Tryd.ntmps41
            go_wp2_with (first | ((with_reducible refine gate_callee (f := 43) rfl ?_); refine goesL_ (some 13) rfl rfl Tryd.func43 (by kernel_rfl) rfl #[.string a0, .int .i64 a1] rfl (by (try simp only [List.map_toArray, List.map_cons, List.map_nil]); first | done | rfl | (simp only [List.length_drop, List.length_take]; rfl)) ?_; (with_reducible refine (place_Of.calls k a0 a1 t108 t109 t110 _ A4.out).mono ?_); rintro e w' ⟨rfl, ⟨nd, rfl⟩⟩; refine ⟨_, rfl, ?_⟩) | ((with_reducible refine gate_callee (f := 53) rfl ?_); refine goesL_ (some 22) rfl rfl Tryd.func53 (by kernel_rfl) rfl #[.int .i64 t108] rfl (by (try simp only [List.map_toArray, List.map_cons, List.map_nil]); first | done | rfl | (simp only [List.length_drop, List.length_take]; rfl)) ?_; (with_reducible refine (strconv_Itoa.calls t108 t111 _ ?sideG A6.out).mono ?_); (case sideG => (refine GL.below HG.out ?_; repeat (first | (with_reducible exact Below.refl _ _) | (with_reducible exact Aside0.out (by assumption)) | (with_reducible apply below_alloc) | (with_reducible apply pw_below_drewN) | (with_reducible apply below_drew1)))); rintro e w13 ⟨rfl, hb⟩; refine ⟨_, rfl, ?_⟩; have n0_ := Aside0.mk (below_step (by repeat (first | (with_reducible first | exact HB.out | apply below_alloc | apply pw_below_drewN | apply below_drew1) | exact HB.out)) hb); clear HB; have HB := n0_; clear n0_; (try clear hb); (try clear hb2); (try clear hk); (try clear hi)) | ((with_reducible refine gate_callee (f := 53) rfl ?_); refine goesL_ (some 25) rfl rfl Tryd.func53 (by kernel_rfl) rfl #[.int .i64 t109] rfl (by (try simp only [List.map_toArray, List.map_cons, List.map_nil]); first | done | rfl | (simp only [List.length_drop, List.length_take]; rfl)) ?_; (with_reducible refine (strconv_Itoa.calls t109 t112 _ ?sideG A8.out).mono ?_); (case sideG => (refine GL.below HG.out ?_; repeat (first | (with_reducible exact Below.refl _ _) | (with_reducible exact Aside0.out (by assumption)) | (with_reducible apply below_alloc) | (with_reducible apply pw_below_drewN) | (with_reducible apply below_drew1)))); rintro e w14 ⟨rfl, hb⟩; refine ⟨_, rfl, ?_⟩; have n0_ := Aside0.mk (below_step (by repeat (first | (with_reducible first | exact HB.out | apply below_alloc | apply pw_below_drewN | apply below_drew1) | exact HB.out)) hb); clear HB; have HB := n0_; clear n0_; (try clear hb); (try clear hb2); (try clear hk); (try clear hi)) | ((with_reducible refine gate_callee (f := 56) rfl ?_); refine goesL_ (some 29) rfl rfl Tryd.func56 (by kernel_rfl) rfl #[.int .i64 a2] rfl (by (try simp only [List.map_toArray, List.map_cons, List.map_nil]); first | done | rfl | (simp only [List.length_drop, List.length_take]; rfl)) ?_; (with_reducible refine (api_Errno_Error.calls a2 t113 _ A11.out).mono ?_); rintro e w15 ⟨rfl, hb⟩; refine ⟨_, rfl, ?_⟩; have n0_ := Aside0.mk (below_step (by repeat (first | (with_reducible first | exact HB.out | apply below_alloc | apply pw_below_drewN | apply below_drew1) | exact HB.out)) hb); clear HB; have HB := n0_; clear n0_; (try clear hb); (try clear hb2); (try clear hk); (try clear hi)))
            go_ret
            exact ⟨by first | rfl | (simp [errW_none, errW_some] <;> rfl) | (simp [*, errW_none, errW_some] <;> rfl), by repeat (first | (with_reducible first | exact HB.out | apply below_alloc | apply pw_below_drewN | apply below_drew1) | exact HB.out)⟩
          · rw [if_neg c12] at H
            exact absurd H (by simp)
        · rw [if_neg c10] at H
          exact absurd H (by simp)
      · rw [if_neg c9] at H
        exact absurd H (by simp)
    · rw [if_neg c7] at H
      exact absurd H (by simp)
  · rw [if_neg c5] at H
    have c5b0 : (t110 == 0) = false := beq_eq_false_iff_ne.mpr c5
    have c5b1 : (t110 != 0) = true := bne_iff_ne.mpr c5
    replace H := Option.bind_eq_some_iff.mp H
    obtain ⟨t114, A160, H⟩ := H
    replace H : (some t114) = some r := H
    have A16 := Aside0.mk A160
    clear A160
    obtain rfl := Option.some.inj H
    go_enter Tryd.func41, Tryd.ntmps41
    go_wp2_with (first | ((with_reducible refine gate_callee (f := 43) rfl ?_); refine goesL_ (some 13) rfl rfl Tryd.func43 (by kernel_rfl) rfl #[.string a0, .int .i64 a1] rfl (by (try simp only [List.map_toArray, List.map_cons, List.map_nil]); first | done | rfl | (simp only [List.length_drop, List.length_take]; rfl)) ?_; (with_reducible refine (place_Of.calls k a0 a1 t108 t109 t110 _ A4.out).mono ?_); rintro e w' ⟨rfl, ⟨nd, rfl⟩⟩; refine ⟨_, rfl, ?_⟩) | ((with_reducible refine gate_callee (f := 56) rfl ?_); refine goesL_ (some 20) rfl rfl Tryd.func56 (by kernel_rfl) rfl #[.int .i64 a2] rfl (by (try simp only [List.map_toArray, List.map_cons, List.map_nil]); first | done | rfl | (simp only [List.length_drop, List.length_take]; rfl)) ?_; (with_reducible refine (api_Errno_Error.calls a2 t114 _ A16.out).mono ?_); rintro e w17 ⟨rfl, hb⟩; refine ⟨_, rfl, ?_⟩; have n0_ := Aside0.mk (below_step (by repeat (first | (with_reducible first | exact HB.out | apply below_alloc | apply pw_below_drewN | apply below_drew1) | exact HB.out)) hb); clear HB; have HB := n0_; clear n0_; (try clear hb); (try clear hb2); (try clear hk); (try clear hi)))
    go_ret
    exact ⟨by first | rfl | (simp [errW_none, errW_some] <;> rfl) | (simp [*, errW_none, errW_some] <;> rfl), by repeat (first | (with_reducible first | exact HB.out | apply below_alloc | apply pw_below_drewN | apply below_drew1) | exact HB.out)⟩

/-! ### gramaryebase_Itoa: function 15 -/
def gramaryebase_Itoa.l0 : Nat → Int → ByteArray → Int → Option (ByteArray)
  | 0, _, _, _ => none
  | k + 1, x0, x3, x4 => if x4 = 0 then (if x0 < 0 then (if 1 + x3.size ≤ 9223372036854775807 then (some ((⟨#[45]⟩ : ByteArray) ++ x3)) else (none)) else (some x3)) else (if (Int.tmod x4 10) < 0 then ((some (([(wrap64 (48 + (wrap64 (-(Int.tmod x4 10))))) % 256] : List Int) : List Int)).bind fun y115 => (if (strOfNums y115).size + x3.size ≤ 9223372036854775807 then (gramaryebase_Itoa.l0 k x0 ((strOfNums y115) ++ x3) (wrap64 (Int.tdiv x4 10))) else (none))) else ((some (([(wrap64 (48 + (Int.tmod x4 10))) % 256] : List Int) : List Int)).bind fun y118 => (if (strOfNums y118).size + x3.size ≤ 9223372036854775807 then (gramaryebase_Itoa.l0 k x0 ((strOfNums y118) ++ x3) (wrap64 (Int.tdiv x4 10))) else (none))))
def gramaryebase_Itoa.f (k : Nat) (a0 : Int) : Option (ByteArray) := if a0 = 0 then (some (⟨#[48]⟩ : ByteArray)) else (gramaryebase_Itoa.l0 k a0 (⟨#[]⟩ : ByteArray) a0)
theorem gramaryebase_Itoa.mono_l : ∀ k, (∀ y0 y1 y2, LeO (gramaryebase_Itoa.l0 k y0 y1 y2) (gramaryebase_Itoa.l0 (k + 1) y0 y1 y2))
  | 0 => fun _ _ _ r h => by simp [gramaryebase_Itoa.l0] at h
  | k + 1 => by
    have ih0 := gramaryebase_Itoa.mono_l k
    · intro y0 y1 y2
      unfold gramaryebase_Itoa.l0
      repeat' first
      | (with_reducible exact ih0 _ _ _)
      | (with_reducible exact LeO.refl _)
      | (with_reducible exact LeO.none _)
      | (with_reducible refine LeO.ite ?_ ?_)
      | (with_reducible refine LeO.bind ?_ (fun _ => ?_))
      | exact ih0 _ _ _
      | exact LeO.none _
      | refine LeO.ite ?_ ?_
      | refine LeO.bind ?_ (fun _ => ?_)
theorem gramaryebase_Itoa.mono : ∀ a0 k, LeO (gramaryebase_Itoa.f k a0) (gramaryebase_Itoa.f (k + 1) a0) := by
  intro a0 k
  have ih0 := gramaryebase_Itoa.mono_l k
  unfold gramaryebase_Itoa.f
  repeat' first
      | (with_reducible exact ih0 _ _ _)
      | (with_reducible exact LeO.refl _)
      | (with_reducible exact LeO.none _)
      | (with_reducible refine LeO.ite ?_ ?_)
      | (with_reducible refine LeO.bind ?_ (fun _ => ?_))
      | exact ih0 _ _ _
      | exact LeO.none _
      | refine LeO.ite ?_ ?_
      | refine LeO.bind ?_ (fun _ => ?_)
set_option maxHeartbeats 8000000 in
set_option maxRecDepth 100000 in
theorem gramaryebase_Itoa.calls (k : Nat) (a0 : Int) (r : ByteArray) (w : World) (h : gramaryebase_Itoa.f k a0 = some r) :
    Calls Tryd.prog 15 #[.int .i64 a0] w fun e w' => e = .returned (.string r) ∧ Below w.heap.size w w' := by
  have HB := Aside0.mk (Below.refl w.heap.size w)
  have H : (if a0 = 0 then (some (⟨#[48]⟩ : ByteArray)) else (gramaryebase_Itoa.l0 k a0 (⟨#[]⟩ : ByteArray) a0)) = some r := h
  clear h
  by_cases c2 : a0 = 0
  · rw [if_pos c2] at H
    have c2b0 : (a0 == 0) = true := beq_iff_eq.mpr c2
    have c2b1 : (a0 != 0) = false := bne_eq_false_iff_eq.mpr c2
    clear c2
    obtain rfl := Option.some.inj H
    go_enter Tryd.func15, Tryd.ntmps15
    go_wp2
    go_ret
    exact ⟨by first | rfl | (simp [errW_none, errW_some] <;> rfl) | (simp [*, errW_none, errW_some] <;> rfl), by repeat (first | (with_reducible first | exact HB.out | apply below_alloc | apply pw_below_drewN | apply below_drew1) | exact HB.out)⟩
  · rw [if_neg c2] at H
    have c2b0 : (a0 == 0) = false := beq_eq_false_iff_ne.mpr c2
    have c2b1 : (a0 != 0) = true := bne_iff_ne.mpr c2
    have H' := Aside0.mk H
    clear H
    go_enter Tryd.func15, Tryd.ntmps15
    go_wp2
    go_loopg [3, 4] k (fun kq v3 v4 w' => ∃ (x3_1 : ByteArray) (x4_1 : Int), v3 = .string x3_1 ∧ v4 = .int .i64 x4_1 ∧ Aside0 (gramaryebase_Itoa.l0 kq a0 x3_1 x4_1 = some r) ∧ Aside0 (kq ≤ k) ∧ Aside0 (Below w.heap.size w w'))
    case atStart => exact ⟨((⟨#[]⟩ : ByteArray)), (a0), (by first | rfl | (simp; done) | (simp [*]; done)), (by first | rfl | (simp; done) | (simp [*]; done)), H', ⟨Nat.le_refl _⟩, ⟨by repeat (first | (with_reducible first | exact HB.out | apply below_alloc | apply pw_below_drewN | apply below_drew1) | exact HB.out)⟩⟩
    case round =>
      clear H'
      try clear c1
      try clear c2
      try clear c2b0
      try clear c2b1
      try clear p2
      obtain ⟨x3_1, x4_1, rfl, rfl, HA, HK1, HB⟩ := hrel
      cases gk with
      | zero => exact absurd HA.out (by simp [gramaryebase_Itoa.l0])
      | succ k1 =>
        have H := HA.out
        clear HA
        simp only [gramaryebase_Itoa.l0] at H
        by_cases c3 : x4_1 = 0
        · rw [if_pos c3] at H
          have c3b0 : (x4_1 == 0) = true := beq_iff_eq.mpr c3
          have c3b1 : (x4_1 != 0) = false := bne_eq_false_iff_eq.mpr c3
          clear c3
          by_cases c4 : a0 < 0
          · rw [if_pos c4] at H
            have c4b0 : decide (a0 < 0) = true := decide_eq_true c4
            clear c4
            by_cases c5 : 1 + x3_1.size ≤ 9223372036854775807
            · rw [if_pos c5] at H
              have c5b0 := eq_true c5
              have c5b1 : decide (1 + x3_1.size ≤ 9223372036854775807) = true := decide_eq_true c5
              try have c5b2 : (9223372036854775807 < 1 + x3_1.size) = False := eq_false (Nat.not_lt.2 c5)
              obtain rfl := Option.some.inj H
              go_wp2
              go_ret
              exact ⟨by first | rfl | (simp [errW_none, errW_some] <;> rfl) | (simp [*, errW_none, errW_some] <;> rfl), by repeat (first | (with_reducible first | exact HB.out | apply below_alloc | apply pw_below_drewN | apply below_drew1) | exact HB.out)⟩
            · rw [if_neg c5] at H
              exact absurd H (by simp)
          · rw [if_neg c4] at H
            have c4b0 : decide (a0 < 0) = false := decide_eq_false c4
            clear c4
            obtain rfl := Option.some.inj H
            go_wp2
            go_ret
            exact ⟨by first | rfl | (simp [errW_none, errW_some] <;> rfl) | (simp [*, errW_none, errW_some] <;> rfl), by repeat (first | (with_reducible first | exact HB.out | apply below_alloc | apply pw_below_drewN | apply below_drew1) | exact HB.out)⟩
        · rw [if_neg c3] at H
          have c3b0 : (x4_1 == 0) = false := beq_eq_false_iff_ne.mpr c3
          have c3b1 : (x4_1 != 0) = true := bne_iff_ne.mpr c3
          by_cases c6 : (Int.tmod x4_1 10) < 0
          · rw [if_pos c6] at H
            have c6b0 : decide ((Int.tmod x4_1 10) < 0) = true := decide_eq_true c6
            clear c6
            obtain ⟨y115, hy115⟩ : ∃ y_ : List Int, y_ = (([(wrap64 (48 + (wrap64 (-(Int.tmod x4_1 10))))) % 256] : List Int)) := ⟨_, rfl⟩
            replace H : (if (strOfNums y115).size + x3_1.size ≤ 9223372036854775807 then (gramaryebase_Itoa.l0 k1 a0 ((strOfNums y115) ++ x3_1) (wrap64 (Int.tdiv x4_1 10))) else (none)) = some r := by first | (rw [hy115]; with_reducible exact H) | (have H2_ := (Option.bind_some _ _).symm.trans H; rw [hy115]; with_reducible exact H2_) | (have H2_ := (Option.bind_some _ _).symm.trans H; with_reducible exact H2_) | with_reducible exact H | (rw [hy115]; exact H) | exact H
            have Ny115 := Aside0.mk hy115
            clear hy115
            by_cases c7 : (strOfNums y115).size + x3_1.size ≤ 9223372036854775807
            · rw [if_pos c7] at H
              have c7b0 := eq_true c7
              have c7b1 : decide ((strOfNums y115).size + x3_1.size ≤ 9223372036854775807) = true := decide_eq_true c7
              try have c7b2 : (9223372036854775807 < (strOfNums y115).size + x3_1.size) = False := eq_false (Nat.not_lt.2 c7)
              have H' := Aside0.mk H
              clear H
              go_wp2_with (first | ((with_reducible refine gate_dst (N := 20) rfl ?_); refine Kd.R_lit (Kd.int .u8) _ 5 ?hg (N := 20) ?hd (xs := ([(wrap64 (48 + (wrap64 (-(Int.tmod x4_1 10))))) % 256] : List Int)) (inner := [.int .u8 ((wrap64 (48 + (wrap64 (-(Int.tmod x4_1 10))))) % 256)]) (ok := fun _ => True) (okp := fun _ => True) ?hr ?hp (fun _ hk => hk) trivial (Below.refl _ _) (Nat.le_refl _) (by simp) ?_; (case hd => rfl); (case hg => rfl); (case hr => first | (go_simp; done) | (go_simp; rfl)); (case hp => exact (Reps.one (show Kd.M (Kd.int .u8) _ _ _ ((wrap64 (48 + (wrap64 (-(Int.tmod x4_1 10))))) % 256) [.int .u8 ((wrap64 (48 + (wrap64 (-(Int.tmod x4_1 10))))) % 256)] from rfl) (Reps.none _ _))); intro v116 w8 ho9 hb hg_ hnew_; clear hg_ hnew_; (first | rw [← Ny115.out] at ho9 | (simp only [Int.reduceToNat] at ho9; rw [← Ny115.out] at ho9)); have n0_ := Aside0.mk (Kd.R_lower ho9 (below_size (by repeat (first | (with_reducible first | exact HB.out | apply below_alloc | apply pw_below_drewN | apply below_drew1) | exact HB.out)))); have n1_ := Aside0.mk (below_step (by repeat (first | (with_reducible first | exact HB.out | apply below_alloc | apply pw_below_drewN | apply below_drew1) | exact HB.out)) hb); clear HB; have HO117 := n0_; have HB := n1_; clear n0_ n1_; clear hb ho9; have hcv10 := own_string (P := Tryd.prog) Tryd.underlying66 Tryd.underlying5 Tryd.underlying9 (Kd.own_of_R HO117.out)))
              go_roundg k1
              case measure => have := HK1.out; omega
              case rel => exact ⟨((strOfNums y115) ++ x3_1), (wrap64 (Int.tdiv x4_1 10)), (by first | rfl | (simp; done) | (simp [*]; done)), (by first | rfl | (simp; done) | (simp [*]; done)), H', ⟨by have := HK1.out; omega⟩, ⟨by repeat (first | (with_reducible first | exact HB.out | apply below_alloc | apply pw_below_drewN | apply below_drew1) | exact HB.out)⟩⟩
            · rw [if_neg c7] at H
              exact absurd H (by simp)
          · rw [if_neg c6] at H
            have c6b0 : decide ((Int.tmod x4_1 10) < 0) = false := decide_eq_false c6
            clear c6
            obtain ⟨y118, hy118⟩ : ∃ y_ : List Int, y_ = (([(wrap64 (48 + (Int.tmod x4_1 10))) % 256] : List Int)) := ⟨_, rfl⟩
            replace H : (if (strOfNums y118).size + x3_1.size ≤ 9223372036854775807 then (gramaryebase_Itoa.l0 k1 a0 ((strOfNums y118) ++ x3_1) (wrap64 (Int.tdiv x4_1 10))) else (none)) = some r := by first | (rw [hy118]; with_reducible exact H) | (have H2_ := (Option.bind_some _ _).symm.trans H; rw [hy118]; with_reducible exact H2_) | (have H2_ := (Option.bind_some _ _).symm.trans H; with_reducible exact H2_) | with_reducible exact H | (rw [hy118]; exact H) | exact H
            have Ny118 := Aside0.mk hy118
            clear hy118
            by_cases c11 : (strOfNums y118).size + x3_1.size ≤ 9223372036854775807
            · rw [if_pos c11] at H
              have c11b0 := eq_true c11
              have c11b1 : decide ((strOfNums y118).size + x3_1.size ≤ 9223372036854775807) = true := decide_eq_true c11
              try have c11b2 : (9223372036854775807 < (strOfNums y118).size + x3_1.size) = False := eq_false (Nat.not_lt.2 c11)
              have H' := Aside0.mk H
              clear H
              go_wp2_with (first | ((with_reducible refine gate_dst (N := 20) rfl ?_); refine Kd.R_lit (Kd.int .u8) _ 5 ?hg (N := 20) ?hd (xs := ([(wrap64 (48 + (Int.tmod x4_1 10))) % 256] : List Int)) (inner := [.int .u8 ((wrap64 (48 + (Int.tmod x4_1 10))) % 256)]) (ok := fun _ => True) (okp := fun _ => True) ?hr ?hp (fun _ hk => hk) trivial (Below.refl _ _) (Nat.le_refl _) (by simp) ?_; (case hd => rfl); (case hg => rfl); (case hr => first | (go_simp; done) | (go_simp; rfl)); (case hp => exact (Reps.one (show Kd.M (Kd.int .u8) _ _ _ ((wrap64 (48 + (Int.tmod x4_1 10))) % 256) [.int .u8 ((wrap64 (48 + (Int.tmod x4_1 10))) % 256)] from rfl) (Reps.none _ _))); intro v119 w12 ho13 hb hg_ hnew_; clear hg_ hnew_; (first | rw [← Ny118.out] at ho13 | (simp only [Int.reduceToNat] at ho13; rw [← Ny118.out] at ho13)); have n0_ := Aside0.mk (Kd.R_lower ho13 (below_size (by repeat (first | (with_reducible first | exact HB.out | apply below_alloc | apply pw_below_drewN | apply below_drew1) | exact HB.out)))); have n1_ := Aside0.mk (below_step (by repeat (first | (with_reducible first | exact HB.out | apply below_alloc | apply pw_below_drewN | apply below_drew1) | exact HB.out)) hb); clear HB; have HO120 := n0_; have HB := n1_; clear n0_ n1_; clear hb ho13; have hcv14 := own_string (P := Tryd.prog) Tryd.underlying66 Tryd.underlying5 Tryd.underlying9 (Kd.own_of_R HO120.out)))
              go_roundg k1
              case measure => have := HK1.out; omega
              case rel => exact ⟨((strOfNums y118) ++ x3_1), (wrap64 (Int.tdiv x4_1 10)), (by first | rfl | (simp; done) | (simp [*]; done)), (by first | rfl | (simp; done) | (simp [*]; done)), H', ⟨by have := HK1.out; omega⟩, ⟨by repeat (first | (with_reducible first | exact HB.out | apply below_alloc | apply pw_below_drewN | apply below_drew1) | exact HB.out)⟩⟩
            · rw [if_neg c11] at H
              exact absurd H (by simp)

end Go.Proofs.YtdmjehepfkgpgaaDoor.HPlaceBack
