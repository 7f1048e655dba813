-- Written by plus.py for this claim.
import Derived.Test.YtdmjehepfkgpgaaDoorHLexAgainx0
import Derived.Test.YtdmjehepfkgpgaaDoorHLexAgainx1
import Derived.Test.YtdmjehepfkgpgaaDoorHLexAgainx2
import Derived.Test.YtdmjehepfkgpgaaDoorHLexAgainx10
namespace Go.Proofs.YtdmjehepfkgpgaaDoor.HLexAgain
open Go.RowKit Go.Proofs.YtdmjehepfkgpgaaDoorW.PrintWords Go.Proofs.YtdmjehepfkgpgaaDoorW.PrintLast Go.Proofs.YtdmjehepfkgpgaaDoorW.PrintMore
attribute [local go_sem] max2_int min2_int max_two min_two max_three min_three max_four min_four   -- for this text's walks alone
set_option linter.unusedVariables false
set_option linter.unusedSimpArgs false

attribute [local go_sem high] eqA32
/-! ### gramaryelaw04_LexAgain: function 4 -/
mutual
def gramaryelaw04_LexAgain.l0 : Nat → ByteArray → List (S32) → ByteArray → List Int → Int → Option (Bool)
  | 0, _, _, _, _, _ => none
  | k + 1, x0, x3, x6, x7, x8 => if x8 < (x3.length : Int) then (if 0 ≤ x8 then (if ((rd_T32 x3 x8).f3) < 0 then (gramaryelaw04_LexAgain.j1 k x0 x3 x6 x7 x8 true) else (if ((rd_T32 x3 x8).f3) ≥ (x0.size : Int) then (gramaryelaw04_LexAgain.j1 k x0 x3 x6 x7 x8 true) else (if x8 > 0 then (if 0 ≤ (wrap64 (x8 - 1)) then (if (wrap64 (x8 - 1)) < (x3.length : Int) then (gramaryelaw04_LexAgain.j1 k x0 x3 x6 x7 x8 (decide (((rd_T32 x3 x8).f3) ≤ ((rd_T32 x3 (wrap64 (x8 - 1))).f3)))) else (none)) else (none)) else (gramaryelaw04_LexAgain.j1 k x0 x3 x6 x7 x8 false)))) else (none)) else (if (x6.size : Int) > 65536 then (some true) else ((lex_All.f k x6).bind fun bt149 => (if bt149.2.2 = 0 then (if bt149.2.1 = (x6.size : Int) then (gramaryelaw04_LexAgain.j2 k x3 x7 bt149.1 ((bt149.1.length : Int) != (x3.length : Int))) else (gramaryelaw04_LexAgain.j2 k x3 x7 bt149.1 true)) else (gramaryelaw04_LexAgain.j2 k x3 x7 bt149.1 true))))
def gramaryelaw04_LexAgain.j1 : Nat → ByteArray → List (S32) → ByteArray → List Int → Int → Bool → Option (Bool)
  | 0, _, _, _, _, _, _ => none
  | k + 1, x0, x3, x6, x7, x8, x75 => if x75 = true then (some false) else (if x7.length < 17592186044416 then ((some (x7 ++ [(x6.size : Int)] : List Int)).bind fun y142 => (if 0 ≤ x8 then (if x8 < (x3.length : Int) then (if ((rd_T32 x3 x8).f0) = 4 then ((gramaryebase_Itoa.f k ((rd_T32 x3 x8).f2)).bind fun t147 => (if t147.size + 1 ≤ 9223372036854775807 then (if x6.size + (t147 ++ (⟨#[32]⟩ : ByteArray)).size ≤ 9223372036854775807 then (gramaryelaw04_LexAgain.l0 k x0 x3 (x6 ++ (t147 ++ (⟨#[32]⟩ : ByteArray))) y142 (wrap64 (x8 + 1))) else (none)) else (none))) else (if ((rd_T32 x3 x8).f1).size + 1 ≤ 9223372036854775807 then (if x6.size + (((rd_T32 x3 x8).f1) ++ (⟨#[32]⟩ : ByteArray)).size ≤ 9223372036854775807 then (gramaryelaw04_LexAgain.l0 k x0 x3 (x6 ++ (((rd_T32 x3 x8).f1) ++ (⟨#[32]⟩ : ByteArray))) y142 (wrap64 (x8 + 1))) else (none)) else (none))) else (none)) else (none))) else (none))
def gramaryelaw04_LexAgain.j2 : Nat → List (S32) → List Int → List (S32) → Bool → Option (Bool)
  | 0, _, _, _, _ => none
  | k + 1, x3, x7, x9, x127 => if x127 = true then (some false) else (gramaryelaw04_LexAgain.l1 k x3 x7 x9 0)
def gramaryelaw04_LexAgain.l1 : Nat → List (S32) → List Int → List (S32) → Int → Option (Bool)
  | 0, _, _, _, _ => none
  | k + 1, x3, x7, x9, x12 => if x12 < (x9.length : Int) then (if 0 ≤ x12 then (if x12 < (x3.length : Int) then (if x12 < (x7.length : Int) then (if (!(((rd_T32 x9 x12).f0) == ((rd_T32 x3 x12).f0)) || (!((((rd_T32 x9 x12).f1).toList) == (((rd_T32 x3 x12).f1).toList)) || (!(((rd_T32 x9 x12).f2) == ((rd_T32 x3 x12).f2)) || (!(((rd_T32 x9 x12).f3) == (rd x7 x12)))))) = true then (some false) else (gramaryelaw04_LexAgain.l1 k x3 x7 x9 (wrap64 (x12 + 1)))) else (none)) else (none)) else (none)) else (some true)
end
def gramaryelaw04_LexAgain.f (k : Nat) (a0 : ByteArray) : Option (Bool) := (gramaryelaw04_works.f k).bind fun t128 => (if t128 = true then ((gramaryelaw04_short.f a0).bind fun t129 => ((lex_All.f k t129).bind fun bt130 => (if bt130.2.2 = 0 then (gramaryelaw04_LexAgain.l0 k t129 bt130.1 (⟨#[]⟩ : ByteArray) (([] : List Int)) 0) else (if (bt130.1.length : Int) = 0 then (some (decide (bt130.2.1 ≤ (t129.size : Int)))) else (some false))))) else (some false))
theorem gramaryelaw04_LexAgain.mono_l : ∀ k, (∀ y0 y1 y2 y3 y4, LeO (gramaryelaw04_LexAgain.l0 k y0 y1 y2 y3 y4) (gramaryelaw04_LexAgain.l0 (k + 1) y0 y1 y2 y3 y4)) ∧ (∀ y0 y1 y2 y3 y4 y5, LeO (gramaryelaw04_LexAgain.j1 k y0 y1 y2 y3 y4 y5) (gramaryelaw04_LexAgain.j1 (k + 1) y0 y1 y2 y3 y4 y5)) ∧ (∀ y0 y1 y2 y3, LeO (gramaryelaw04_LexAgain.j2 k y0 y1 y2 y3) (gramaryelaw04_LexAgain.j2 (k + 1) y0 y1 y2 y3)) ∧ (∀ y0 y1 y2 y3, LeO (gramaryelaw04_LexAgain.l1 k y0 y1 y2 y3) (gramaryelaw04_LexAgain.l1 (k + 1) y0 y1 y2 y3))
  | 0 => ⟨fun _ _ _ _ _ r h => by simp [gramaryelaw04_LexAgain.l0] at h, fun _ _ _ _ _ _ r h => by simp [gramaryelaw04_LexAgain.j1] at h, fun _ _ _ _ r h => by simp [gramaryelaw04_LexAgain.j2] at h, fun _ _ _ _ r h => by simp [gramaryelaw04_LexAgain.l1] at h⟩
  | k + 1 => by
    obtain ⟨ih0, ih1, ih2, ih3⟩ := gramaryelaw04_LexAgain.mono_l k
    refine ⟨?_, ?_, ?_, ?_⟩
    · intro y0 y1 y2 y3 y4
      unfold gramaryelaw04_LexAgain.l0
      repeat' first
      | (with_reducible exact ih0 _ _ _ _ _)
      | (with_reducible exact ih1 _ _ _ _ _ _)
      | (with_reducible exact ih2 _ _ _ _)
      | (with_reducible exact ih3 _ _ _ _)
      | (with_reducible exact gramaryebase_Itoa.mono _ _)
      | (with_reducible exact gramaryelaw04_works.mono _)
      | (with_reducible exact lex_All.mono _ _)
      | (with_reducible exact LeO.refl _)
      | (with_reducible exact LeO.none _)
      | (with_reducible refine LeO.ite ?_ ?_)
      | (with_reducible refine LeO.bind ?_ (fun _ => ?_))
      | exact ih0 _ _ _ _ _
      | exact ih1 _ _ _ _ _ _
      | exact ih2 _ _ _ _
      | exact ih3 _ _ _ _
      | exact gramaryebase_Itoa.mono _ _
      | exact gramaryelaw04_works.mono _
      | exact lex_All.mono _ _
      | exact LeO.none _
      | refine LeO.ite ?_ ?_
      | refine LeO.bind ?_ (fun _ => ?_)
    · intro y0 y1 y2 y3 y4 y5
      unfold gramaryelaw04_LexAgain.j1
      repeat' first
      | (with_reducible exact ih0 _ _ _ _ _)
      | (with_reducible exact ih1 _ _ _ _ _ _)
      | (with_reducible exact ih2 _ _ _ _)
      | (with_reducible exact ih3 _ _ _ _)
      | (with_reducible exact gramaryebase_Itoa.mono _ _)
      | (with_reducible exact gramaryelaw04_works.mono _)
      | (with_reducible exact lex_All.mono _ _)
      | (with_reducible exact LeO.refl _)
      | (with_reducible exact LeO.none _)
      | (with_reducible refine LeO.ite ?_ ?_)
      | (with_reducible refine LeO.bind ?_ (fun _ => ?_))
      | exact ih0 _ _ _ _ _
      | exact ih1 _ _ _ _ _ _
      | exact ih2 _ _ _ _
      | exact ih3 _ _ _ _
      | exact gramaryebase_Itoa.mono _ _
      | exact gramaryelaw04_works.mono _
      | exact lex_All.mono _ _
      | exact LeO.none _
      | refine LeO.ite ?_ ?_
      | refine LeO.bind ?_ (fun _ => ?_)
    · intro y0 y1 y2 y3
      unfold gramaryelaw04_LexAgain.j2
      repeat' first
      | (with_reducible exact ih0 _ _ _ _ _)
      | (with_reducible exact ih1 _ _ _ _ _ _)
      | (with_reducible exact ih2 _ _ _ _)
      | (with_reducible exact ih3 _ _ _ _)
      | (with_reducible exact gramaryebase_Itoa.mono _ _)
      | (with_reducible exact gramaryelaw04_works.mono _)
      | (with_reducible exact lex_All.mono _ _)
      | (with_reducible exact LeO.refl _)
      | (with_reducible exact LeO.none _)
      | (with_reducible refine LeO.ite ?_ ?_)
      | (with_reducible refine LeO.bind ?_ (fun _ => ?_))
      | exact ih0 _ _ _ _ _
      | exact ih1 _ _ _ _ _ _
      | exact ih2 _ _ _ _
      | exact ih3 _ _ _ _
      | exact gramaryebase_Itoa.mono _ _
      | exact gramaryelaw04_works.mono _
      | exact lex_All.mono _ _
      | exact LeO.none _
      | refine LeO.ite ?_ ?_
      | refine LeO.bind ?_ (fun _ => ?_)
    · intro y0 y1 y2 y3
      unfold gramaryelaw04_LexAgain.l1
      repeat' first
      | (with_reducible exact ih0 _ _ _ _ _)
      | (with_reducible exact ih1 _ _ _ _ _ _)
      | (with_reducible exact ih2 _ _ _ _)
      | (with_reducible exact ih3 _ _ _ _)
      | (with_reducible exact gramaryebase_Itoa.mono _ _)
      | (with_reducible exact gramaryelaw04_works.mono _)
      | (with_reducible exact lex_All.mono _ _)
      | (with_reducible exact LeO.refl _)
      | (with_reducible exact LeO.none _)
      | (with_reducible refine LeO.ite ?_ ?_)
      | (with_reducible refine LeO.bind ?_ (fun _ => ?_))
      | exact ih0 _ _ _ _ _
      | exact ih1 _ _ _ _ _ _
      | exact ih2 _ _ _ _
      | exact ih3 _ _ _ _
      | exact gramaryebase_Itoa.mono _ _
      | exact gramaryelaw04_works.mono _
      | exact lex_All.mono _ _
      | exact LeO.none _
      | refine LeO.ite ?_ ?_
      | refine LeO.bind ?_ (fun _ => ?_)
theorem gramaryelaw04_LexAgain.mono : ∀ a0 k, LeO (gramaryelaw04_LexAgain.f k a0) (gramaryelaw04_LexAgain.f (k + 1) a0) := by
  intro a0 k
  obtain ⟨ih0, ih1, ih2, ih3⟩ := gramaryelaw04_LexAgain.mono_l k
  unfold gramaryelaw04_LexAgain.f
  repeat' first
      | (with_reducible exact ih0 _ _ _ _ _)
      | (with_reducible exact ih1 _ _ _ _ _ _)
      | (with_reducible exact ih2 _ _ _ _)
      | (with_reducible exact ih3 _ _ _ _)
      | (with_reducible exact gramaryebase_Itoa.mono _ _)
      | (with_reducible exact gramaryelaw04_works.mono _)
      | (with_reducible exact lex_All.mono _ _)
      | (with_reducible exact LeO.refl _)
      | (with_reducible exact LeO.none _)
      | (with_reducible refine LeO.ite ?_ ?_)
      | (with_reducible refine LeO.bind ?_ (fun _ => ?_))
      | exact ih0 _ _ _ _ _
      | exact ih1 _ _ _ _ _ _
      | exact ih2 _ _ _ _
      | exact ih3 _ _ _ _
      | exact gramaryebase_Itoa.mono _ _
      | exact gramaryelaw04_works.mono _
      | exact lex_All.mono _ _
      | exact LeO.none _
      | refine LeO.ite ?_ ?_
      | refine LeO.bind ?_ (fun _ => ?_)
set_option maxHeartbeats 8000000 in
set_option maxRecDepth 100000 in
theorem gramaryelaw04_LexAgain.calls (k : Nat) (a0 : ByteArray) (r : Bool) (w : World) (hG : GL w) (h : gramaryelaw04_LexAgain.f k a0 = some r) :
    Calls Tryd.prog 4 #[.string a0] w fun e w' => e = .returned (.bool r) ∧ Below w.heap.size w w' := by
  have HG := Aside0.mk hG
  clear hG
  have hu32 := Tryd.underlying32
  have HB := Aside0.mk (Below.refl w.heap.size w)
  have H : ((gramaryelaw04_works.f k).bind fun t128 => (if t128 = true then ((gramaryelaw04_short.f a0).bind fun t129 => ((lex_All.f k t129).bind fun bt130 => (if bt130.2.2 = 0 then (gramaryelaw04_LexAgain.l0 k t129 bt130.1 (⟨#[]⟩ : ByteArray) (([] : List Int)) 0) else (if (bt130.1.length : Int) = 0 then (some (decide (bt130.2.1 ≤ (t129.size : Int)))) else (some false))))) else (some false))) = some r := h
  clear h
  replace H := Option.bind_eq_some_iff.mp H
  obtain ⟨t128, A20, H⟩ := H
  replace H : (if t128 = true then ((gramaryelaw04_short.f a0).bind fun t129 => ((lex_All.f k t129).bind fun bt130 => (if bt130.2.2 = 0 then (gramaryelaw04_LexAgain.l0 k t129 bt130.1 (⟨#[]⟩ : ByteArray) (([] : List Int)) 0) else (if (bt130.1.length : Int) = 0 then (some (decide (bt130.2.1 ≤ (t129.size : Int)))) else (some false))))) else (some false)) = some r := H
  have A2 := Aside0.mk A20
  clear A20
  by_cases c3 : t128 = true
  · subst c3
    have H1 : ((gramaryelaw04_short.f a0).bind fun t129 => ((lex_All.f k t129).bind fun bt130 => (if bt130.2.2 = 0 then (gramaryelaw04_LexAgain.l0 k t129 bt130.1 (⟨#[]⟩ : ByteArray) (([] : List Int)) 0) else (if (bt130.1.length : Int) = 0 then (some (decide (bt130.2.1 ≤ (t129.size : Int)))) else (some false))))) = some r := by rw [if_pos rfl] at H; exact H
    clear H
    have H := H1
    clear H1
    replace H := Option.bind_eq_some_iff.mp H
    obtain ⟨t129, A40, H⟩ := H
    replace H : ((lex_All.f k t129).bind fun bt130 => (if bt130.2.2 = 0 then (gramaryelaw04_LexAgain.l0 k t129 bt130.1 (⟨#[]⟩ : ByteArray) (([] : List Int)) 0) else (if (bt130.1.length : Int) = 0 then (some (decide (bt130.2.1 ≤ (t129.size : Int)))) else (some false)))) = some r := H
    have A4 := Aside0.mk A40
    clear A40
    replace H := Option.bind_eq_some_iff.mp H
    obtain ⟨⟨t130, t131, t132⟩, A50, H⟩ := H
    replace H : (if t132 = 0 then (gramaryelaw04_LexAgain.l0 k t129 t130 (⟨#[]⟩ : ByteArray) (([] : List Int)) 0) else (if (t130.length : Int) = 0 then (some (decide (t131 ≤ (t129.size : Int)))) else (some false))) = some r := H
    have A5 := Aside0.mk A50
    clear A50
    by_cases c6 : t132 = 0
    · rw [if_pos c6] at H
      have c6b0 : (t132 == 0) = true := beq_iff_eq.mpr c6
      have c6b1 : (t132 != 0) = false := bne_eq_false_iff_eq.mpr c6
      clear c6
      obtain ⟨y135, hy135⟩ : ∃ y_ : List Int, y_ = (([] : List Int)) := ⟨_, rfl⟩
      replace H : (gramaryelaw04_LexAgain.l0 k t129 t130 (⟨#[]⟩ : ByteArray) y135 0) = some r := by first | (rw [hy135]; with_reducible exact H) | (have H2_ := (Option.bind_some _ _).symm.trans H; rw [hy135]; with_reducible exact H2_) | (have H2_ := (Option.bind_some _ _).symm.trans H; with_reducible exact H2_) | with_reducible exact H | (rw [hy135]; exact H) | exact H
      have Ny135 := Aside0.mk hy135
      clear hy135
      have H' := Aside0.mk H
      clear H
      go_enter Tryd.func4, Tryd.ntmps4
      go_wp2_with (first | (go_at_call 14; (with_reducible refine (gramaryelaw04_works.calls k  true _ ?sideG A2.out).mono ?_); (case sideG => (refine GL.below HG.out ?_; repeat (first | (with_reducible exact Below.refl _ _) | (with_reducible exact Aside0.out (by assumption)) | (with_reducible apply below_alloc) | (with_reducible apply pw_below_drewN) | (with_reducible apply below_drew1)))); rintro e w7 ⟨rfl, hb⟩; have n0_ := Aside0.mk (below_step (by repeat (first | (with_reducible first | exact HB.out | apply below_alloc | apply pw_below_drewN | apply below_drew1) | exact HB.out)) hb); clear HB; have HB := n0_; clear n0_; (try clear hb); (try clear hb2); (try clear hk); (try clear hi)) | (go_at_call 10; (with_reducible refine (gramaryelaw04_short.calls a0 t129 _ A4.out).mono ?_); rintro e w8 ⟨rfl, hb⟩; have n0_ := Aside0.mk (below_step (by repeat (first | (with_reducible first | exact HB.out | apply below_alloc | apply pw_below_drewN | apply below_drew1) | exact HB.out)) hb); clear HB; have HB := n0_; clear n0_; (try clear hb); (try clear hb2); (try clear hk); (try clear hi)) | (go_at_call 11; (with_reducible refine (lex_All.calls k t129 t130 t131 t132 _ ?sideG A5.out).mono ?_); (case sideG => (refine GL.below HG.out ?_; repeat (first | (with_reducible exact Below.refl _ _) | (with_reducible exact Aside0.out (by assumption)) | (with_reducible apply below_alloc) | (with_reducible apply pw_below_drewN) | (with_reducible apply below_drew1)))); rintro e w9 ⟨v133, rfl, ho0, hb⟩; have n0_ := Aside0.mk (Kd.R_lower ho0 (below_size (by repeat (first | (with_reducible first | exact HB.out | apply below_alloc | apply pw_below_drewN | apply below_drew1) | exact HB.out)))); have n1_ := Aside0.mk (below_step (by repeat (first | (with_reducible first | exact HB.out | apply below_alloc | apply pw_below_drewN | apply below_drew1) | exact HB.out)) hb); clear HB; have HO134 := n0_; have HB := n1_; clear n0_ n1_; (try clear hb); (try clear hb2); (try clear hk); (try clear hi); (try clear ho0)) | ((with_reducible refine gate_dst (N := 35) rfl ?_); (try (refine gate_guard (by rfl) ?_; dsimp only)); refine Kd.R_lit (Kd.int .i64) _ 3 ?hg (N := 35) ?hd (xs := ([] : List Int)) (inner := []) (ok := fun _ => True) (okp := fun _ => True) ?hr ?hp (fun _ hk => hk) trivial (Below.refl _ _) (Nat.le_refl _) (by simp) ?_; (case hd => rfl); (case hg => rfl); (case hr => first | (go_simp; done) | (go_simp; rfl)); (case hp => exact (Reps.none _ _)); intro v136 w10 ho11 hb hg_ hnew_; clear hg_ hnew_; (first | rw [← Ny135.out] at ho11 | (simp only [Int.reduceToNat] at ho11; rw [← Ny135.out] at ho11)); have n0_ := Aside0.mk (Kd.R_below (by (with_reducible repeat (first | apply Kd.R_alloc | apply Kd.R_drewN | apply Kd.R_drew)); exact HO134.out) hb); have n1_ := Aside0.mk (Kd.R_lower ho11 (below_size (by repeat (first | (with_reducible first | exact HB.out | apply below_alloc | apply pw_below_drewN | apply below_drew1) | exact HB.out)))); have n2_ := Aside0.mk (below_step (by repeat (first | (with_reducible first | exact HB.out | apply below_alloc | apply pw_below_drewN | apply below_drew1) | exact HB.out)) hb); clear HO134; clear HB; have HO134 := n0_; have HO137 := n1_; have HB := n2_; clear n0_ n1_ n2_; clear hb ho11))
      repeat (go_quiet (first | (go_at_call 14; (with_reducible refine (gramaryelaw04_works.calls k  true _ ?sideG A2.out).mono ?_); (case sideG => (refine GL.below HG.out ?_; repeat (first | (with_reducible exact Below.refl _ _) | (with_reducible exact Aside0.out (by assumption)) | (with_reducible apply below_alloc) | (with_reducible apply pw_below_drewN) | (with_reducible apply below_drew1)))); rintro e w7 ⟨rfl, hb⟩; have n0_ := Aside0.mk (below_step (by repeat (first | (with_reducible first | exact HB.out | apply below_alloc | apply pw_below_drewN | apply below_drew1) | exact HB.out)) hb); clear HB; have HB := n0_; clear n0_; (try clear hb); (try clear hb2); (try clear hk); (try clear hi)) | (go_at_call 10; (with_reducible refine (gramaryelaw04_short.calls a0 t129 _ A4.out).mono ?_); rintro e w8 ⟨rfl, hb⟩; have n0_ := Aside0.mk (below_step (by repeat (first | (with_reducible first | exact HB.out | apply below_alloc | apply pw_below_drewN | apply below_drew1) | exact HB.out)) hb); clear HB; have HB := n0_; clear n0_; (try clear hb); (try clear hb2); (try clear hk); (try clear hi)) | (go_at_call 11; (with_reducible refine (lex_All.calls k t129 t130 t131 t132 _ ?sideG A5.out).mono ?_); (case sideG => (refine GL.below HG.out ?_; repeat (first | (with_reducible exact Below.refl _ _) | (with_reducible exact Aside0.out (by assumption)) | (with_reducible apply below_alloc) | (with_reducible apply pw_below_drewN) | (with_reducible apply below_drew1)))); rintro e w9 ⟨v133, rfl, ho0, hb⟩; have n0_ := Aside0.mk (Kd.R_lower ho0 (below_size (by repeat (first | (with_reducible first | exact HB.out | apply below_alloc | apply pw_below_drewN | apply below_drew1) | exact HB.out)))); have n1_ := Aside0.mk (below_step (by repeat (first | (with_reducible first | exact HB.out | apply below_alloc | apply pw_below_drewN | apply below_drew1) | exact HB.out)) hb); clear HB; have HO134 := n0_; have HB := n1_; clear n0_ n1_; (try clear hb); (try clear hb2); (try clear hk); (try clear hi); (try clear ho0)) | ((with_reducible refine gate_dst (N := 35) rfl ?_); (try (refine gate_guard (by rfl) ?_; dsimp only)); refine Kd.R_lit (Kd.int .i64) _ 3 ?hg (N := 35) ?hd (xs := ([] : List Int)) (inner := []) (ok := fun _ => True) (okp := fun _ => True) ?hr ?hp (fun _ hk => hk) trivial (Below.refl _ _) (Nat.le_refl _) (by simp) ?_; (case hd => rfl); (case hg => rfl); (case hr => first | (go_simp; done) | (go_simp; rfl)); (case hp => exact (Reps.none _ _)); intro v136 w10 ho11 hb hg_ hnew_; clear hg_ hnew_; (first | rw [← Ny135.out] at ho11 | (simp only [Int.reduceToNat] at ho11; rw [← Ny135.out] at ho11)); have n0_ := Aside0.mk (Kd.R_below (by (with_reducible repeat (first | apply Kd.R_alloc | apply Kd.R_drewN | apply Kd.R_drew)); exact HO134.out) hb); have n1_ := Aside0.mk (Kd.R_lower ho11 (below_size (by repeat (first | (with_reducible first | exact HB.out | apply below_alloc | apply pw_below_drewN | apply below_drew1) | exact HB.out)))); have n2_ := Aside0.mk (below_step (by repeat (first | (with_reducible first | exact HB.out | apply below_alloc | apply pw_below_drewN | apply below_drew1) | exact HB.out)) hb); clear HO134; clear HB; have HO134 := n0_; have HO137 := n1_; have HB := n2_; clear n0_ n1_ n2_; clear hb ho11)); try go_wp2_with (first | (go_at_call 14; (with_reducible refine (gramaryelaw04_works.calls k  true _ ?sideG A2.out).mono ?_); (case sideG => (refine GL.below HG.out ?_; repeat (first | (with_reducible exact Below.refl _ _) | (with_reducible exact Aside0.out (by assumption)) | (with_reducible apply below_alloc) | (with_reducible apply pw_below_drewN) | (with_reducible apply below_drew1)))); rintro e w7 ⟨rfl, hb⟩; have n0_ := Aside0.mk (below_step (by repeat (first | (with_reducible first | exact HB.out | apply below_alloc | apply pw_below_drewN | apply below_drew1) | exact HB.out)) hb); clear HB; have HB := n0_; clear n0_; (try clear hb); (try clear hb2); (try clear hk); (try clear hi)) | (go_at_call 10; (with_reducible refine (gramaryelaw04_short.calls a0 t129 _ A4.out).mono ?_); rintro e w8 ⟨rfl, hb⟩; have n0_ := Aside0.mk (below_step (by repeat (first | (with_reducible first | exact HB.out | apply below_alloc | apply pw_below_drewN | apply below_drew1) | exact HB.out)) hb); clear HB; have HB := n0_; clear n0_; (try clear hb); (try clear hb2); (try clear hk); (try clear hi)) | (go_at_call 11; (with_reducible refine (lex_All.calls k t129 t130 t131 t132 _ ?sideG A5.out).mono ?_); (case sideG => (refine GL.below HG.out ?_; repeat (first | (with_reducible exact Below.refl _ _) | (with_reducible exact Aside0.out (by assumption)) | (with_reducible apply below_alloc) | (with_reducible apply pw_below_drewN) | (with_reducible apply below_drew1)))); rintro e w9 ⟨v133, rfl, ho0, hb⟩; have n0_ := Aside0.mk (Kd.R_lower ho0 (below_size (by repeat (first | (with_reducible first | exact HB.out | apply below_alloc | apply pw_below_drewN | apply below_drew1) | exact HB.out)))); have n1_ := Aside0.mk (below_step (by repeat (first | (with_reducible first | exact HB.out | apply below_alloc | apply pw_below_drewN | apply below_drew1) | exact HB.out)) hb); clear HB; have HO134 := n0_; have HB := n1_; clear n0_ n1_; (try clear hb); (try clear hb2); (try clear hk); (try clear hi); (try clear ho0)) | ((with_reducible refine gate_dst (N := 35) rfl ?_); (try (refine gate_guard (by rfl) ?_; dsimp only)); refine Kd.R_lit (Kd.int .i64) _ 3 ?hg (N := 35) ?hd (xs := ([] : List Int)) (inner := []) (ok := fun _ => True) (okp := fun _ => True) ?hr ?hp (fun _ hk => hk) trivial (Below.refl _ _) (Nat.le_refl _) (by simp) ?_; (case hd => rfl); (case hg => rfl); (case hr => first | (go_simp; done) | (go_simp; rfl)); (case hp => exact (Reps.none _ _)); intro v136 w10 ho11 hb hg_ hnew_; clear hg_ hnew_; (first | rw [← Ny135.out] at ho11 | (simp only [Int.reduceToNat] at ho11; rw [← Ny135.out] at ho11)); have n0_ := Aside0.mk (Kd.R_below (by (with_reducible repeat (first | apply Kd.R_alloc | apply Kd.R_drewN | apply Kd.R_drew)); exact HO134.out) hb); have n1_ := Aside0.mk (Kd.R_lower ho11 (below_size (by repeat (first | (with_reducible first | exact HB.out | apply below_alloc | apply pw_below_drewN | apply below_drew1) | exact HB.out)))); have n2_ := Aside0.mk (below_step (by repeat (first | (with_reducible first | exact HB.out | apply below_alloc | apply pw_below_drewN | apply below_drew1) | exact HB.out)) hb); clear HO134; clear HB; have HO134 := n0_; have HO137 := n1_; have HB := n2_; clear n0_ n1_ n2_; clear hb ho11)))
      go_loopg [6, 7, 8] k (fun kq v6 v7 v8 w' => ∃ (x6_1 : ByteArray) (x7_1 : List Int) (x8_1 : Int), v6 = .string x6_1 ∧ v8 = .int .i64 x8_1 ∧ Aside0 (gramaryelaw04_LexAgain.l0 kq t129 t130 x6_1 x7_1 x8_1 = some r) ∧ Aside0 (kq ≤ k) ∧ Aside0 (Kd.R k32 32 w' w.heap.size (fun _ => True) v133 t130) ∧ Aside0 (Kd.R (Kd.int .i64) 3 w' w.heap.size (fun _ => True) v7 x7_1) ∧ Aside0 (Below w.heap.size w w'))
      case atStart => exact ⟨((⟨#[]⟩ : ByteArray)), (y135), (0), (by first | rfl | (simp; done) | (simp [*]; done)), (by first | rfl | (simp; done) | (simp [*]; done)), H', ⟨Nat.le_refl _⟩, ⟨by (with_reducible repeat (first | apply Kd.R_alloc | apply Kd.R_drewN | apply Kd.R_drew)); exact HO134.out⟩, ⟨by (with_reducible repeat (first | apply Kd.R_alloc | apply Kd.R_drewN | apply Kd.R_drew)); exact HO137.out⟩, ⟨by repeat (first | (with_reducible first | exact HB.out | apply below_alloc | apply pw_below_drewN | apply below_drew1) | exact HB.out)⟩⟩
      case round =>
        clear H'
        try clear p2
        try clear c3
        try clear c4
        try clear c6
        try clear c6b0
        try clear c6b1
        obtain ⟨x6_1, x7_1, x8_1, rfl, rfl, HA, HK1, HO_3, HO_7, HB⟩ := hrel
        cases gk with
        | zero => exact absurd HA.out (by simp [gramaryelaw04_LexAgain.l0])
        | succ k1 =>
          have H := HA.out
          clear HA
          simp only [gramaryelaw04_LexAgain.l0] at H
          by_cases c12 : x8_1 < (t130.length : Int)
          · rw [if_pos c12] at H
            have c12b0 : decide (x8_1 < (t130.length : Int)) = true := decide_eq_true c12
            clear c12
            have HC13 := Aside0.mk H
            clear H
            obtain ⟨Ao14, co14, eo14⟩ := Kd.R_slice HO_3.out
            subst eo14
            go_upto_region 11 with (fail)
            repeat (go_quiet (fail); go_upto_region 11 with (fail))
            go_cut [75] (fun v75 wc => ∃ (kq : Nat) (x75_12 : Bool), v75 = .bool x75_12 ∧ Aside0 (gramaryelaw04_LexAgain.j1 kq t129 t130 x6_1 x7_1 x8_1 x75_12 = some r) ∧ Aside0 (kq ≤ k1) ∧ Aside0 (Kd.R k32 32 wc w.heap.size (fun _ => True) (.slice Ao14 t130.length co14) t130) ∧ Aside0 (Kd.R (Kd.int .i64) 3 wc w.heap.size (fun _ => True) u7 x7_1) ∧ Aside0 (Below w.heap.size w wc))
            case first =>
              have H := HC13.out
              clear HC13
              by_cases c15 : 0 ≤ x8_1
              · rw [if_pos c15] at H
                have c15b0 : decide (0 ≤ x8_1) = true := decide_eq_true c15
                clear c15
                (first | rw [c15b0] | (simp only [i64_w, i32_w]; rw [c15b0]) | skip)
                by_cases c16 : ((rd_T32 t130 x8_1).f3) < 0
                · rw [if_pos c16] at H
                  have c16b0 : decide (((rd_T32 t130 x8_1).f3) < 0) = true := decide_eq_true c16
                  clear c16
                  have H' := Aside0.mk H
                  clear H
                  have p138 : 0 ≤ (x8_1 : Int) := of_decide_eq_true (by first | (with_reducible assumption) | assumption)
                  have q138 : x8_1 < (t130.length : Int) := of_decide_eq_true (by first | (with_reducible assumption) | assumption)
                  obtain ⟨ad138, e138, hx138_0, hx138_1, hx138_2, hx138_3⟩ := at_T32 (Kd.R_reads' HO_3.out).2.2 x8_1 p138 q138
                  cases e138
                  replace p138 := eq_true p138
                  replace q138 := eq_true q138
                  go_wp2
                  repeat (go_quiet (fail); try go_wp2)
                  go_meet
                  case rel => exact ⟨_, (true), (by first | rfl | (simp; done) | (simp [*]; done)), H', ⟨by have := HK1.out; first | omega | exact Nat.le_refl _⟩, ⟨by (with_reducible repeat (first | apply Kd.R_alloc | apply Kd.R_drewN | apply Kd.R_drew)); exact HO_3.out⟩, ⟨by (with_reducible repeat (first | apply Kd.R_alloc | apply Kd.R_drewN | apply Kd.R_drew)); exact HO_7.out⟩, ⟨by repeat (first | (with_reducible first | exact HB.out | apply below_alloc | apply pw_below_drewN | apply below_drew1) | exact HB.out)⟩⟩
                · rw [if_neg c16] at H
                  have c16b0 : decide (((rd_T32 t130 x8_1).f3) < 0) = false := decide_eq_false c16
                  clear c16
                  by_cases c17 : ((rd_T32 t130 x8_1).f3) ≥ (t129.size : Int)
                  · rw [if_pos c17] at H
                    have c17b0 : decide ((t129.size : Int) ≤ ((rd_T32 t130 x8_1).f3)) = true := decide_eq_true c17
                    clear c17
                    have H' := Aside0.mk H
                    clear H
                    have p138 : 0 ≤ (x8_1 : Int) := of_decide_eq_true (by first | (with_reducible assumption) | assumption)
                    have q138 : x8_1 < (t130.length : Int) := of_decide_eq_true (by first | (with_reducible assumption) | assumption)
                    obtain ⟨ad138, e138, hx138_0, hx138_1, hx138_2, hx138_3⟩ := at_T32 (Kd.R_reads' HO_3.out).2.2 x8_1 p138 q138
                    cases e138
                    replace p138 := eq_true p138
                    replace q138 := eq_true q138
                    have p139 : 0 ≤ (x8_1 : Int) := of_decide_eq_true (by first | (with_reducible assumption) | assumption)
                    have q139 : x8_1 < (t130.length : Int) := of_decide_eq_true (by first | (with_reducible assumption) | assumption)
                    obtain ⟨ad139, e139, hx139_0, hx139_1, hx139_2, hx139_3⟩ := at_T32 (Kd.R_reads' HO_3.out).2.2 x8_1 p139 q139
                    obtain rfl : ad138 = ad139 := (by injection e139)
                    replace p139 := eq_true p139
                    replace q139 := eq_true q139
                    go_wp2
                    repeat (go_quiet (fail); try go_wp2)
                    go_meet
                    case rel => exact ⟨_, (true), (by first | rfl | (simp; done) | (simp [*]; done)), H', ⟨by have := HK1.out; first | omega | exact Nat.le_refl _⟩, ⟨by (with_reducible repeat (first | apply Kd.R_alloc | apply Kd.R_drewN | apply Kd.R_drew)); exact HO_3.out⟩, ⟨by (with_reducible repeat (first | apply Kd.R_alloc | apply Kd.R_drewN | apply Kd.R_drew)); exact HO_7.out⟩, ⟨by repeat (first | (with_reducible first | exact HB.out | apply below_alloc | apply pw_below_drewN | apply below_drew1) | exact HB.out)⟩⟩
                  · rw [if_neg c17] at H
                    have c17b0 : decide ((t129.size : Int) ≤ ((rd_T32 t130 x8_1).f3)) = false := decide_eq_false c17
                    clear c17
                    by_cases c18 : x8_1 > 0
                    · rw [if_pos c18] at H
                      have c18b0 : decide (0 < x8_1) = true := decide_eq_true c18
                      clear c18
                      obtain ⟨ji19, hji19⟩ : ∃ j_ : Int, (wrap64 (x8_1 - 1)) = j_ := ⟨_, rfl⟩
                      replace H : (if 0 ≤ (ji19) then (if (ji19) < (t130.length : Int) then (gramaryelaw04_LexAgain.j1 k1 t129 t130 x6_1 x7_1 x8_1 (decide (((rd_T32 t130 x8_1).f3) ≤ ((rd_T32 t130 (ji19)).f3)))) else (none)) else (none)) = some r := by first | (rw [hji19] at H; exact H) | (simp only [hji19] at H ⊢; exact H)
                      have hji19w : (IntKind.i64.wrap (x8_1 - 1)) = ji19 := (i64_w _).trans hji19
                      by_cases c20 : 0 ≤ (ji19)
                      · rw [if_pos c20] at H
                        have c20b0 : decide (0 ≤ (ji19)) = true := decide_eq_true c20
                        clear c20
                        by_cases c21 : (ji19) < (t130.length : Int)
                        · rw [if_pos c21] at H
                          have c21b0 : decide ((ji19) < (t130.length : Int)) = true := decide_eq_true c21
                          clear c21
                          have H' := Aside0.mk H
                          clear H
                          have p138 : 0 ≤ (x8_1 : Int) := of_decide_eq_true (by first | (with_reducible assumption) | assumption)
                          have q138 : x8_1 < (t130.length : Int) := of_decide_eq_true (by first | (with_reducible assumption) | assumption)
                          obtain ⟨ad138, e138, hx138_0, hx138_1, hx138_2, hx138_3⟩ := at_T32 (Kd.R_reads' HO_3.out).2.2 x8_1 p138 q138
                          cases e138
                          replace p138 := eq_true p138
                          replace q138 := eq_true q138
                          have p139 : 0 ≤ (x8_1 : Int) := of_decide_eq_true (by first | (with_reducible assumption) | assumption)
                          have q139 : x8_1 < (t130.length : Int) := of_decide_eq_true (by first | (with_reducible assumption) | assumption)
                          obtain ⟨ad139, e139, hx139_0, hx139_1, hx139_2, hx139_3⟩ := at_T32 (Kd.R_reads' HO_3.out).2.2 x8_1 p139 q139
                          obtain rfl : ad138 = ad139 := (by injection e139)
                          replace p139 := eq_true p139
                          replace q139 := eq_true q139
                          have p140 : 0 ≤ (x8_1 : Int) := of_decide_eq_true (by first | (with_reducible assumption) | assumption)
                          have q140 : x8_1 < (t130.length : Int) := of_decide_eq_true (by first | (with_reducible assumption) | assumption)
                          obtain ⟨ad140, e140, hx140_0, hx140_1, hx140_2, hx140_3⟩ := at_T32 (Kd.R_reads' HO_3.out).2.2 x8_1 p140 q140
                          obtain rfl : ad138 = ad140 := (by injection e140)
                          replace p140 := eq_true p140
                          replace q140 := eq_true q140
                          have p141 : 0 ≤ ((ji19) : Int) := of_decide_eq_true (by first | (with_reducible assumption) | assumption)
                          have q141 : (ji19) < (t130.length : Int) := of_decide_eq_true (by first | (with_reducible assumption) | assumption)
                          obtain ⟨ad141, e141, hx141_0, hx141_1, hx141_2, hx141_3⟩ := at_T32 (Kd.R_reads' HO_3.out).2.2 (ji19) p141 q141
                          obtain rfl : ad138 = ad141 := (by injection e141)
                          replace p141 := eq_true p141
                          replace q141 := eq_true q141
                          go_wp2
                          repeat (go_quiet (fail); try go_wp2)
                          go_meet
                          case rel => exact ⟨_, (decide (((rd_T32 t130 x8_1).f3) ≤ ((rd_T32 t130 (ji19)).f3))), (by first | rfl | (simp; done) | (simp only [← hji19] <;> (first | rfl | simp)) | (simp [*]; done)), H', ⟨by have := HK1.out; first | omega | exact Nat.le_refl _⟩, ⟨by (with_reducible repeat (first | apply Kd.R_alloc | apply Kd.R_drewN | apply Kd.R_drew)); exact HO_3.out⟩, ⟨by (with_reducible repeat (first | apply Kd.R_alloc | apply Kd.R_drewN | apply Kd.R_drew)); exact HO_7.out⟩, ⟨by repeat (first | (with_reducible first | exact HB.out | apply below_alloc | apply pw_below_drewN | apply below_drew1) | exact HB.out)⟩⟩
                        · rw [if_neg c21] at H
                          exact absurd H (by simp)
                      · rw [if_neg c20] at H
                        exact absurd H (by simp)
                    · rw [if_neg c18] at H
                      have c18b0 : decide (0 < x8_1) = false := decide_eq_false c18
                      clear c18
                      have H' := Aside0.mk H
                      clear H
                      have p138 : 0 ≤ (x8_1 : Int) := of_decide_eq_true (by first | (with_reducible assumption) | assumption)
                      have q138 : x8_1 < (t130.length : Int) := of_decide_eq_true (by first | (with_reducible assumption) | assumption)
                      obtain ⟨ad138, e138, hx138_0, hx138_1, hx138_2, hx138_3⟩ := at_T32 (Kd.R_reads' HO_3.out).2.2 x8_1 p138 q138
                      cases e138
                      replace p138 := eq_true p138
                      replace q138 := eq_true q138
                      have p139 : 0 ≤ (x8_1 : Int) := of_decide_eq_true (by first | (with_reducible assumption) | assumption)
                      have q139 : x8_1 < (t130.length : Int) := of_decide_eq_true (by first | (with_reducible assumption) | assumption)
                      obtain ⟨ad139, e139, hx139_0, hx139_1, hx139_2, hx139_3⟩ := at_T32 (Kd.R_reads' HO_3.out).2.2 x8_1 p139 q139
                      obtain rfl : ad138 = ad139 := (by injection e139)
                      replace p139 := eq_true p139
                      replace q139 := eq_true q139
                      go_wp2
                      repeat (go_quiet (fail); try go_wp2)
                      go_meet
                      case rel => exact ⟨_, (false), (by first | rfl | (simp; done) | (simp [*]; done)), H', ⟨by have := HK1.out; first | omega | exact Nat.le_refl _⟩, ⟨by (with_reducible repeat (first | apply Kd.R_alloc | apply Kd.R_drewN | apply Kd.R_drew)); exact HO_3.out⟩, ⟨by (with_reducible repeat (first | apply Kd.R_alloc | apply Kd.R_drewN | apply Kd.R_drew)); exact HO_7.out⟩, ⟨by repeat (first | (with_reducible first | exact HB.out | apply below_alloc | apply pw_below_drewN | apply below_drew1) | exact HB.out)⟩⟩
              · rw [if_neg c15] at H
                exact absurd H (by simp)
            case rest =>
              clear HC13
              try clear c1
              try clear p1
              try clear q1
              try clear hx1
              try clear c2
              try clear p2
              try clear c3
              try clear c4
              try clear c6
              try clear c6b0
              try clear c6b1
              try clear p6
              try clear c12
              try clear c12b0
              try clear p13
              try clear q13
              try clear hx13
              try clear p14
              try clear q14
              try clear hx14
              try clear c15
              try clear c15b0
              try clear c16
              try clear c16b0
              try clear c17
              try clear c17b0
              try clear c18
              try clear c18b0
              try clear c20
              try clear c20b0
              try clear c21
              try clear c21b0
              try clear hx138_0
              try clear hx138_1
              try clear hx138_2
              try clear hx138_3
              try clear hx139_0
              try clear hx139_1
              try clear hx139_2
              try clear hx139_3
              try clear hx140_0
              try clear hx140_1
              try clear hx140_2
              try clear hx140_3
              try clear hx141_0
              try clear hx141_1
              try clear hx141_2
              try clear hx141_3
              try clear p138
              try clear p139
              try clear p140
              try clear p141
              try clear p2
              try clear q138
              try clear q139
              try clear q140
              try clear q141
              obtain ⟨kq, x75_12, rfl, HA, HJ12, HO_3, HO_7, HB⟩ := hcut
              cases kq with
              | zero => exact absurd HA.out (by simp [gramaryelaw04_LexAgain.j1])
              | succ kj12 =>
                have H := HA.out
                clear HA
                simp only [gramaryelaw04_LexAgain.j1] at H
                by_cases c22 : x75_12 = true
                · subst c22
                  have H1 : (some false) = some r := by rw [if_pos rfl] at H; exact H
                  clear H
                  have H := H1
                  clear H1
                  obtain rfl := Option.some.inj H
                  go_wp2
                  repeat (go_quiet (fail); try go_wp2)
                  go_ret
                  exact ⟨by first | rfl | (simp [errW_none, errW_some] <;> rfl) | (simp [*, errW_none, errW_some] <;> rfl), by repeat (first | (with_reducible first | exact HB.out | apply below_alloc | apply pw_below_drewN | apply below_drew1) | exact HB.out)⟩
                · replace c22 := Bool.eq_false_iff.mpr c22
                  subst c22
                  have H1 : (if x7_1.length < 17592186044416 then ((some (x7_1 ++ [(x6_1.size : Int)] : List Int)).bind fun y142 => (if 0 ≤ x8_1 then (if x8_1 < (t130.length : Int) then (if ((rd_T32 t130 x8_1).f0) = 4 then ((gramaryebase_Itoa.f kj12 ((rd_T32 t130 x8_1).f2)).bind fun t147 => (if t147.size + 1 ≤ 9223372036854775807 then (if x6_1.size + (t147 ++ (⟨#[32]⟩ : ByteArray)).size ≤ 9223372036854775807 then (gramaryelaw04_LexAgain.l0 kj12 t129 t130 (x6_1 ++ (t147 ++ (⟨#[32]⟩ : ByteArray))) y142 (wrap64 (x8_1 + 1))) else (none)) else (none))) else (if ((rd_T32 t130 x8_1).f1).size + 1 ≤ 9223372036854775807 then (if x6_1.size + (((rd_T32 t130 x8_1).f1) ++ (⟨#[32]⟩ : ByteArray)).size ≤ 9223372036854775807 then (gramaryelaw04_LexAgain.l0 kj12 t129 t130 (x6_1 ++ (((rd_T32 t130 x8_1).f1) ++ (⟨#[32]⟩ : ByteArray))) y142 (wrap64 (x8_1 + 1))) else (none)) else (none))) else (none)) else (none))) else (none)) = some r := by rw [if_neg (show ¬ (false = true) by decide)] at H; exact H
                  clear H
                  have H := H1
                  clear H1
                  by_cases c23 : x7_1.length < 17592186044416
                  · rw [if_pos c23] at H
                    have LMc23 := Aside0.mk c23
                    clear c23
                    obtain ⟨y142, hy142⟩ : ∃ y_ : List Int, y_ = (x7_1 ++ [(x6_1.size : Int)]) := ⟨_, rfl⟩
                    replace H : (if 0 ≤ x8_1 then (if x8_1 < (t130.length : Int) then (if ((rd_T32 t130 x8_1).f0) = 4 then ((gramaryebase_Itoa.f kj12 ((rd_T32 t130 x8_1).f2)).bind fun t147 => (if t147.size + 1 ≤ 9223372036854775807 then (if x6_1.size + (t147 ++ (⟨#[32]⟩ : ByteArray)).size ≤ 9223372036854775807 then (gramaryelaw04_LexAgain.l0 kj12 t129 t130 (x6_1 ++ (t147 ++ (⟨#[32]⟩ : ByteArray))) y142 (wrap64 (x8_1 + 1))) else (none)) else (none))) else (if ((rd_T32 t130 x8_1).f1).size + 1 ≤ 9223372036854775807 then (if x6_1.size + (((rd_T32 t130 x8_1).f1) ++ (⟨#[32]⟩ : ByteArray)).size ≤ 9223372036854775807 then (gramaryelaw04_LexAgain.l0 kj12 t129 t130 (x6_1 ++ (((rd_T32 t130 x8_1).f1) ++ (⟨#[32]⟩ : ByteArray))) y142 (wrap64 (x8_1 + 1))) else (none)) else (none))) else (none)) else (none)) = some r := by first | (rw [hy142]; with_reducible exact H) | (have H2_ := (Option.bind_some _ _).symm.trans H; rw [hy142]; with_reducible exact H2_) | (have H2_ := (Option.bind_some _ _).symm.trans H; with_reducible exact H2_) | with_reducible exact H | (rw [hy142]; exact H) | exact H
                    have Ny142 := Aside0.mk hy142
                    clear hy142
                    by_cases c24 : 0 ≤ x8_1
                    · rw [if_pos c24] at H
                      have c24b0 : decide (0 ≤ x8_1) = true := decide_eq_true c24
                      clear c24
                      by_cases c25 : x8_1 < (t130.length : Int)
                      · rw [if_pos c25] at H
                        have c25b0 : decide (x8_1 < (t130.length : Int)) = true := decide_eq_true c25
                        clear c25
                        by_cases c26 : ((rd_T32 t130 x8_1).f0) = 4
                        · rw [if_pos c26] at H
                          have c26b0 : (((rd_T32 t130 x8_1).f0) == 4) = true := beq_iff_eq.mpr c26
                          have c26b1 : (((rd_T32 t130 x8_1).f0) != 4) = false := bne_eq_false_iff_eq.mpr c26
                          clear c26
                          replace H := Option.bind_eq_some_iff.mp H
                          obtain ⟨t147, A270, H⟩ := H
                          replace H : (if t147.size + 1 ≤ 9223372036854775807 then (if x6_1.size + (t147 ++ (⟨#[32]⟩ : ByteArray)).size ≤ 9223372036854775807 then (gramaryelaw04_LexAgain.l0 kj12 t129 t130 (x6_1 ++ (t147 ++ (⟨#[32]⟩ : ByteArray))) y142 (wrap64 (x8_1 + 1))) else (none)) else (none)) = some r := H
                          have A27 := Aside0.mk A270
                          clear A270
                          by_cases c28 : t147.size + 1 ≤ 9223372036854775807
                          · rw [if_pos c28] at H
                            have c28b0 := eq_true c28
                            have c28b1 : decide (t147.size + 1 ≤ 9223372036854775807) = true := decide_eq_true c28
                            try have c28b2 : (9223372036854775807 < t147.size + 1) = False := eq_false (Nat.not_lt.2 c28)
                            by_cases c29 : x6_1.size + (t147 ++ (⟨#[32]⟩ : ByteArray)).size ≤ 9223372036854775807
                            · rw [if_pos c29] at H
                              have c29b0 := eq_true c29
                              have c29b1 : decide (x6_1.size + (t147 ++ (⟨#[32]⟩ : ByteArray)).size ≤ 9223372036854775807) = true := decide_eq_true c29
                              try have c29b2 : (9223372036854775807 < x6_1.size + (t147 ++ (⟨#[32]⟩ : ByteArray)).size) = False := eq_false (Nat.not_lt.2 c29)
                              have H' := Aside0.mk H
                              clear H
                              go_wp2_with (first | ((with_reducible refine gate_builtin (b := .append) (xs := #[.tmp 76, .tmp 79]) rfl ?_); (try (refine gate_guard (by rfl) ?_; dsimp only)); at_builtin; refine Kd.R_append (Kd.int .i64) (w0 := w) w.heap.size rfl (.tmp 76) (.tmp 79) 30 3 (.int .i64 0) 8 rfl Tryd.underlying30 info3 rfl (by decide) (by omega) u7 x7_1 (x6_1.size : Int) [.int .i64 (x6_1.size : Int)] (fun _ => True) (fun _ => False) rfl rfl ?aP (fun _ hk => hk.elim) ?aF ?aO ?aB ?aS ?aL ?_; (case aP => exact rfl); (case aB => exact (by repeat (first | (with_reducible first | exact HB.out | apply below_alloc | apply pw_below_drewN | apply below_drew1) | exact HB.out))); (case aF => exact (fun _ _ => trivial)); (case aO => exact (by (with_reducible repeat (first | apply Kd.R_alloc | apply Kd.R_drewN | apply Kd.R_drew)); exact HO_7.out)); (case aS => exact (below_size (by repeat (first | (with_reducible first | exact HB.out | apply below_alloc | apply pw_below_drewN | apply below_drew1) | exact HB.out)))); (case aL => have := LMc23.out; omega); intro v143 w30 ho hb hg hat; rw [← Ny142.out] at ho; have n0_ := Aside0.mk (Kd.R_over' (by (with_reducible repeat (first | apply Kd.R_alloc | apply Kd.R_drewN | apply Kd.R_drew)); exact HO_3.out) (Kd.R_typed (by (with_reducible repeat (first | apply Kd.R_alloc | apply Kd.R_drewN | apply Kd.R_drew)); exact HO_7.out)) (by decide) hg); have n1_ := Aside0.mk (hb); have n2_ := Aside0.mk (ho); clear HO_3; clear HB; clear HO_7; have HO_3 := n0_; have HB := n1_; have HO144 := n2_; clear n0_ n1_ n2_; clear ho hb hg hat; have p145 : 0 ≤ (x8_1 : Int) := of_decide_eq_true (by first | (with_reducible assumption) | assumption); have q145 : x8_1 < (t130.length : Int) := of_decide_eq_true (by first | (with_reducible assumption) | assumption); obtain ⟨ad145, e145, hx145_0, hx145_1, hx145_2, hx145_3⟩ := at_T32 (Kd.R_reads' HO_3.out).2.2 x8_1 p145 q145; cases e145; replace p145 := eq_true p145; replace q145 := eq_true q145; have p146 : 0 ≤ (x8_1 : Int) := of_decide_eq_true (by first | (with_reducible assumption) | assumption); have q146 : x8_1 < (t130.length : Int) := of_decide_eq_true (by first | (with_reducible assumption) | assumption); obtain ⟨ad146, e146, hx146_0, hx146_1, hx146_2, hx146_3⟩ := at_T32 (Kd.R_reads' HO_3.out).2.2 x8_1 p146 q146; obtain rfl : ad145 = ad146 := (by injection e146); replace p146 := eq_true p146; replace q146 := eq_true q146) | (go_at_call 15; (with_reducible refine (gramaryebase_Itoa.calls kj12 ((rd_T32 t130 x8_1).f2) t147 _ A27.out).mono ?_); rintro e w31 ⟨rfl, hb⟩; have n0_ := Aside0.mk (Kd.R_below (by (with_reducible repeat (first | apply Kd.R_alloc | apply Kd.R_drewN | apply Kd.R_drew)); exact HO_3.out) hb); have n1_ := Aside0.mk (Kd.R_below (by (with_reducible repeat (first | apply Kd.R_alloc | apply Kd.R_drewN | apply Kd.R_drew)); exact HO144.out) hb); have n2_ := Aside0.mk (below_step (by repeat (first | (with_reducible first | exact HB.out | apply below_alloc | apply pw_below_drewN | apply below_drew1) | exact HB.out)) hb); clear HO_3; clear HO144; clear HB; have HO_3 := n0_; have HO144 := n1_; have HB := n2_; clear n0_ n1_ n2_; (try clear hb); (try clear hb2); (try clear hk); (try clear hi)))
                              repeat (go_quiet (first | ((with_reducible refine gate_builtin (b := .append) (xs := #[.tmp 76, .tmp 79]) rfl ?_); (try (refine gate_guard (by rfl) ?_; dsimp only)); at_builtin; refine Kd.R_append (Kd.int .i64) (w0 := w) w.heap.size rfl (.tmp 76) (.tmp 79) 30 3 (.int .i64 0) 8 rfl Tryd.underlying30 info3 rfl (by decide) (by omega) u7 x7_1 (x6_1.size : Int) [.int .i64 (x6_1.size : Int)] (fun _ => True) (fun _ => False) rfl rfl ?aP (fun _ hk => hk.elim) ?aF ?aO ?aB ?aS ?aL ?_; (case aP => exact rfl); (case aB => exact (by repeat (first | (with_reducible first | exact HB.out | apply below_alloc | apply pw_below_drewN | apply below_drew1) | exact HB.out))); (case aF => exact (fun _ _ => trivial)); (case aO => exact (by (with_reducible repeat (first | apply Kd.R_alloc | apply Kd.R_drewN | apply Kd.R_drew)); exact HO_7.out)); (case aS => exact (below_size (by repeat (first | (with_reducible first | exact HB.out | apply below_alloc | apply pw_below_drewN | apply below_drew1) | exact HB.out)))); (case aL => have := LMc23.out; omega); intro v143 w30 ho hb hg hat; rw [← Ny142.out] at ho; have n0_ := Aside0.mk (Kd.R_over' (by (with_reducible repeat (first | apply Kd.R_alloc | apply Kd.R_drewN | apply Kd.R_drew)); exact HO_3.out) (Kd.R_typed (by (with_reducible repeat (first | apply Kd.R_alloc | apply Kd.R_drewN | apply Kd.R_drew)); exact HO_7.out)) (by decide) hg); have n1_ := Aside0.mk (hb); have n2_ := Aside0.mk (ho); clear HO_3; clear HB; clear HO_7; have HO_3 := n0_; have HB := n1_; have HO144 := n2_; clear n0_ n1_ n2_; clear ho hb hg hat; have p145 : 0 ≤ (x8_1 : Int) := of_decide_eq_true (by first | (with_reducible assumption) | assumption); have q145 : x8_1 < (t130.length : Int) := of_decide_eq_true (by first | (with_reducible assumption) | assumption); obtain ⟨ad145, e145, hx145_0, hx145_1, hx145_2, hx145_3⟩ := at_T32 (Kd.R_reads' HO_3.out).2.2 x8_1 p145 q145; cases e145; replace p145 := eq_true p145; replace q145 := eq_true q145; have p146 : 0 ≤ (x8_1 : Int) := of_decide_eq_true (by first | (with_reducible assumption) | assumption); have q146 : x8_1 < (t130.length : Int) := of_decide_eq_true (by first | (with_reducible assumption) | assumption); obtain ⟨ad146, e146, hx146_0, hx146_1, hx146_2, hx146_3⟩ := at_T32 (Kd.R_reads' HO_3.out).2.2 x8_1 p146 q146; obtain rfl : ad145 = ad146 := (by injection e146); replace p146 := eq_true p146; replace q146 := eq_true q146) | (go_at_call 15; (with_reducible refine (gramaryebase_Itoa.calls kj12 ((rd_T32 t130 x8_1).f2) t147 _ A27.out).mono ?_); rintro e w31 ⟨rfl, hb⟩; have n0_ := Aside0.mk (Kd.R_below (by (with_reducible repeat (first | apply Kd.R_alloc | apply Kd.R_drewN | apply Kd.R_drew)); exact HO_3.out) hb); have n1_ := Aside0.mk (Kd.R_below (by (with_reducible repeat (first | apply Kd.R_alloc | apply Kd.R_drewN | apply Kd.R_drew)); exact HO144.out) hb); have n2_ := Aside0.mk (below_step (by repeat (first | (with_reducible first | exact HB.out | apply below_alloc | apply pw_below_drewN | apply below_drew1) | exact HB.out)) hb); clear HO_3; clear HO144; clear HB; have HO_3 := n0_; have HO144 := n1_; have HB := n2_; clear n0_ n1_ n2_; (try clear hb); (try clear hb2); (try clear hk); (try clear hi))); try go_wp2_with (first | ((with_reducible refine gate_builtin (b := .append) (xs := #[.tmp 76, .tmp 79]) rfl ?_); (try (refine gate_guard (by rfl) ?_; dsimp only)); at_builtin; refine Kd.R_append (Kd.int .i64) (w0 := w) w.heap.size rfl (.tmp 76) (.tmp 79) 30 3 (.int .i64 0) 8 rfl Tryd.underlying30 info3 rfl (by decide) (by omega) u7 x7_1 (x6_1.size : Int) [.int .i64 (x6_1.size : Int)] (fun _ => True) (fun _ => False) rfl rfl ?aP (fun _ hk => hk.elim) ?aF ?aO ?aB ?aS ?aL ?_; (case aP => exact rfl); (case aB => exact (by repeat (first | (with_reducible first | exact HB.out | apply below_alloc | apply pw_below_drewN | apply below_drew1) | exact HB.out))); (case aF => exact (fun _ _ => trivial)); (case aO => exact (by (with_reducible repeat (first | apply Kd.R_alloc | apply Kd.R_drewN | apply Kd.R_drew)); exact HO_7.out)); (case aS => exact (below_size (by repeat (first | (with_reducible first | exact HB.out | apply below_alloc | apply pw_below_drewN | apply below_drew1) | exact HB.out)))); (case aL => have := LMc23.out; omega); intro v143 w30 ho hb hg hat; rw [← Ny142.out] at ho; have n0_ := Aside0.mk (Kd.R_over' (by (with_reducible repeat (first | apply Kd.R_alloc | apply Kd.R_drewN | apply Kd.R_drew)); exact HO_3.out) (Kd.R_typed (by (with_reducible repeat (first | apply Kd.R_alloc | apply Kd.R_drewN | apply Kd.R_drew)); exact HO_7.out)) (by decide) hg); have n1_ := Aside0.mk (hb); have n2_ := Aside0.mk (ho); clear HO_3; clear HB; clear HO_7; have HO_3 := n0_; have HB := n1_; have HO144 := n2_; clear n0_ n1_ n2_; clear ho hb hg hat; have p145 : 0 ≤ (x8_1 : Int) := of_decide_eq_true (by first | (with_reducible assumption) | assumption); have q145 : x8_1 < (t130.length : Int) := of_decide_eq_true (by first | (with_reducible assumption) | assumption); obtain ⟨ad145, e145, hx145_0, hx145_1, hx145_2, hx145_3⟩ := at_T32 (Kd.R_reads' HO_3.out).2.2 x8_1 p145 q145; cases e145; replace p145 := eq_true p145; replace q145 := eq_true q145; have p146 : 0 ≤ (x8_1 : Int) := of_decide_eq_true (by first | (with_reducible assumption) | assumption); have q146 : x8_1 < (t130.length : Int) := of_decide_eq_true (by first | (with_reducible assumption) | assumption); obtain ⟨ad146, e146, hx146_0, hx146_1, hx146_2, hx146_3⟩ := at_T32 (Kd.R_reads' HO_3.out).2.2 x8_1 p146 q146; obtain rfl : ad145 = ad146 := (by injection e146); replace p146 := eq_true p146; replace q146 := eq_true q146) | (go_at_call 15; (with_reducible refine (gramaryebase_Itoa.calls kj12 ((rd_T32 t130 x8_1).f2) t147 _ A27.out).mono ?_); rintro e w31 ⟨rfl, hb⟩; have n0_ := Aside0.mk (Kd.R_below (by (with_reducible repeat (first | apply Kd.R_alloc | apply Kd.R_drewN | apply Kd.R_drew)); exact HO_3.out) hb); have n1_ := Aside0.mk (Kd.R_below (by (with_reducible repeat (first | apply Kd.R_alloc | apply Kd.R_drewN | apply Kd.R_drew)); exact HO144.out) hb); have n2_ := Aside0.mk (below_step (by repeat (first | (with_reducible first | exact HB.out | apply below_alloc | apply pw_below_drewN | apply below_drew1) | exact HB.out)) hb); clear HO_3; clear HO144; clear HB; have HO_3 := n0_; have HO144 := n1_; have HB := n2_; clear n0_ n1_ n2_; (try clear hb); (try clear hb2); (try clear hk); (try clear hi))))
                              go_roundg kj12
                              case measure => have := HK1.out; have := HJ12.out; omega
                              case rel => exact ⟨(x6_1 ++ (t147 ++ (⟨#[32]⟩ : ByteArray))), (y142), (wrap64 (x8_1 + 1)), (by first | rfl | (simp; done) | (simp [*]; done)), (by first | rfl | (simp; done) | (simp [*]; done)), H', ⟨by have := HK1.out; have := HJ12.out; omega⟩, ⟨by (with_reducible repeat (first | apply Kd.R_alloc | apply Kd.R_drewN | apply Kd.R_drew)); exact HO_3.out⟩, ⟨by (with_reducible repeat (first | apply Kd.R_alloc | apply Kd.R_drewN | apply Kd.R_drew)); exact HO144.out⟩, ⟨by repeat (first | (with_reducible first | exact HB.out | apply below_alloc | apply pw_below_drewN | apply below_drew1) | exact HB.out)⟩⟩
                            · rw [if_neg c29] at H
                              exact absurd H (by simp)
                          · rw [if_neg c28] at H
                            exact absurd H (by simp)
                        · rw [if_neg c26] at H
                          have c26b0 : (((rd_T32 t130 x8_1).f0) == 4) = false := beq_eq_false_iff_ne.mpr c26
                          have c26b1 : (((rd_T32 t130 x8_1).f0) != 4) = true := bne_iff_ne.mpr c26
                          by_cases c32 : ((rd_T32 t130 x8_1).f1).size + 1 ≤ 9223372036854775807
                          · rw [if_pos c32] at H
                            have c32b0 := eq_true c32
                            have c32b1 : decide (((rd_T32 t130 x8_1).f1).size + 1 ≤ 9223372036854775807) = true := decide_eq_true c32
                            try have c32b2 : (9223372036854775807 < ((rd_T32 t130 x8_1).f1).size + 1) = False := eq_false (Nat.not_lt.2 c32)
                            by_cases c33 : x6_1.size + (((rd_T32 t130 x8_1).f1) ++ (⟨#[32]⟩ : ByteArray)).size ≤ 9223372036854775807
                            · rw [if_pos c33] at H
                              have c33b0 := eq_true c33
                              have c33b1 : decide (x6_1.size + (((rd_T32 t130 x8_1).f1) ++ (⟨#[32]⟩ : ByteArray)).size ≤ 9223372036854775807) = true := decide_eq_true c33
                              try have c33b2 : (9223372036854775807 < x6_1.size + (((rd_T32 t130 x8_1).f1) ++ (⟨#[32]⟩ : ByteArray)).size) = False := eq_false (Nat.not_lt.2 c33)
                              have H' := Aside0.mk H
                              clear H
                              go_wp2_with (first | ((with_reducible refine gate_builtin (b := .append) (xs := #[.tmp 76, .tmp 79]) rfl ?_); (try (refine gate_guard (by rfl) ?_; dsimp only)); at_builtin; refine Kd.R_append (Kd.int .i64) (w0 := w) w.heap.size rfl (.tmp 76) (.tmp 79) 30 3 (.int .i64 0) 8 rfl Tryd.underlying30 info3 rfl (by decide) (by omega) u7 x7_1 (x6_1.size : Int) [.int .i64 (x6_1.size : Int)] (fun _ => True) (fun _ => False) rfl rfl ?aP (fun _ hk => hk.elim) ?aF ?aO ?aB ?aS ?aL ?_; (case aP => exact rfl); (case aB => exact (by repeat (first | (with_reducible first | exact HB.out | apply below_alloc | apply pw_below_drewN | apply below_drew1) | exact HB.out))); (case aF => exact (fun _ _ => trivial)); (case aO => exact (by (with_reducible repeat (first | apply Kd.R_alloc | apply Kd.R_drewN | apply Kd.R_drew)); exact HO_7.out)); (case aS => exact (below_size (by repeat (first | (with_reducible first | exact HB.out | apply below_alloc | apply pw_below_drewN | apply below_drew1) | exact HB.out)))); (case aL => have := LMc23.out; omega); intro v143 w34 ho hb hg hat; rw [← Ny142.out] at ho; have n0_ := Aside0.mk (Kd.R_over' (by (with_reducible repeat (first | apply Kd.R_alloc | apply Kd.R_drewN | apply Kd.R_drew)); exact HO_3.out) (Kd.R_typed (by (with_reducible repeat (first | apply Kd.R_alloc | apply Kd.R_drewN | apply Kd.R_drew)); exact HO_7.out)) (by decide) hg); have n1_ := Aside0.mk (hb); have n2_ := Aside0.mk (ho); clear HO_3; clear HB; clear HO_7; have HO_3 := n0_; have HB := n1_; have HO144 := n2_; clear n0_ n1_ n2_; clear ho hb hg hat; have p145 : 0 ≤ (x8_1 : Int) := of_decide_eq_true (by first | (with_reducible assumption) | assumption); have q145 : x8_1 < (t130.length : Int) := of_decide_eq_true (by first | (with_reducible assumption) | assumption); obtain ⟨ad145, e145, hx145_0, hx145_1, hx145_2, hx145_3⟩ := at_T32 (Kd.R_reads' HO_3.out).2.2 x8_1 p145 q145; cases e145; replace p145 := eq_true p145; replace q145 := eq_true q145; have p148 : 0 ≤ (x8_1 : Int) := of_decide_eq_true (by first | (with_reducible assumption) | assumption); have q148 : x8_1 < (t130.length : Int) := of_decide_eq_true (by first | (with_reducible assumption) | assumption); obtain ⟨ad148, e148, hx148_0, hx148_1, hx148_2, hx148_3⟩ := at_T32 (Kd.R_reads' HO_3.out).2.2 x8_1 p148 q148; obtain rfl : ad145 = ad148 := (by injection e148); replace p148 := eq_true p148; replace q148 := eq_true q148))
                              repeat (go_quiet (first | ((with_reducible refine gate_builtin (b := .append) (xs := #[.tmp 76, .tmp 79]) rfl ?_); (try (refine gate_guard (by rfl) ?_; dsimp only)); at_builtin; refine Kd.R_append (Kd.int .i64) (w0 := w) w.heap.size rfl (.tmp 76) (.tmp 79) 30 3 (.int .i64 0) 8 rfl Tryd.underlying30 info3 rfl (by decide) (by omega) u7 x7_1 (x6_1.size : Int) [.int .i64 (x6_1.size : Int)] (fun _ => True) (fun _ => False) rfl rfl ?aP (fun _ hk => hk.elim) ?aF ?aO ?aB ?aS ?aL ?_; (case aP => exact rfl); (case aB => exact (by repeat (first | (with_reducible first | exact HB.out | apply below_alloc | apply pw_below_drewN | apply below_drew1) | exact HB.out))); (case aF => exact (fun _ _ => trivial)); (case aO => exact (by (with_reducible repeat (first | apply Kd.R_alloc | apply Kd.R_drewN | apply Kd.R_drew)); exact HO_7.out)); (case aS => exact (below_size (by repeat (first | (with_reducible first | exact HB.out | apply below_alloc | apply pw_below_drewN | apply below_drew1) | exact HB.out)))); (case aL => have := LMc23.out; omega); intro v143 w34 ho hb hg hat; rw [← Ny142.out] at ho; have n0_ := Aside0.mk (Kd.R_over' (by (with_reducible repeat (first | apply Kd.R_alloc | apply Kd.R_drewN | apply Kd.R_drew)); exact HO_3.out) (Kd.R_typed (by (with_reducible repeat (first | apply Kd.R_alloc | apply Kd.R_drewN | apply Kd.R_drew)); exact HO_7.out)) (by decide) hg); have n1_ := Aside0.mk (hb); have n2_ := Aside0.mk (ho); clear HO_3; clear HB; clear HO_7; have HO_3 := n0_; have HB := n1_; have HO144 := n2_; clear n0_ n1_ n2_; clear ho hb hg hat; have p145 : 0 ≤ (x8_1 : Int) := of_decide_eq_true (by first | (with_reducible assumption) | assumption); have q145 : x8_1 < (t130.length : Int) := of_decide_eq_true (by first | (with_reducible assumption) | assumption); obtain ⟨ad145, e145, hx145_0, hx145_1, hx145_2, hx145_3⟩ := at_T32 (Kd.R_reads' HO_3.out).2.2 x8_1 p145 q145; cases e145; replace p145 := eq_true p145; replace q145 := eq_true q145; have p148 : 0 ≤ (x8_1 : Int) := of_decide_eq_true (by first | (with_reducible assumption) | assumption); have q148 : x8_1 < (t130.length : Int) := of_decide_eq_true (by first | (with_reducible assumption) | assumption); obtain ⟨ad148, e148, hx148_0, hx148_1, hx148_2, hx148_3⟩ := at_T32 (Kd.R_reads' HO_3.out).2.2 x8_1 p148 q148; obtain rfl : ad145 = ad148 := (by injection e148); replace p148 := eq_true p148; replace q148 := eq_true q148)); try go_wp2_with (first | ((with_reducible refine gate_builtin (b := .append) (xs := #[.tmp 76, .tmp 79]) rfl ?_); (try (refine gate_guard (by rfl) ?_; dsimp only)); at_builtin; refine Kd.R_append (Kd.int .i64) (w0 := w) w.heap.size rfl (.tmp 76) (.tmp 79) 30 3 (.int .i64 0) 8 rfl Tryd.underlying30 info3 rfl (by decide) (by omega) u7 x7_1 (x6_1.size : Int) [.int .i64 (x6_1.size : Int)] (fun _ => True) (fun _ => False) rfl rfl ?aP (fun _ hk => hk.elim) ?aF ?aO ?aB ?aS ?aL ?_; (case aP => exact rfl); (case aB => exact (by repeat (first | (with_reducible first | exact HB.out | apply below_alloc | apply pw_below_drewN | apply below_drew1) | exact HB.out))); (case aF => exact (fun _ _ => trivial)); (case aO => exact (by (with_reducible repeat (first | apply Kd.R_alloc | apply Kd.R_drewN | apply Kd.R_drew)); exact HO_7.out)); (case aS => exact (below_size (by repeat (first | (with_reducible first | exact HB.out | apply below_alloc | apply pw_below_drewN | apply below_drew1) | exact HB.out)))); (case aL => have := LMc23.out; omega); intro v143 w34 ho hb hg hat; rw [← Ny142.out] at ho; have n0_ := Aside0.mk (Kd.R_over' (by (with_reducible repeat (first | apply Kd.R_alloc | apply Kd.R_drewN | apply Kd.R_drew)); exact HO_3.out) (Kd.R_typed (by (with_reducible repeat (first | apply Kd.R_alloc | apply Kd.R_drewN | apply Kd.R_drew)); exact HO_7.out)) (by decide) hg); have n1_ := Aside0.mk (hb); have n2_ := Aside0.mk (ho); clear HO_3; clear HB; clear HO_7; have HO_3 := n0_; have HB := n1_; have HO144 := n2_; clear n0_ n1_ n2_; clear ho hb hg hat; have p145 : 0 ≤ (x8_1 : Int) := of_decide_eq_true (by first | (with_reducible assumption) | assumption); have q145 : x8_1 < (t130.length : Int) := of_decide_eq_true (by first | (with_reducible assumption) | assumption); obtain ⟨ad145, e145, hx145_0, hx145_1, hx145_2, hx145_3⟩ := at_T32 (Kd.R_reads' HO_3.out).2.2 x8_1 p145 q145; cases e145; replace p145 := eq_true p145; replace q145 := eq_true q145; have p148 : 0 ≤ (x8_1 : Int) := of_decide_eq_true (by first | (with_reducible assumption) | assumption); have q148 : x8_1 < (t130.length : Int) := of_decide_eq_true (by first | (with_reducible assumption) | assumption); obtain ⟨ad148, e148, hx148_0, hx148_1, hx148_2, hx148_3⟩ := at_T32 (Kd.R_reads' HO_3.out).2.2 x8_1 p148 q148; obtain rfl : ad145 = ad148 := (by injection e148); replace p148 := eq_true p148; replace q148 := eq_true q148)))
                              go_roundg kj12
                              case measure => have := HK1.out; have := HJ12.out; omega
                              case rel => exact ⟨(x6_1 ++ (((rd_T32 t130 x8_1).f1) ++ (⟨#[32]⟩ : ByteArray))), (y142), (wrap64 (x8_1 + 1)), (by first | rfl | (simp; done) | (simp [*]; done)), (by first | rfl | (simp; done) | (simp [*]; done)), H', ⟨by have := HK1.out; have := HJ12.out; omega⟩, ⟨by (with_reducible repeat (first | apply Kd.R_alloc | apply Kd.R_drewN | apply Kd.R_drew)); exact HO_3.out⟩, ⟨by (with_reducible repeat (first | apply Kd.R_alloc | apply Kd.R_drewN | apply Kd.R_drew)); exact HO144.out⟩, ⟨by repeat (first | (with_reducible first | exact HB.out | apply below_alloc | apply pw_below_drewN | apply below_drew1) | exact HB.out)⟩⟩
                            · rw [if_neg c33] at H
                              exact absurd H (by simp)
                          · rw [if_neg c32] at H
                            exact absurd H (by simp)
                      · rw [if_neg c25] at H
                        exact absurd H (by simp)
                    · rw [if_neg c24] at H
                      exact absurd H (by simp)
                  · rw [if_neg c23] at H
                    exact absurd H (by simp)
          · rw [if_neg c12] at H
            have c12b0 : decide (x8_1 < (t130.length : Int)) = false := decide_eq_false c12
            clear c12
            by_cases c35 : (x6_1.size : Int) > 65536
            · rw [if_pos c35] at H
              have c35b0 : decide (65536 < (x6_1.size : Int)) = true := decide_eq_true c35
              have c35b1 : decide (65536 < x6_1.size) = true := decide_eq_true (by omega)
              clear c35
              obtain rfl := Option.some.inj H
              obtain ⟨Ao36, co36, eo36⟩ := Kd.R_slice HO_3.out
              subst eo36
              go_wp2
              repeat (go_quiet (fail); try go_wp2)
              go_ret
              exact ⟨by first | rfl | (simp [errW_none, errW_some] <;> rfl) | (simp [*, errW_none, errW_some] <;> rfl), by repeat (first | (with_reducible first | exact HB.out | apply below_alloc | apply pw_below_drewN | apply below_drew1) | exact HB.out)⟩
            · rw [if_neg c35] at H
              have c35b0 : decide (65536 < (x6_1.size : Int)) = false := decide_eq_false c35
              have c35b1 : decide (65536 < x6_1.size) = false := decide_eq_false (by omega)
              clear c35
              replace H := Option.bind_eq_some_iff.mp H
              obtain ⟨⟨t149, t150, t151⟩, A370, H⟩ := H
              replace H : (if t151 = 0 then (if t150 = (x6_1.size : Int) then (gramaryelaw04_LexAgain.j2 k1 t130 x7_1 t149 ((t149.length : Int) != (t130.length : Int))) else (gramaryelaw04_LexAgain.j2 k1 t130 x7_1 t149 true)) else (gramaryelaw04_LexAgain.j2 k1 t130 x7_1 t149 true)) = some r := H
              have A37 := Aside0.mk A370
              clear A370
              have HC38 := Aside0.mk H
              clear H
              obtain ⟨Ao39, co39, eo39⟩ := Kd.R_slice HO_3.out
              subst eo39
              go_upto_region 20 with (first | (go_at_call 11; (with_reducible refine (lex_All.calls k1 x6_1 t149 t150 t151 _ ?sideG A37.out).mono ?_); (case sideG => (refine GL.below HG.out ?_; repeat (first | (with_reducible exact Below.refl _ _) | (with_reducible exact Aside0.out (by assumption)) | (with_reducible apply below_alloc) | (with_reducible apply pw_below_drewN) | (with_reducible apply below_drew1)))); rintro e w40 ⟨v152, rfl, ho0, hb⟩; have n0_ := Aside0.mk (Kd.R_elder' (by (with_reducible repeat (first | apply Kd.R_alloc | apply Kd.R_drewN | apply Kd.R_drew)); exact HO_3.out) (Kd.R_base ho0) hb); have n1_ := Aside0.mk (Kd.R_below (by (with_reducible repeat (first | apply Kd.R_alloc | apply Kd.R_drewN | apply Kd.R_drew)); exact HO_7.out) hb); have n2_ := Aside0.mk (Kd.R_lower (Kd.R_new' ho0 (Kd.R_lt (by (with_reducible repeat (first | apply Kd.R_alloc | apply Kd.R_drewN | apply Kd.R_drew)); exact HO_3.out))) (below_size (by repeat (first | (with_reducible first | exact HB.out | apply below_alloc | apply pw_below_drewN | apply below_drew1) | exact HB.out)))); have n3_ := Aside0.mk (below_step (by repeat (first | (with_reducible first | exact HB.out | apply below_alloc | apply pw_below_drewN | apply below_drew1) | exact HB.out)) hb); clear HO_3; clear HO_7; clear HB; have HO_3 := n0_; have HO_7 := n1_; have HO153 := n2_; have HB := n3_; clear n0_ n1_ n2_ n3_; (try clear hb); (try clear hb2); (try clear hk); (try clear hi); (try clear ho0)))
              repeat (go_quiet (first | (go_at_call 11; (with_reducible refine (lex_All.calls k1 x6_1 t149 t150 t151 _ ?sideG A37.out).mono ?_); (case sideG => (refine GL.below HG.out ?_; repeat (first | (with_reducible exact Below.refl _ _) | (with_reducible exact Aside0.out (by assumption)) | (with_reducible apply below_alloc) | (with_reducible apply pw_below_drewN) | (with_reducible apply below_drew1)))); rintro e w40 ⟨v152, rfl, ho0, hb⟩; have n0_ := Aside0.mk (Kd.R_elder' (by (with_reducible repeat (first | apply Kd.R_alloc | apply Kd.R_drewN | apply Kd.R_drew)); exact HO_3.out) (Kd.R_base ho0) hb); have n1_ := Aside0.mk (Kd.R_below (by (with_reducible repeat (first | apply Kd.R_alloc | apply Kd.R_drewN | apply Kd.R_drew)); exact HO_7.out) hb); have n2_ := Aside0.mk (Kd.R_lower (Kd.R_new' ho0 (Kd.R_lt (by (with_reducible repeat (first | apply Kd.R_alloc | apply Kd.R_drewN | apply Kd.R_drew)); exact HO_3.out))) (below_size (by repeat (first | (with_reducible first | exact HB.out | apply below_alloc | apply pw_below_drewN | apply below_drew1) | exact HB.out)))); have n3_ := Aside0.mk (below_step (by repeat (first | (with_reducible first | exact HB.out | apply below_alloc | apply pw_below_drewN | apply below_drew1) | exact HB.out)) hb); clear HO_3; clear HO_7; clear HB; have HO_3 := n0_; have HO_7 := n1_; have HO153 := n2_; have HB := n3_; clear n0_ n1_ n2_ n3_; (try clear hb); (try clear hb2); (try clear hk); (try clear hi); (try clear ho0))); go_upto_region 20 with (first | (go_at_call 11; (with_reducible refine (lex_All.calls k1 x6_1 t149 t150 t151 _ ?sideG A37.out).mono ?_); (case sideG => (refine GL.below HG.out ?_; repeat (first | (with_reducible exact Below.refl _ _) | (with_reducible exact Aside0.out (by assumption)) | (with_reducible apply below_alloc) | (with_reducible apply pw_below_drewN) | (with_reducible apply below_drew1)))); rintro e w40 ⟨v152, rfl, ho0, hb⟩; have n0_ := Aside0.mk (Kd.R_elder' (by (with_reducible repeat (first | apply Kd.R_alloc | apply Kd.R_drewN | apply Kd.R_drew)); exact HO_3.out) (Kd.R_base ho0) hb); have n1_ := Aside0.mk (Kd.R_below (by (with_reducible repeat (first | apply Kd.R_alloc | apply Kd.R_drewN | apply Kd.R_drew)); exact HO_7.out) hb); have n2_ := Aside0.mk (Kd.R_lower (Kd.R_new' ho0 (Kd.R_lt (by (with_reducible repeat (first | apply Kd.R_alloc | apply Kd.R_drewN | apply Kd.R_drew)); exact HO_3.out))) (below_size (by repeat (first | (with_reducible first | exact HB.out | apply below_alloc | apply pw_below_drewN | apply below_drew1) | exact HB.out)))); have n3_ := Aside0.mk (below_step (by repeat (first | (with_reducible first | exact HB.out | apply below_alloc | apply pw_below_drewN | apply below_drew1) | exact HB.out)) hb); clear HO_3; clear HO_7; clear HB; have HO_3 := n0_; have HO_7 := n1_; have HO153 := n2_; have HB := n3_; clear n0_ n1_ n2_ n3_; (try clear hb); (try clear hb2); (try clear hk); (try clear hi); (try clear ho0))))
              (try simp only [Act.put, List.setIfInBounds_toArray, List.set_cons_zero, List.set_cons_succ])
              go_cut [127] (fun v127 wc => ∃ (kq : Nat) (x127_37 : Bool), v127 = .bool x127_37 ∧ Aside0 (gramaryelaw04_LexAgain.j2 kq t130 x7_1 t149 x127_37 = some r) ∧ Aside0 (kq ≤ k1) ∧ Aside0 (Kd.R k32 32 wc w.heap.size (fun k_ => some k_ ≠ (v152 : Value).ownBlock) (.slice Ao39 t130.length co39) t130) ∧ Aside0 (Kd.R (Kd.int .i64) 3 wc w.heap.size (fun _ => True) u7 x7_1) ∧ Aside0 (Kd.R k32 32 wc w.heap.size (fun k_ => some k_ ≠ ((.slice Ao39 t130.length co39) : Value).ownBlock) v152 t149) ∧ Aside0 (Below w.heap.size w wc))
              case first =>
                have H := HC38.out
                clear HC38
                by_cases c41 : t151 = 0
                · rw [if_pos c41] at H
                  have c41b0 : (t151 == 0) = true := beq_iff_eq.mpr c41
                  have c41b1 : (t151 != 0) = false := bne_eq_false_iff_eq.mpr c41
                  clear c41
                  (first | rw [c41b0] | (simp only [i64_w, i32_w]; rw [c41b0]) | skip)
                  by_cases c42 : t150 = (x6_1.size : Int)
                  · rw [if_pos c42] at H
                    have c42b0 : (t150 == (x6_1.size : Int)) = true := beq_iff_eq.mpr c42
                    have c42b1 : (t150 != (x6_1.size : Int)) = false := bne_eq_false_iff_eq.mpr c42
                    clear c42
                    have H' := Aside0.mk H
                    clear H
                    obtain ⟨Ao43, co43, eo43⟩ := Kd.R_slice HO153.out
                    subst eo43
                    go_wp2
                    repeat (go_quiet (fail); try go_wp2)
                    go_meet
                    case rel => exact ⟨_, (((t149.length : Int) != (t130.length : Int))), (by first | rfl | (simp; done) | (simp [*]; done)), H', ⟨by have := HK1.out; first | omega | exact Nat.le_refl _⟩, ⟨by (with_reducible repeat (first | apply Kd.R_alloc | apply Kd.R_drewN | apply Kd.R_drew)); exact Kd.R_mono HO_3.out (fun _ hk => hk.2)⟩, ⟨by (with_reducible repeat (first | apply Kd.R_alloc | apply Kd.R_drewN | apply Kd.R_drew)); exact HO_7.out⟩, ⟨by (with_reducible repeat (first | apply Kd.R_alloc | apply Kd.R_drewN | apply Kd.R_drew)); exact Kd.R_mono HO153.out (fun _ hk => hk.2)⟩, ⟨by repeat (first | (with_reducible first | exact HB.out | apply below_alloc | apply pw_below_drewN | apply below_drew1) | exact HB.out)⟩⟩
                  · rw [if_neg c42] at H
                    have c42b0 : (t150 == (x6_1.size : Int)) = false := beq_eq_false_iff_ne.mpr c42
                    have c42b1 : (t150 != (x6_1.size : Int)) = true := bne_iff_ne.mpr c42
                    have H' := Aside0.mk H
                    clear H
                    go_wp2
                    repeat (go_quiet (fail); try go_wp2)
                    go_meet
                    case rel => exact ⟨_, (true), (by first | rfl | (simp; done) | (simp [*]; done)), H', ⟨by have := HK1.out; first | omega | exact Nat.le_refl _⟩, ⟨by (with_reducible repeat (first | apply Kd.R_alloc | apply Kd.R_drewN | apply Kd.R_drew)); exact Kd.R_mono HO_3.out (fun _ hk => hk.2)⟩, ⟨by (with_reducible repeat (first | apply Kd.R_alloc | apply Kd.R_drewN | apply Kd.R_drew)); exact HO_7.out⟩, ⟨by (with_reducible repeat (first | apply Kd.R_alloc | apply Kd.R_drewN | apply Kd.R_drew)); exact Kd.R_mono HO153.out (fun _ hk => hk.2)⟩, ⟨by repeat (first | (with_reducible first | exact HB.out | apply below_alloc | apply pw_below_drewN | apply below_drew1) | exact HB.out)⟩⟩
                · rw [if_neg c41] at H
                  have c41b0 : (t151 == 0) = false := beq_eq_false_iff_ne.mpr c41
                  have c41b1 : (t151 != 0) = true := bne_iff_ne.mpr c41
                  (first | rw [c41b0] | (simp only [i64_w, i32_w]; rw [c41b0]) | skip)
                  have H' := Aside0.mk H
                  clear H
                  go_wp2
                  repeat (go_quiet (fail); try go_wp2)
                  go_meet
                  case rel => exact ⟨_, (true), (by first | rfl | (simp; done) | (simp [*]; done)), H', ⟨by have := HK1.out; first | omega | exact Nat.le_refl _⟩, ⟨by (with_reducible repeat (first | apply Kd.R_alloc | apply Kd.R_drewN | apply Kd.R_drew)); exact Kd.R_mono HO_3.out (fun _ hk => hk.2)⟩, ⟨by (with_reducible repeat (first | apply Kd.R_alloc | apply Kd.R_drewN | apply Kd.R_drew)); exact HO_7.out⟩, ⟨by (with_reducible repeat (first | apply Kd.R_alloc | apply Kd.R_drewN | apply Kd.R_drew)); exact Kd.R_mono HO153.out (fun _ hk => hk.2)⟩, ⟨by repeat (first | (with_reducible first | exact HB.out | apply below_alloc | apply pw_below_drewN | apply below_drew1) | exact HB.out)⟩⟩
              case rest =>
                clear HC38
                try clear c1
                try clear p1
                try clear q1
                try clear hx1
                try clear c2
                try clear p2
                try clear c3
                try clear c4
                try clear c6
                try clear c6b0
                try clear c6b1
                try clear p6
                try clear c12
                try clear c12b0
                try clear p13
                try clear q13
                try clear hx13
                try clear p14
                try clear q14
                try clear hx14
                try clear c15
                try clear c15b0
                try clear c16
                try clear c16b0
                try clear c17
                try clear c17b0
                try clear c18
                try clear c18b0
                try clear c20
                try clear c20b0
                try clear c21
                try clear c21b0
                try clear c22
                try clear c23
                try clear c24
                try clear c24b0
                try clear c25
                try clear c25b0
                try clear c26
                try clear c26b0
                try clear c26b1
                try clear c28
                try clear c28b0
                try clear c28b1
                try clear c28b2
                try clear c29
                try clear c29b0
                try clear c29b1
                try clear c29b2
                try clear c32
                try clear c32b0
                try clear c32b1
                try clear c32b2
                try clear c33
                try clear c33b0
                try clear c33b1
                try clear c33b2
                try clear c35
                try clear c35b0
                try clear c35b1
                try clear c41
                try clear c41b0
                try clear c41b1
                try clear c42
                try clear c42b0
                try clear c42b1
                try clear hx138_0
                try clear hx138_1
                try clear hx138_2
                try clear hx138_3
                try clear hx139_0
                try clear hx139_1
                try clear hx139_2
                try clear hx139_3
                try clear hx140_0
                try clear hx140_1
                try clear hx140_2
                try clear hx140_3
                try clear hx141_0
                try clear hx141_1
                try clear hx141_2
                try clear hx141_3
                try clear hx145_0
                try clear hx145_1
                try clear hx145_2
                try clear hx145_3
                try clear hx146_0
                try clear hx146_1
                try clear hx146_2
                try clear hx146_3
                try clear hx148_0
                try clear hx148_1
                try clear hx148_2
                try clear hx148_3
                try clear p1
                try clear p13
                try clear p138
                try clear p139
                try clear p14
                try clear p140
                try clear p141
                try clear p145
                try clear p146
                try clear p148
                try clear p2
                try clear p6
                try clear q1
                try clear q13
                try clear q138
                try clear q139
                try clear q14
                try clear q140
                try clear q141
                try clear q145
                try clear q146
                try clear q148
                obtain ⟨kq, x127_37, rfl, HA, HJ37, HO_3, HO_7, HO_9, HB⟩ := hcut
                cases kq with
                | zero => exact absurd HA.out (by simp [gramaryelaw04_LexAgain.j2])
                | succ kj37 =>
                  have H := HA.out
                  clear HA
                  simp only [gramaryelaw04_LexAgain.j2] at H
                  by_cases c44 : x127_37 = true
                  · subst c44
                    have H1 : (some false) = some r := by rw [if_pos rfl] at H; exact H
                    clear H
                    have H := H1
                    clear H1
                    obtain rfl := Option.some.inj H
                    go_wp2
                    repeat (go_quiet (fail); try go_wp2)
                    go_ret
                    exact ⟨by first | rfl | (simp [errW_none, errW_some] <;> rfl) | (simp [*, errW_none, errW_some] <;> rfl), by repeat (first | (with_reducible first | exact HB.out | apply below_alloc | apply pw_below_drewN | apply below_drew1) | exact HB.out)⟩
                  · replace c44 := Bool.eq_false_iff.mpr c44
                    subst c44
                    have H1 : (gramaryelaw04_LexAgain.l1 kj37 t130 x7_1 t149 0) = some r := by rw [if_neg (show ¬ (false = true) by decide)] at H; exact H
                    clear H
                    have H := H1
                    clear H1
                    have H' := Aside0.mk H
                    clear H
                    go_wp2
                    repeat (go_quiet (fail); try go_wp2)
                    go_loopg [12] kj37 (fun kq v12 w' => ∃ (x12_3 : Int), v12 = .int .i64 x12_3 ∧ Aside0 (gramaryelaw04_LexAgain.l1 kq t130 x7_1 t149 x12_3 = some r) ∧ Aside0 (kq ≤ kj37) ∧ Aside0 (Kd.R k32 32 w' w.heap.size (fun k_ => some k_ ≠ (v152 : Value).ownBlock) (.slice Ao39 t130.length co39) t130) ∧ Aside0 (Kd.R (Kd.int .i64) 3 w' w.heap.size (fun _ => True) u7 x7_1) ∧ Aside0 (Kd.R k32 32 w' w.heap.size (fun k_ => some k_ ≠ ((.slice Ao39 t130.length co39) : Value).ownBlock) v152 t149) ∧ Aside0 (Below w.heap.size w w'))
                    case atStart => exact ⟨(0), (by first | rfl | (simp; done) | (simp [*]; done)), H', ⟨Nat.le_refl _⟩, ⟨by (with_reducible repeat (first | apply Kd.R_alloc | apply Kd.R_drewN | apply Kd.R_drew)); exact HO_3.out⟩, ⟨by (with_reducible repeat (first | apply Kd.R_alloc | apply Kd.R_drewN | apply Kd.R_drew)); exact HO_7.out⟩, ⟨by (with_reducible repeat (first | apply Kd.R_alloc | apply Kd.R_drewN | apply Kd.R_drew)); exact HO_9.out⟩, ⟨by repeat (first | (with_reducible first | exact HB.out | apply below_alloc | apply pw_below_drewN | apply below_drew1) | exact HB.out)⟩⟩
                    case round =>
                      clear H'
                      try clear c1
                      try clear p1
                      try clear q1
                      try clear hx1
                      try clear c2
                      try clear p2
                      try clear c3
                      try clear c4
                      try clear c6
                      try clear c6b0
                      try clear c6b1
                      try clear p6
                      try clear c12
                      try clear c12b0
                      try clear p13
                      try clear q13
                      try clear hx13
                      try clear p14
                      try clear q14
                      try clear hx14
                      try clear c15
                      try clear c15b0
                      try clear c16
                      try clear c16b0
                      try clear c17
                      try clear c17b0
                      try clear c18
                      try clear c18b0
                      try clear c20
                      try clear c20b0
                      try clear c21
                      try clear c21b0
                      try clear c22
                      try clear c23
                      try clear c24
                      try clear c24b0
                      try clear c25
                      try clear c25b0
                      try clear c26
                      try clear c26b0
                      try clear c26b1
                      try clear c28
                      try clear c28b0
                      try clear c28b1
                      try clear c28b2
                      try clear c29
                      try clear c29b0
                      try clear c29b1
                      try clear c29b2
                      try clear c32
                      try clear c32b0
                      try clear c32b1
                      try clear c32b2
                      try clear c33
                      try clear c33b0
                      try clear c33b1
                      try clear c33b2
                      try clear c35
                      try clear c35b0
                      try clear c35b1
                      try clear c41
                      try clear c41b0
                      try clear c41b1
                      try clear c42
                      try clear c42b0
                      try clear c42b1
                      try clear c44
                      try clear hx138_0
                      try clear hx138_1
                      try clear hx138_2
                      try clear hx138_3
                      try clear hx139_0
                      try clear hx139_1
                      try clear hx139_2
                      try clear hx139_3
                      try clear hx140_0
                      try clear hx140_1
                      try clear hx140_2
                      try clear hx140_3
                      try clear hx141_0
                      try clear hx141_1
                      try clear hx141_2
                      try clear hx141_3
                      try clear hx145_0
                      try clear hx145_1
                      try clear hx145_2
                      try clear hx145_3
                      try clear hx146_0
                      try clear hx146_1
                      try clear hx146_2
                      try clear hx146_3
                      try clear hx148_0
                      try clear hx148_1
                      try clear hx148_2
                      try clear hx148_3
                      try clear p1
                      try clear p13
                      try clear p138
                      try clear p139
                      try clear p14
                      try clear p140
                      try clear p141
                      try clear p145
                      try clear p146
                      try clear p148
                      try clear p2
                      try clear p6
                      try clear q1
                      try clear q13
                      try clear q138
                      try clear q139
                      try clear q14
                      try clear q140
                      try clear q141
                      try clear q145
                      try clear q146
                      try clear q148
                      obtain ⟨x12_3, rfl, HA, HK3, HO_3, HO_7, HO_9, HB⟩ := hrel
                      cases gk with
                      | zero => exact absurd HA.out (by simp [gramaryelaw04_LexAgain.l1])
                      | succ k3 =>
                        have H := HA.out
                        clear HA
                        simp only [gramaryelaw04_LexAgain.l1] at H
                        by_cases c45 : x12_3 < (t149.length : Int)
                        · rw [if_pos c45] at H
                          have c45b0 : decide (x12_3 < (t149.length : Int)) = true := decide_eq_true c45
                          clear c45
                          by_cases c46 : 0 ≤ x12_3
                          · rw [if_pos c46] at H
                            have c46b0 : decide (0 ≤ x12_3) = true := decide_eq_true c46
                            clear c46
                            by_cases c47 : x12_3 < (t130.length : Int)
                            · rw [if_pos c47] at H
                              have c47b0 : decide (x12_3 < (t130.length : Int)) = true := decide_eq_true c47
                              clear c47
                              by_cases c48 : x12_3 < (x7_1.length : Int)
                              · rw [if_pos c48] at H
                                have c48b0 : decide (x12_3 < (x7_1.length : Int)) = true := decide_eq_true c48
                                clear c48
                                by_cases c49 : (!(((rd_T32 t149 x12_3).f0) == ((rd_T32 t130 x12_3).f0)) || (!((((rd_T32 t149 x12_3).f1).toList) == (((rd_T32 t130 x12_3).f1).toList)) || (!(((rd_T32 t149 x12_3).f2) == ((rd_T32 t130 x12_3).f2)) || (!(((rd_T32 t149 x12_3).f3) == (rd x7_1 x12_3)))))) = true
                                · rw [if_pos c49] at H
                                  have c49b0 : (!(((rd_T32 t149 x12_3).f0) == ((rd_T32 t130 x12_3).f0)) || (!((((rd_T32 t149 x12_3).f1).toList) == (((rd_T32 t130 x12_3).f1).toList)) || (!(((rd_T32 t149 x12_3).f2) == ((rd_T32 t130 x12_3).f2)) || (!(((rd_T32 t149 x12_3).f3) == (rd x7_1 x12_3)))))) = true := c49
                                  clear c49
                                  obtain rfl := Option.some.inj H
                                  obtain ⟨Ao50, co50, eo50⟩ := Kd.R_slice HO_9.out
                                  subst eo50
                                  have p154 : 0 ≤ (x12_3 : Int) := of_decide_eq_true (by first | (with_reducible assumption) | assumption)
                                  have q154 : x12_3 < (t130.length : Int) := of_decide_eq_true (by first | (with_reducible assumption) | assumption)
                                  obtain ⟨ad154, e154, hx154_0, hx154_1, hx154_2, hx154_3⟩ := at_T32 (Kd.R_reads' HO_3.out).2.2 x12_3 p154 q154
                                  cases e154
                                  replace p154 := eq_true p154
                                  replace q154 := eq_true q154
                                  go_wp2_with (first | ((with_reducible refine gate_dst (N := 13) rfl ?_); (try (refine gate_guard (by rfl) ?_; dsimp only)); refine box_event ?hg (N := 13) ?hd (cs := #[.int .i64 0, .string (⟨#[]⟩ : ByteArray), .int .i64 0, .int .i64 0]) (t := 32) ?hr ?_; (case hd => rfl); (case hg => rfl); (case hr => first | (go_simp; done) | (go_simp; rfl)); intro gb155 hg w51 hbox hb; have n0_ := Aside0.mk (Kd.R_below (Kd.R_elderB (by (with_reducible repeat (first | apply Kd.R_alloc | apply Kd.R_drewN | apply Kd.R_drew)); exact HO_3.out) gb155 (Nat.le_of_eq hg.symm)) hb); have n1_ := Aside0.mk (Kd.R_below (by (with_reducible repeat (first | apply Kd.R_alloc | apply Kd.R_drewN | apply Kd.R_drew)); exact HO_7.out) hb); have n2_ := Aside0.mk (Kd.R_below (Kd.R_elderB (by (with_reducible repeat (first | apply Kd.R_alloc | apply Kd.R_drewN | apply Kd.R_drew)); exact HO_9.out) gb155 (Nat.le_of_eq hg.symm)) hb); have n3_ := Aside0.mk (below_step (by repeat (first | (with_reducible first | exact HB.out | apply below_alloc | apply pw_below_drewN | apply below_drew1) | exact HB.out)) hb); have n4_ := Aside0.mk (hbox); have n5_ := Aside0.mk ((by rw [hg]; exact (below_size (by repeat (first | (with_reducible first | exact HB.out | apply below_alloc | apply pw_below_drewN | apply below_drew1) | exact HB.out))) : w.heap.size ≤ gb155)); have n6_ := Aside0.mk ((by rw [hg]; exact (below_size (by repeat (first | (with_reducible first | exact HB.out | apply below_alloc | apply pw_below_drewN | apply below_drew1) | exact HB.out))) : w.heap.size ≤ gb155)); clear HO_3; clear HO_7; clear HO_9; clear HB; have HO_3 := n0_; have HO_7 := n1_; have HO_9 := n2_; have HB := n3_; have BK155 := n4_; have GW155 := n5_; have GE155 := n6_; clear n0_ n1_ n2_ n3_ n4_ n5_ n6_; clear hb hbox hg; have hcz52_0 : w51.cell? ⟨gb155, 0, none⟩ = some (.int .i64 0) := (blk_cell BK155.out 0).trans rfl; have hcz52_1 : w51.cell? ⟨gb155, 1, none⟩ = some (.string (⟨#[]⟩ : ByteArray)) := (blk_cell BK155.out 1).trans rfl; have hcz52_2 : w51.cell? ⟨gb155, 2, none⟩ = some (.int .i64 0) := (blk_cell BK155.out 2).trans rfl; have hcz52_3 : w51.cell? ⟨gb155, 3, none⟩ = some (.int .i64 0) := (blk_cell BK155.out 3).trans rfl; have hfz52_0 := blk_frozen BK155.out 0; have hfz52_1 := blk_frozen BK155.out 1; have hfz52_2 := blk_frozen BK155.out 2; have hfz52_3 := blk_frozen BK155.out 3; obtain ⟨Ao53, co53, eo53⟩ := Kd.R_slice HO_7.out; subst eo53; have p156 : 0 ≤ (x12_3 : Int) := of_decide_eq_true (by first | (with_reducible assumption) | assumption); have q156 : x12_3 < (x7_1.length : Int) := of_decide_eq_true (by first | (with_reducible assumption) | assumption); obtain ⟨ad156, e156, hx156_0⟩ := Kd.at_int (Kd.R_reads' HO_7.out).2.2 x12_3 p156 q156; cases e156; have hn156_0 : ad156.block ≠ gb155 := Kd.own_blk (Kd.R_ne HO_7.out BK155.out (by decide)); have hn156_1 : ad156.block ≠ gb155 := Kd.own_blk (Kd.R_ne HO_7.out BK155.out (by decide)); have hn156_2 : ad156.block ≠ gb155 := Kd.own_blk (Kd.R_ne HO_7.out BK155.out (by decide)); have hn156_3 : ad156.block ≠ gb155 := Kd.own_blk (Kd.R_ne HO_7.out BK155.out (by decide)); replace hx156_0 := (cell_far (p := ⟨gb155, 0, none⟩) (by first | (rw [add_block]; exact hn156_0) | (show (Addr.add _ _).block ≠ _; rw [add_block]; exact hn156_0) | exact hn156_0) (.int .i64 ((rd_T32 t130 x12_3).f0))).trans hx156_0; replace hx156_0 := (cell_far (p := ⟨gb155, 1, none⟩) (by first | (rw [add_block]; exact hn156_1) | (show (Addr.add _ _).block ≠ _; rw [add_block]; exact hn156_1) | exact hn156_1) (.string ((rd_T32 t130 x12_3).f1))).trans hx156_0; replace hx156_0 := (cell_far (p := ⟨gb155, 2, none⟩) (by first | (rw [add_block]; exact hn156_2) | (show (Addr.add _ _).block ≠ _; rw [add_block]; exact hn156_2) | exact hn156_2) (.int .i64 ((rd_T32 t130 x12_3).f2))).trans hx156_0; replace hx156_0 := (cell_far (p := ⟨gb155, 3, none⟩) (by first | (rw [add_block]; exact hn156_3) | (show (Addr.add _ _).block ≠ _; rw [add_block]; exact hn156_3) | exact hn156_3) (.int .i64 ((rd_T32 t130 x12_3).f3))).trans hx156_0; (try have hy156_0 := fun (n_ : Nat) => (show ((((((w51.drewN n_).setCell ⟨gb155, 0, none⟩ (.int .i64 ((rd_T32 t130 x12_3).f0))).setCell ⟨gb155, 1, none⟩ (.string ((rd_T32 t130 x12_3).f1))).setCell ⟨gb155, 2, none⟩ (.int .i64 ((rd_T32 t130 x12_3).f2))).setCell ⟨gb155, 3, none⟩ (.int .i64 ((rd_T32 t130 x12_3).f3)))).cell? _ = some _ from hx156_0)); clear hn156_0; clear hn156_1; clear hn156_2; clear hn156_3; replace p156 := eq_true p156; replace q156 := eq_true q156; have p157 : 0 ≤ (x12_3 : Int) := of_decide_eq_true (by first | (with_reducible assumption) | assumption); have q157 : x12_3 < (t149.length : Int) := of_decide_eq_true (by first | (with_reducible assumption) | assumption); obtain ⟨ad157, e157, hx157_0, hx157_1, hx157_2, hx157_3⟩ := at_T32 (Kd.R_reads' HO_9.out).2.2 x12_3 p157 q157; cases e157; have hn157_0 : ad157.block ≠ gb155 := Kd.own_blk (Kd.R_away HO_9.out (fun _ hk => hk.2)); have hn157_1 : ad157.block ≠ gb155 := Kd.own_blk (Kd.R_away HO_9.out (fun _ hk => hk.2)); have hn157_2 : ad157.block ≠ gb155 := Kd.own_blk (Kd.R_away HO_9.out (fun _ hk => hk.2)); have hn157_3 : ad157.block ≠ gb155 := Kd.own_blk (Kd.R_away HO_9.out (fun _ hk => hk.2)); have hn157_4 : ad157.block ≠ gb155 := Kd.own_blk (Kd.R_away HO_9.out (fun _ hk => hk.2)); replace hx157_0 := (cell_far (p := ⟨gb155, 0, none⟩) (by first | (rw [add_block]; exact hn157_0) | (show (Addr.add _ _).block ≠ _; rw [add_block]; exact hn157_0) | exact hn157_0) (.int .i64 ((rd_T32 t130 x12_3).f0))).trans hx157_0; replace hx157_1 := (cell_far (p := ⟨gb155, 0, none⟩) (by first | (rw [add_block]; exact hn157_0) | (show (Addr.add _ _).block ≠ _; rw [add_block]; exact hn157_0) | exact hn157_0) (.int .i64 ((rd_T32 t130 x12_3).f0))).trans hx157_1; replace hx157_2 := (cell_far (p := ⟨gb155, 0, none⟩) (by first | (rw [add_block]; exact hn157_0) | (show (Addr.add _ _).block ≠ _; rw [add_block]; exact hn157_0) | exact hn157_0) (.int .i64 ((rd_T32 t130 x12_3).f0))).trans hx157_2; replace hx157_3 := (cell_far (p := ⟨gb155, 0, none⟩) (by first | (rw [add_block]; exact hn157_0) | (show (Addr.add _ _).block ≠ _; rw [add_block]; exact hn157_0) | exact hn157_0) (.int .i64 ((rd_T32 t130 x12_3).f0))).trans hx157_3; replace hx157_0 := (cell_far (p := ⟨gb155, 1, none⟩) (by first | (rw [add_block]; exact hn157_1) | (show (Addr.add _ _).block ≠ _; rw [add_block]; exact hn157_1) | exact hn157_1) (.string ((rd_T32 t130 x12_3).f1))).trans hx157_0; replace hx157_1 := (cell_far (p := ⟨gb155, 1, none⟩) (by first | (rw [add_block]; exact hn157_1) | (show (Addr.add _ _).block ≠ _; rw [add_block]; exact hn157_1) | exact hn157_1) (.string ((rd_T32 t130 x12_3).f1))).trans hx157_1; replace hx157_2 := (cell_far (p := ⟨gb155, 1, none⟩) (by first | (rw [add_block]; exact hn157_1) | (show (Addr.add _ _).block ≠ _; rw [add_block]; exact hn157_1) | exact hn157_1) (.string ((rd_T32 t130 x12_3).f1))).trans hx157_2; replace hx157_3 := (cell_far (p := ⟨gb155, 1, none⟩) (by first | (rw [add_block]; exact hn157_1) | (show (Addr.add _ _).block ≠ _; rw [add_block]; exact hn157_1) | exact hn157_1) (.string ((rd_T32 t130 x12_3).f1))).trans hx157_3; replace hx157_0 := (cell_far (p := ⟨gb155, 2, none⟩) (by first | (rw [add_block]; exact hn157_2) | (show (Addr.add _ _).block ≠ _; rw [add_block]; exact hn157_2) | exact hn157_2) (.int .i64 ((rd_T32 t130 x12_3).f2))).trans hx157_0; replace hx157_1 := (cell_far (p := ⟨gb155, 2, none⟩) (by first | (rw [add_block]; exact hn157_2) | (show (Addr.add _ _).block ≠ _; rw [add_block]; exact hn157_2) | exact hn157_2) (.int .i64 ((rd_T32 t130 x12_3).f2))).trans hx157_1; replace hx157_2 := (cell_far (p := ⟨gb155, 2, none⟩) (by first | (rw [add_block]; exact hn157_2) | (show (Addr.add _ _).block ≠ _; rw [add_block]; exact hn157_2) | exact hn157_2) (.int .i64 ((rd_T32 t130 x12_3).f2))).trans hx157_2; replace hx157_3 := (cell_far (p := ⟨gb155, 2, none⟩) (by first | (rw [add_block]; exact hn157_2) | (show (Addr.add _ _).block ≠ _; rw [add_block]; exact hn157_2) | exact hn157_2) (.int .i64 ((rd_T32 t130 x12_3).f2))).trans hx157_3; replace hx157_0 := (cell_far (p := ⟨gb155, 3, none⟩) (by first | (rw [add_block]; exact hn157_3) | (show (Addr.add _ _).block ≠ _; rw [add_block]; exact hn157_3) | exact hn157_3) (.int .i64 ((rd_T32 t130 x12_3).f3))).trans hx157_0; replace hx157_1 := (cell_far (p := ⟨gb155, 3, none⟩) (by first | (rw [add_block]; exact hn157_3) | (show (Addr.add _ _).block ≠ _; rw [add_block]; exact hn157_3) | exact hn157_3) (.int .i64 ((rd_T32 t130 x12_3).f3))).trans hx157_1; replace hx157_2 := (cell_far (p := ⟨gb155, 3, none⟩) (by first | (rw [add_block]; exact hn157_3) | (show (Addr.add _ _).block ≠ _; rw [add_block]; exact hn157_3) | exact hn157_3) (.int .i64 ((rd_T32 t130 x12_3).f3))).trans hx157_2; replace hx157_3 := (cell_far (p := ⟨gb155, 3, none⟩) (by first | (rw [add_block]; exact hn157_3) | (show (Addr.add _ _).block ≠ _; rw [add_block]; exact hn157_3) | exact hn157_3) (.int .i64 ((rd_T32 t130 x12_3).f3))).trans hx157_3; replace hx157_0 := (cell_far (p := ⟨gb155, 3, none⟩) (by first | (rw [add_block]; exact hn157_4) | (show (Addr.add _ _).block ≠ _; rw [add_block]; exact hn157_4) | exact hn157_4) (.int .i64 (rd x7_1 x12_3))).trans hx157_0; replace hx157_1 := (cell_far (p := ⟨gb155, 3, none⟩) (by first | (rw [add_block]; exact hn157_4) | (show (Addr.add _ _).block ≠ _; rw [add_block]; exact hn157_4) | exact hn157_4) (.int .i64 (rd x7_1 x12_3))).trans hx157_1; replace hx157_2 := (cell_far (p := ⟨gb155, 3, none⟩) (by first | (rw [add_block]; exact hn157_4) | (show (Addr.add _ _).block ≠ _; rw [add_block]; exact hn157_4) | exact hn157_4) (.int .i64 (rd x7_1 x12_3))).trans hx157_2; replace hx157_3 := (cell_far (p := ⟨gb155, 3, none⟩) (by first | (rw [add_block]; exact hn157_4) | (show (Addr.add _ _).block ≠ _; rw [add_block]; exact hn157_4) | exact hn157_4) (.int .i64 (rd x7_1 x12_3))).trans hx157_3; (try have hy157_0 := fun (n_ : Nat) => (show (((((((w51.drewN n_).setCell ⟨gb155, 0, none⟩ (.int .i64 ((rd_T32 t130 x12_3).f0))).setCell ⟨gb155, 1, none⟩ (.string ((rd_T32 t130 x12_3).f1))).setCell ⟨gb155, 2, none⟩ (.int .i64 ((rd_T32 t130 x12_3).f2))).setCell ⟨gb155, 3, none⟩ (.int .i64 ((rd_T32 t130 x12_3).f3))).setCell ⟨gb155, 3, none⟩ (.int .i64 (rd x7_1 x12_3)))).cell? _ = some _ from hx157_0)); (try have hy157_1 := fun (n_ : Nat) => (show (((((((w51.drewN n_).setCell ⟨gb155, 0, none⟩ (.int .i64 ((rd_T32 t130 x12_3).f0))).setCell ⟨gb155, 1, none⟩ (.string ((rd_T32 t130 x12_3).f1))).setCell ⟨gb155, 2, none⟩ (.int .i64 ((rd_T32 t130 x12_3).f2))).setCell ⟨gb155, 3, none⟩ (.int .i64 ((rd_T32 t130 x12_3).f3))).setCell ⟨gb155, 3, none⟩ (.int .i64 (rd x7_1 x12_3)))).cell? _ = some _ from hx157_1)); (try have hy157_2 := fun (n_ : Nat) => (show (((((((w51.drewN n_).setCell ⟨gb155, 0, none⟩ (.int .i64 ((rd_T32 t130 x12_3).f0))).setCell ⟨gb155, 1, none⟩ (.string ((rd_T32 t130 x12_3).f1))).setCell ⟨gb155, 2, none⟩ (.int .i64 ((rd_T32 t130 x12_3).f2))).setCell ⟨gb155, 3, none⟩ (.int .i64 ((rd_T32 t130 x12_3).f3))).setCell ⟨gb155, 3, none⟩ (.int .i64 (rd x7_1 x12_3)))).cell? _ = some _ from hx157_2)); (try have hy157_3 := fun (n_ : Nat) => (show (((((((w51.drewN n_).setCell ⟨gb155, 0, none⟩ (.int .i64 ((rd_T32 t130 x12_3).f0))).setCell ⟨gb155, 1, none⟩ (.string ((rd_T32 t130 x12_3).f1))).setCell ⟨gb155, 2, none⟩ (.int .i64 ((rd_T32 t130 x12_3).f2))).setCell ⟨gb155, 3, none⟩ (.int .i64 ((rd_T32 t130 x12_3).f3))).setCell ⟨gb155, 3, none⟩ (.int .i64 (rd x7_1 x12_3)))).cell? _ = some _ from hx157_3)); clear hn157_0; clear hn157_1; clear hn157_2; clear hn157_3; clear hn157_4; replace p157 := eq_true p157; replace q157 := eq_true q157))
                                  refine Plus.hide_world fun W' hW' => ?_
                                  obtain ⟨hb0, hb1, hb2, hb3⟩ := Plus.box4 hW'.out hcz52_0 hcz52_1 hcz52_2 hcz52_3
                                  rw [hW'.out] at hx157_0 hx157_1 hx157_2 hx157_3
                                  try clear hy157_0 hy157_1 hy157_2 hy157_3
                                  go_quiet (fail)
                                  have hw := hW'.out
                                  subst hw
                                  try go_wp2_with (first | ((with_reducible refine gate_dst (N := 13) rfl ?_); (try (refine gate_guard (by rfl) ?_; dsimp only)); refine box_event ?hg (N := 13) ?hd (cs := #[.int .i64 0, .string (⟨#[]⟩ : ByteArray), .int .i64 0, .int .i64 0]) (t := 32) ?hr ?_; (case hd => rfl); (case hg => rfl); (case hr => first | (go_simp; done) | (go_simp; rfl)); intro gb155 hg w51 hbox hb; have n0_ := Aside0.mk (Kd.R_below (Kd.R_elderB (by (with_reducible repeat (first | apply Kd.R_alloc | apply Kd.R_drewN | apply Kd.R_drew)); exact HO_3.out) gb155 (Nat.le_of_eq hg.symm)) hb); have n1_ := Aside0.mk (Kd.R_below (by (with_reducible repeat (first | apply Kd.R_alloc | apply Kd.R_drewN | apply Kd.R_drew)); exact HO_7.out) hb); have n2_ := Aside0.mk (Kd.R_below (Kd.R_elderB (by (with_reducible repeat (first | apply Kd.R_alloc | apply Kd.R_drewN | apply Kd.R_drew)); exact HO_9.out) gb155 (Nat.le_of_eq hg.symm)) hb); have n3_ := Aside0.mk (below_step (by repeat (first | (with_reducible first | exact HB.out | apply below_alloc | apply pw_below_drewN | apply below_drew1) | exact HB.out)) hb); have n4_ := Aside0.mk (hbox); have n5_ := Aside0.mk ((by rw [hg]; exact (below_size (by repeat (first | (with_reducible first | exact HB.out | apply below_alloc | apply pw_below_drewN | apply below_drew1) | exact HB.out))) : w.heap.size ≤ gb155)); have n6_ := Aside0.mk ((by rw [hg]; exact (below_size (by repeat (first | (with_reducible first | exact HB.out | apply below_alloc | apply pw_below_drewN | apply below_drew1) | exact HB.out))) : w.heap.size ≤ gb155)); clear HO_3; clear HO_7; clear HO_9; clear HB; have HO_3 := n0_; have HO_7 := n1_; have HO_9 := n2_; have HB := n3_; have BK155 := n4_; have GW155 := n5_; have GE155 := n6_; clear n0_ n1_ n2_ n3_ n4_ n5_ n6_; clear hb hbox hg; have hcz52_0 : w51.cell? ⟨gb155, 0, none⟩ = some (.int .i64 0) := (blk_cell BK155.out 0).trans rfl; have hcz52_1 : w51.cell? ⟨gb155, 1, none⟩ = some (.string (⟨#[]⟩ : ByteArray)) := (blk_cell BK155.out 1).trans rfl; have hcz52_2 : w51.cell? ⟨gb155, 2, none⟩ = some (.int .i64 0) := (blk_cell BK155.out 2).trans rfl; have hcz52_3 : w51.cell? ⟨gb155, 3, none⟩ = some (.int .i64 0) := (blk_cell BK155.out 3).trans rfl; have hfz52_0 := blk_frozen BK155.out 0; have hfz52_1 := blk_frozen BK155.out 1; have hfz52_2 := blk_frozen BK155.out 2; have hfz52_3 := blk_frozen BK155.out 3; obtain ⟨Ao53, co53, eo53⟩ := Kd.R_slice HO_7.out; subst eo53; have p156 : 0 ≤ (x12_3 : Int) := of_decide_eq_true (by first | (with_reducible assumption) | assumption); have q156 : x12_3 < (x7_1.length : Int) := of_decide_eq_true (by first | (with_reducible assumption) | assumption); obtain ⟨ad156, e156, hx156_0⟩ := Kd.at_int (Kd.R_reads' HO_7.out).2.2 x12_3 p156 q156; cases e156; have hn156_0 : ad156.block ≠ gb155 := Kd.own_blk (Kd.R_ne HO_7.out BK155.out (by decide)); have hn156_1 : ad156.block ≠ gb155 := Kd.own_blk (Kd.R_ne HO_7.out BK155.out (by decide)); have hn156_2 : ad156.block ≠ gb155 := Kd.own_blk (Kd.R_ne HO_7.out BK155.out (by decide)); have hn156_3 : ad156.block ≠ gb155 := Kd.own_blk (Kd.R_ne HO_7.out BK155.out (by decide)); replace hx156_0 := (cell_far (p := ⟨gb155, 0, none⟩) (by first | (rw [add_block]; exact hn156_0) | (show (Addr.add _ _).block ≠ _; rw [add_block]; exact hn156_0) | exact hn156_0) (.int .i64 ((rd_T32 t130 x12_3).f0))).trans hx156_0; replace hx156_0 := (cell_far (p := ⟨gb155, 1, none⟩) (by first | (rw [add_block]; exact hn156_1) | (show (Addr.add _ _).block ≠ _; rw [add_block]; exact hn156_1) | exact hn156_1) (.string ((rd_T32 t130 x12_3).f1))).trans hx156_0; replace hx156_0 := (cell_far (p := ⟨gb155, 2, none⟩) (by first | (rw [add_block]; exact hn156_2) | (show (Addr.add _ _).block ≠ _; rw [add_block]; exact hn156_2) | exact hn156_2) (.int .i64 ((rd_T32 t130 x12_3).f2))).trans hx156_0; replace hx156_0 := (cell_far (p := ⟨gb155, 3, none⟩) (by first | (rw [add_block]; exact hn156_3) | (show (Addr.add _ _).block ≠ _; rw [add_block]; exact hn156_3) | exact hn156_3) (.int .i64 ((rd_T32 t130 x12_3).f3))).trans hx156_0; (try have hy156_0 := fun (n_ : Nat) => (show ((((((w51.drewN n_).setCell ⟨gb155, 0, none⟩ (.int .i64 ((rd_T32 t130 x12_3).f0))).setCell ⟨gb155, 1, none⟩ (.string ((rd_T32 t130 x12_3).f1))).setCell ⟨gb155, 2, none⟩ (.int .i64 ((rd_T32 t130 x12_3).f2))).setCell ⟨gb155, 3, none⟩ (.int .i64 ((rd_T32 t130 x12_3).f3)))).cell? _ = some _ from hx156_0)); clear hn156_0; clear hn156_1; clear hn156_2; clear hn156_3; replace p156 := eq_true p156; replace q156 := eq_true q156; have p157 : 0 ≤ (x12_3 : Int) := of_decide_eq_true (by first | (with_reducible assumption) | assumption); have q157 : x12_3 < (t149.length : Int) := of_decide_eq_true (by first | (with_reducible assumption) | assumption); obtain ⟨ad157, e157, hx157_0, hx157_1, hx157_2, hx157_3⟩ := at_T32 (Kd.R_reads' HO_9.out).2.2 x12_3 p157 q157; cases e157; have hn157_0 : ad157.block ≠ gb155 := Kd.own_blk (Kd.R_away HO_9.out (fun _ hk => hk.2)); have hn157_1 : ad157.block ≠ gb155 := Kd.own_blk (Kd.R_away HO_9.out (fun _ hk => hk.2)); have hn157_2 : ad157.block ≠ gb155 := Kd.own_blk (Kd.R_away HO_9.out (fun _ hk => hk.2)); have hn157_3 : ad157.block ≠ gb155 := Kd.own_blk (Kd.R_away HO_9.out (fun _ hk => hk.2)); have hn157_4 : ad157.block ≠ gb155 := Kd.own_blk (Kd.R_away HO_9.out (fun _ hk => hk.2)); replace hx157_0 := (cell_far (p := ⟨gb155, 0, none⟩) (by first | (rw [add_block]; exact hn157_0) | (show (Addr.add _ _).block ≠ _; rw [add_block]; exact hn157_0) | exact hn157_0) (.int .i64 ((rd_T32 t130 x12_3).f0))).trans hx157_0; replace hx157_1 := (cell_far (p := ⟨gb155, 0, none⟩) (by first | (rw [add_block]; exact hn157_0) | (show (Addr.add _ _).block ≠ _; rw [add_block]; exact hn157_0) | exact hn157_0) (.int .i64 ((rd_T32 t130 x12_3).f0))).trans hx157_1; replace hx157_2 := (cell_far (p := ⟨gb155, 0, none⟩) (by first | (rw [add_block]; exact hn157_0) | (show (Addr.add _ _).block ≠ _; rw [add_block]; exact hn157_0) | exact hn157_0) (.int .i64 ((rd_T32 t130 x12_3).f0))).trans hx157_2; replace hx157_3 := (cell_far (p := ⟨gb155, 0, none⟩) (by first | (rw [add_block]; exact hn157_0) | (show (Addr.add _ _).block ≠ _; rw [add_block]; exact hn157_0) | exact hn157_0) (.int .i64 ((rd_T32 t130 x12_3).f0))).trans hx157_3; replace hx157_0 := (cell_far (p := ⟨gb155, 1, none⟩) (by first | (rw [add_block]; exact hn157_1) | (show (Addr.add _ _).block ≠ _; rw [add_block]; exact hn157_1) | exact hn157_1) (.string ((rd_T32 t130 x12_3).f1))).trans hx157_0; replace hx157_1 := (cell_far (p := ⟨gb155, 1, none⟩) (by first | (rw [add_block]; exact hn157_1) | (show (Addr.add _ _).block ≠ _; rw [add_block]; exact hn157_1) | exact hn157_1) (.string ((rd_T32 t130 x12_3).f1))).trans hx157_1; replace hx157_2 := (cell_far (p := ⟨gb155, 1, none⟩) (by first | (rw [add_block]; exact hn157_1) | (show (Addr.add _ _).block ≠ _; rw [add_block]; exact hn157_1) | exact hn157_1) (.string ((rd_T32 t130 x12_3).f1))).trans hx157_2; replace hx157_3 := (cell_far (p := ⟨gb155, 1, none⟩) (by first | (rw [add_block]; exact hn157_1) | (show (Addr.add _ _).block ≠ _; rw [add_block]; exact hn157_1) | exact hn157_1) (.string ((rd_T32 t130 x12_3).f1))).trans hx157_3; replace hx157_0 := (cell_far (p := ⟨gb155, 2, none⟩) (by first | (rw [add_block]; exact hn157_2) | (show (Addr.add _ _).block ≠ _; rw [add_block]; exact hn157_2) | exact hn157_2) (.int .i64 ((rd_T32 t130 x12_3).f2))).trans hx157_0; replace hx157_1 := (cell_far (p := ⟨gb155, 2, none⟩) (by first | (rw [add_block]; exact hn157_2) | (show (Addr.add _ _).block ≠ _; rw [add_block]; exact hn157_2) | exact hn157_2) (.int .i64 ((rd_T32 t130 x12_3).f2))).trans hx157_1; replace hx157_2 := (cell_far (p := ⟨gb155, 2, none⟩) (by first | (rw [add_block]; exact hn157_2) | (show (Addr.add _ _).block ≠ _; rw [add_block]; exact hn157_2) | exact hn157_2) (.int .i64 ((rd_T32 t130 x12_3).f2))).trans hx157_2; replace hx157_3 := (cell_far (p := ⟨gb155, 2, none⟩) (by first | (rw [add_block]; exact hn157_2) | (show (Addr.add _ _).block ≠ _; rw [add_block]; exact hn157_2) | exact hn157_2) (.int .i64 ((rd_T32 t130 x12_3).f2))).trans hx157_3; replace hx157_0 := (cell_far (p := ⟨gb155, 3, none⟩) (by first | (rw [add_block]; exact hn157_3) | (show (Addr.add _ _).block ≠ _; rw [add_block]; exact hn157_3) | exact hn157_3) (.int .i64 ((rd_T32 t130 x12_3).f3))).trans hx157_0; replace hx157_1 := (cell_far (p := ⟨gb155, 3, none⟩) (by first | (rw [add_block]; exact hn157_3) | (show (Addr.add _ _).block ≠ _; rw [add_block]; exact hn157_3) | exact hn157_3) (.int .i64 ((rd_T32 t130 x12_3).f3))).trans hx157_1; replace hx157_2 := (cell_far (p := ⟨gb155, 3, none⟩) (by first | (rw [add_block]; exact hn157_3) | (show (Addr.add _ _).block ≠ _; rw [add_block]; exact hn157_3) | exact hn157_3) (.int .i64 ((rd_T32 t130 x12_3).f3))).trans hx157_2; replace hx157_3 := (cell_far (p := ⟨gb155, 3, none⟩) (by first | (rw [add_block]; exact hn157_3) | (show (Addr.add _ _).block ≠ _; rw [add_block]; exact hn157_3) | exact hn157_3) (.int .i64 ((rd_T32 t130 x12_3).f3))).trans hx157_3; replace hx157_0 := (cell_far (p := ⟨gb155, 3, none⟩) (by first | (rw [add_block]; exact hn157_4) | (show (Addr.add _ _).block ≠ _; rw [add_block]; exact hn157_4) | exact hn157_4) (.int .i64 (rd x7_1 x12_3))).trans hx157_0; replace hx157_1 := (cell_far (p := ⟨gb155, 3, none⟩) (by first | (rw [add_block]; exact hn157_4) | (show (Addr.add _ _).block ≠ _; rw [add_block]; exact hn157_4) | exact hn157_4) (.int .i64 (rd x7_1 x12_3))).trans hx157_1; replace hx157_2 := (cell_far (p := ⟨gb155, 3, none⟩) (by first | (rw [add_block]; exact hn157_4) | (show (Addr.add _ _).block ≠ _; rw [add_block]; exact hn157_4) | exact hn157_4) (.int .i64 (rd x7_1 x12_3))).trans hx157_2; replace hx157_3 := (cell_far (p := ⟨gb155, 3, none⟩) (by first | (rw [add_block]; exact hn157_4) | (show (Addr.add _ _).block ≠ _; rw [add_block]; exact hn157_4) | exact hn157_4) (.int .i64 (rd x7_1 x12_3))).trans hx157_3; (try have hy157_0 := fun (n_ : Nat) => (show (((((((w51.drewN n_).setCell ⟨gb155, 0, none⟩ (.int .i64 ((rd_T32 t130 x12_3).f0))).setCell ⟨gb155, 1, none⟩ (.string ((rd_T32 t130 x12_3).f1))).setCell ⟨gb155, 2, none⟩ (.int .i64 ((rd_T32 t130 x12_3).f2))).setCell ⟨gb155, 3, none⟩ (.int .i64 ((rd_T32 t130 x12_3).f3))).setCell ⟨gb155, 3, none⟩ (.int .i64 (rd x7_1 x12_3)))).cell? _ = some _ from hx157_0)); (try have hy157_1 := fun (n_ : Nat) => (show (((((((w51.drewN n_).setCell ⟨gb155, 0, none⟩ (.int .i64 ((rd_T32 t130 x12_3).f0))).setCell ⟨gb155, 1, none⟩ (.string ((rd_T32 t130 x12_3).f1))).setCell ⟨gb155, 2, none⟩ (.int .i64 ((rd_T32 t130 x12_3).f2))).setCell ⟨gb155, 3, none⟩ (.int .i64 ((rd_T32 t130 x12_3).f3))).setCell ⟨gb155, 3, none⟩ (.int .i64 (rd x7_1 x12_3)))).cell? _ = some _ from hx157_1)); (try have hy157_2 := fun (n_ : Nat) => (show (((((((w51.drewN n_).setCell ⟨gb155, 0, none⟩ (.int .i64 ((rd_T32 t130 x12_3).f0))).setCell ⟨gb155, 1, none⟩ (.string ((rd_T32 t130 x12_3).f1))).setCell ⟨gb155, 2, none⟩ (.int .i64 ((rd_T32 t130 x12_3).f2))).setCell ⟨gb155, 3, none⟩ (.int .i64 ((rd_T32 t130 x12_3).f3))).setCell ⟨gb155, 3, none⟩ (.int .i64 (rd x7_1 x12_3)))).cell? _ = some _ from hx157_2)); (try have hy157_3 := fun (n_ : Nat) => (show (((((((w51.drewN n_).setCell ⟨gb155, 0, none⟩ (.int .i64 ((rd_T32 t130 x12_3).f0))).setCell ⟨gb155, 1, none⟩ (.string ((rd_T32 t130 x12_3).f1))).setCell ⟨gb155, 2, none⟩ (.int .i64 ((rd_T32 t130 x12_3).f2))).setCell ⟨gb155, 3, none⟩ (.int .i64 ((rd_T32 t130 x12_3).f3))).setCell ⟨gb155, 3, none⟩ (.int .i64 (rd x7_1 x12_3)))).cell? _ = some _ from hx157_3)); clear hn157_0; clear hn157_1; clear hn157_2; clear hn157_3; clear hn157_4; replace p157 := eq_true p157; replace q157 := eq_true q157))
                                  go_ret
                                  exact ⟨by first | rfl | (simp [errW_none, errW_some] <;> rfl) | (simp [*, errW_none, errW_some] <;> rfl), by repeat (first | (with_reducible first | exact HB.out | apply below_alloc | apply pw_below_drewN | apply below_drew1 | refine below_set ?_ GE155.out) | exact HB.out)⟩
                                · rw [if_neg c49] at H
                                  have c49b0 : (!(((rd_T32 t149 x12_3).f0) == ((rd_T32 t130 x12_3).f0)) || (!((((rd_T32 t149 x12_3).f1).toList) == (((rd_T32 t130 x12_3).f1).toList)) || (!(((rd_T32 t149 x12_3).f2) == ((rd_T32 t130 x12_3).f2)) || (!(((rd_T32 t149 x12_3).f3) == (rd x7_1 x12_3)))))) = false := by simpa using c49
                                  clear c49
                                  have H' := Aside0.mk H
                                  clear H
                                  obtain ⟨Ao54, co54, eo54⟩ := Kd.R_slice HO_9.out
                                  subst eo54
                                  have p154 : 0 ≤ (x12_3 : Int) := of_decide_eq_true (by first | (with_reducible assumption) | assumption)
                                  have q154 : x12_3 < (t130.length : Int) := of_decide_eq_true (by first | (with_reducible assumption) | assumption)
                                  obtain ⟨ad154, e154, hx154_0, hx154_1, hx154_2, hx154_3⟩ := at_T32 (Kd.R_reads' HO_3.out).2.2 x12_3 p154 q154
                                  cases e154
                                  replace p154 := eq_true p154
                                  replace q154 := eq_true q154
                                  go_wp2_with (first | ((with_reducible refine gate_dst (N := 13) rfl ?_); (try (refine gate_guard (by rfl) ?_; dsimp only)); refine box_event ?hg (N := 13) ?hd (cs := #[.int .i64 0, .string (⟨#[]⟩ : ByteArray), .int .i64 0, .int .i64 0]) (t := 32) ?hr ?_; (case hd => rfl); (case hg => rfl); (case hr => first | (go_simp; done) | (go_simp; rfl)); intro gb155 hg w55 hbox hb; have n0_ := Aside0.mk (Kd.R_below (Kd.R_elderB (by (with_reducible repeat (first | apply Kd.R_alloc | apply Kd.R_drewN | apply Kd.R_drew)); exact HO_3.out) gb155 (Nat.le_of_eq hg.symm)) hb); have n1_ := Aside0.mk (Kd.R_below (by (with_reducible repeat (first | apply Kd.R_alloc | apply Kd.R_drewN | apply Kd.R_drew)); exact HO_7.out) hb); have n2_ := Aside0.mk (Kd.R_below (Kd.R_elderB (by (with_reducible repeat (first | apply Kd.R_alloc | apply Kd.R_drewN | apply Kd.R_drew)); exact HO_9.out) gb155 (Nat.le_of_eq hg.symm)) hb); have n3_ := Aside0.mk (below_step (by repeat (first | (with_reducible first | exact HB.out | apply below_alloc | apply pw_below_drewN | apply below_drew1) | exact HB.out)) hb); have n4_ := Aside0.mk (hbox); have n5_ := Aside0.mk ((by rw [hg]; exact (below_size (by repeat (first | (with_reducible first | exact HB.out | apply below_alloc | apply pw_below_drewN | apply below_drew1) | exact HB.out))) : w.heap.size ≤ gb155)); have n6_ := Aside0.mk ((by rw [hg]; exact (below_size (by repeat (first | (with_reducible first | exact HB.out | apply below_alloc | apply pw_below_drewN | apply below_drew1) | exact HB.out))) : w.heap.size ≤ gb155)); clear HO_3; clear HO_7; clear HO_9; clear HB; have HO_3 := n0_; have HO_7 := n1_; have HO_9 := n2_; have HB := n3_; have BK155 := n4_; have GW155 := n5_; have GE155 := n6_; clear n0_ n1_ n2_ n3_ n4_ n5_ n6_; clear hb hbox hg; have hcz56_0 : w55.cell? ⟨gb155, 0, none⟩ = some (.int .i64 0) := (blk_cell BK155.out 0).trans rfl; have hcz56_1 : w55.cell? ⟨gb155, 1, none⟩ = some (.string (⟨#[]⟩ : ByteArray)) := (blk_cell BK155.out 1).trans rfl; have hcz56_2 : w55.cell? ⟨gb155, 2, none⟩ = some (.int .i64 0) := (blk_cell BK155.out 2).trans rfl; have hcz56_3 : w55.cell? ⟨gb155, 3, none⟩ = some (.int .i64 0) := (blk_cell BK155.out 3).trans rfl; have hfz56_0 := blk_frozen BK155.out 0; have hfz56_1 := blk_frozen BK155.out 1; have hfz56_2 := blk_frozen BK155.out 2; have hfz56_3 := blk_frozen BK155.out 3; obtain ⟨Ao57, co57, eo57⟩ := Kd.R_slice HO_7.out; subst eo57; have p156 : 0 ≤ (x12_3 : Int) := of_decide_eq_true (by first | (with_reducible assumption) | assumption); have q156 : x12_3 < (x7_1.length : Int) := of_decide_eq_true (by first | (with_reducible assumption) | assumption); obtain ⟨ad156, e156, hx156_0⟩ := Kd.at_int (Kd.R_reads' HO_7.out).2.2 x12_3 p156 q156; cases e156; have hn156_0 : ad156.block ≠ gb155 := Kd.own_blk (Kd.R_ne HO_7.out BK155.out (by decide)); have hn156_1 : ad156.block ≠ gb155 := Kd.own_blk (Kd.R_ne HO_7.out BK155.out (by decide)); have hn156_2 : ad156.block ≠ gb155 := Kd.own_blk (Kd.R_ne HO_7.out BK155.out (by decide)); have hn156_3 : ad156.block ≠ gb155 := Kd.own_blk (Kd.R_ne HO_7.out BK155.out (by decide)); replace hx156_0 := (cell_far (p := ⟨gb155, 0, none⟩) (by first | (rw [add_block]; exact hn156_0) | (show (Addr.add _ _).block ≠ _; rw [add_block]; exact hn156_0) | exact hn156_0) (.int .i64 ((rd_T32 t130 x12_3).f0))).trans hx156_0; replace hx156_0 := (cell_far (p := ⟨gb155, 1, none⟩) (by first | (rw [add_block]; exact hn156_1) | (show (Addr.add _ _).block ≠ _; rw [add_block]; exact hn156_1) | exact hn156_1) (.string ((rd_T32 t130 x12_3).f1))).trans hx156_0; replace hx156_0 := (cell_far (p := ⟨gb155, 2, none⟩) (by first | (rw [add_block]; exact hn156_2) | (show (Addr.add _ _).block ≠ _; rw [add_block]; exact hn156_2) | exact hn156_2) (.int .i64 ((rd_T32 t130 x12_3).f2))).trans hx156_0; replace hx156_0 := (cell_far (p := ⟨gb155, 3, none⟩) (by first | (rw [add_block]; exact hn156_3) | (show (Addr.add _ _).block ≠ _; rw [add_block]; exact hn156_3) | exact hn156_3) (.int .i64 ((rd_T32 t130 x12_3).f3))).trans hx156_0; (try have hy156_0 := fun (n_ : Nat) => (show ((((((w55.drewN n_).setCell ⟨gb155, 0, none⟩ (.int .i64 ((rd_T32 t130 x12_3).f0))).setCell ⟨gb155, 1, none⟩ (.string ((rd_T32 t130 x12_3).f1))).setCell ⟨gb155, 2, none⟩ (.int .i64 ((rd_T32 t130 x12_3).f2))).setCell ⟨gb155, 3, none⟩ (.int .i64 ((rd_T32 t130 x12_3).f3)))).cell? _ = some _ from hx156_0)); clear hn156_0; clear hn156_1; clear hn156_2; clear hn156_3; replace p156 := eq_true p156; replace q156 := eq_true q156; have p157 : 0 ≤ (x12_3 : Int) := of_decide_eq_true (by first | (with_reducible assumption) | assumption); have q157 : x12_3 < (t149.length : Int) := of_decide_eq_true (by first | (with_reducible assumption) | assumption); obtain ⟨ad157, e157, hx157_0, hx157_1, hx157_2, hx157_3⟩ := at_T32 (Kd.R_reads' HO_9.out).2.2 x12_3 p157 q157; cases e157; have hn157_0 : ad157.block ≠ gb155 := Kd.own_blk (Kd.R_away HO_9.out (fun _ hk => hk.2)); have hn157_1 : ad157.block ≠ gb155 := Kd.own_blk (Kd.R_away HO_9.out (fun _ hk => hk.2)); have hn157_2 : ad157.block ≠ gb155 := Kd.own_blk (Kd.R_away HO_9.out (fun _ hk => hk.2)); have hn157_3 : ad157.block ≠ gb155 := Kd.own_blk (Kd.R_away HO_9.out (fun _ hk => hk.2)); have hn157_4 : ad157.block ≠ gb155 := Kd.own_blk (Kd.R_away HO_9.out (fun _ hk => hk.2)); replace hx157_0 := (cell_far (p := ⟨gb155, 0, none⟩) (by first | (rw [add_block]; exact hn157_0) | (show (Addr.add _ _).block ≠ _; rw [add_block]; exact hn157_0) | exact hn157_0) (.int .i64 ((rd_T32 t130 x12_3).f0))).trans hx157_0; replace hx157_1 := (cell_far (p := ⟨gb155, 0, none⟩) (by first | (rw [add_block]; exact hn157_0) | (show (Addr.add _ _).block ≠ _; rw [add_block]; exact hn157_0) | exact hn157_0) (.int .i64 ((rd_T32 t130 x12_3).f0))).trans hx157_1; replace hx157_2 := (cell_far (p := ⟨gb155, 0, none⟩) (by first | (rw [add_block]; exact hn157_0) | (show (Addr.add _ _).block ≠ _; rw [add_block]; exact hn157_0) | exact hn157_0) (.int .i64 ((rd_T32 t130 x12_3).f0))).trans hx157_2; replace hx157_3 := (cell_far (p := ⟨gb155, 0, none⟩) (by first | (rw [add_block]; exact hn157_0) | (show (Addr.add _ _).block ≠ _; rw [add_block]; exact hn157_0) | exact hn157_0) (.int .i64 ((rd_T32 t130 x12_3).f0))).trans hx157_3; replace hx157_0 := (cell_far (p := ⟨gb155, 1, none⟩) (by first | (rw [add_block]; exact hn157_1) | (show (Addr.add _ _).block ≠ _; rw [add_block]; exact hn157_1) | exact hn157_1) (.string ((rd_T32 t130 x12_3).f1))).trans hx157_0; replace hx157_1 := (cell_far (p := ⟨gb155, 1, none⟩) (by first | (rw [add_block]; exact hn157_1) | (show (Addr.add _ _).block ≠ _; rw [add_block]; exact hn157_1) | exact hn157_1) (.string ((rd_T32 t130 x12_3).f1))).trans hx157_1; replace hx157_2 := (cell_far (p := ⟨gb155, 1, none⟩) (by first | (rw [add_block]; exact hn157_1) | (show (Addr.add _ _).block ≠ _; rw [add_block]; exact hn157_1) | exact hn157_1) (.string ((rd_T32 t130 x12_3).f1))).trans hx157_2; replace hx157_3 := (cell_far (p := ⟨gb155, 1, none⟩) (by first | (rw [add_block]; exact hn157_1) | (show (Addr.add _ _).block ≠ _; rw [add_block]; exact hn157_1) | exact hn157_1) (.string ((rd_T32 t130 x12_3).f1))).trans hx157_3; replace hx157_0 := (cell_far (p := ⟨gb155, 2, none⟩) (by first | (rw [add_block]; exact hn157_2) | (show (Addr.add _ _).block ≠ _; rw [add_block]; exact hn157_2) | exact hn157_2) (.int .i64 ((rd_T32 t130 x12_3).f2))).trans hx157_0; replace hx157_1 := (cell_far (p := ⟨gb155, 2, none⟩) (by first | (rw [add_block]; exact hn157_2) | (show (Addr.add _ _).block ≠ _; rw [add_block]; exact hn157_2) | exact hn157_2) (.int .i64 ((rd_T32 t130 x12_3).f2))).trans hx157_1; replace hx157_2 := (cell_far (p := ⟨gb155, 2, none⟩) (by first | (rw [add_block]; exact hn157_2) | (show (Addr.add _ _).block ≠ _; rw [add_block]; exact hn157_2) | exact hn157_2) (.int .i64 ((rd_T32 t130 x12_3).f2))).trans hx157_2; replace hx157_3 := (cell_far (p := ⟨gb155, 2, none⟩) (by first | (rw [add_block]; exact hn157_2) | (show (Addr.add _ _).block ≠ _; rw [add_block]; exact hn157_2) | exact hn157_2) (.int .i64 ((rd_T32 t130 x12_3).f2))).trans hx157_3; replace hx157_0 := (cell_far (p := ⟨gb155, 3, none⟩) (by first | (rw [add_block]; exact hn157_3) | (show (Addr.add _ _).block ≠ _; rw [add_block]; exact hn157_3) | exact hn157_3) (.int .i64 ((rd_T32 t130 x12_3).f3))).trans hx157_0; replace hx157_1 := (cell_far (p := ⟨gb155, 3, none⟩) (by first | (rw [add_block]; exact hn157_3) | (show (Addr.add _ _).block ≠ _; rw [add_block]; exact hn157_3) | exact hn157_3) (.int .i64 ((rd_T32 t130 x12_3).f3))).trans hx157_1; replace hx157_2 := (cell_far (p := ⟨gb155, 3, none⟩) (by first | (rw [add_block]; exact hn157_3) | (show (Addr.add _ _).block ≠ _; rw [add_block]; exact hn157_3) | exact hn157_3) (.int .i64 ((rd_T32 t130 x12_3).f3))).trans hx157_2; replace hx157_3 := (cell_far (p := ⟨gb155, 3, none⟩) (by first | (rw [add_block]; exact hn157_3) | (show (Addr.add _ _).block ≠ _; rw [add_block]; exact hn157_3) | exact hn157_3) (.int .i64 ((rd_T32 t130 x12_3).f3))).trans hx157_3; replace hx157_0 := (cell_far (p := ⟨gb155, 3, none⟩) (by first | (rw [add_block]; exact hn157_4) | (show (Addr.add _ _).block ≠ _; rw [add_block]; exact hn157_4) | exact hn157_4) (.int .i64 (rd x7_1 x12_3))).trans hx157_0; replace hx157_1 := (cell_far (p := ⟨gb155, 3, none⟩) (by first | (rw [add_block]; exact hn157_4) | (show (Addr.add _ _).block ≠ _; rw [add_block]; exact hn157_4) | exact hn157_4) (.int .i64 (rd x7_1 x12_3))).trans hx157_1; replace hx157_2 := (cell_far (p := ⟨gb155, 3, none⟩) (by first | (rw [add_block]; exact hn157_4) | (show (Addr.add _ _).block ≠ _; rw [add_block]; exact hn157_4) | exact hn157_4) (.int .i64 (rd x7_1 x12_3))).trans hx157_2; replace hx157_3 := (cell_far (p := ⟨gb155, 3, none⟩) (by first | (rw [add_block]; exact hn157_4) | (show (Addr.add _ _).block ≠ _; rw [add_block]; exact hn157_4) | exact hn157_4) (.int .i64 (rd x7_1 x12_3))).trans hx157_3; (try have hy157_0 := fun (n_ : Nat) => (show (((((((w55.drewN n_).setCell ⟨gb155, 0, none⟩ (.int .i64 ((rd_T32 t130 x12_3).f0))).setCell ⟨gb155, 1, none⟩ (.string ((rd_T32 t130 x12_3).f1))).setCell ⟨gb155, 2, none⟩ (.int .i64 ((rd_T32 t130 x12_3).f2))).setCell ⟨gb155, 3, none⟩ (.int .i64 ((rd_T32 t130 x12_3).f3))).setCell ⟨gb155, 3, none⟩ (.int .i64 (rd x7_1 x12_3)))).cell? _ = some _ from hx157_0)); (try have hy157_1 := fun (n_ : Nat) => (show (((((((w55.drewN n_).setCell ⟨gb155, 0, none⟩ (.int .i64 ((rd_T32 t130 x12_3).f0))).setCell ⟨gb155, 1, none⟩ (.string ((rd_T32 t130 x12_3).f1))).setCell ⟨gb155, 2, none⟩ (.int .i64 ((rd_T32 t130 x12_3).f2))).setCell ⟨gb155, 3, none⟩ (.int .i64 ((rd_T32 t130 x12_3).f3))).setCell ⟨gb155, 3, none⟩ (.int .i64 (rd x7_1 x12_3)))).cell? _ = some _ from hx157_1)); (try have hy157_2 := fun (n_ : Nat) => (show (((((((w55.drewN n_).setCell ⟨gb155, 0, none⟩ (.int .i64 ((rd_T32 t130 x12_3).f0))).setCell ⟨gb155, 1, none⟩ (.string ((rd_T32 t130 x12_3).f1))).setCell ⟨gb155, 2, none⟩ (.int .i64 ((rd_T32 t130 x12_3).f2))).setCell ⟨gb155, 3, none⟩ (.int .i64 ((rd_T32 t130 x12_3).f3))).setCell ⟨gb155, 3, none⟩ (.int .i64 (rd x7_1 x12_3)))).cell? _ = some _ from hx157_2)); (try have hy157_3 := fun (n_ : Nat) => (show (((((((w55.drewN n_).setCell ⟨gb155, 0, none⟩ (.int .i64 ((rd_T32 t130 x12_3).f0))).setCell ⟨gb155, 1, none⟩ (.string ((rd_T32 t130 x12_3).f1))).setCell ⟨gb155, 2, none⟩ (.int .i64 ((rd_T32 t130 x12_3).f2))).setCell ⟨gb155, 3, none⟩ (.int .i64 ((rd_T32 t130 x12_3).f3))).setCell ⟨gb155, 3, none⟩ (.int .i64 (rd x7_1 x12_3)))).cell? _ = some _ from hx157_3)); clear hn157_0; clear hn157_1; clear hn157_2; clear hn157_3; clear hn157_4; replace p157 := eq_true p157; replace q157 := eq_true q157))
                                  refine Plus.hide_world fun W' hW' => ?_
                                  obtain ⟨hb0, hb1, hb2, hb3⟩ := Plus.box4 hW'.out hcz56_0 hcz56_1 hcz56_2 hcz56_3
                                  rw [hW'.out] at hx157_0 hx157_1 hx157_2 hx157_3
                                  try clear hy157_0 hy157_1 hy157_2 hy157_3
                                  go_quiet (fail)
                                  have hw := hW'.out
                                  subst hw
                                  try go_wp2_with (first | ((with_reducible refine gate_dst (N := 13) rfl ?_); (try (refine gate_guard (by rfl) ?_; dsimp only)); refine box_event ?hg (N := 13) ?hd (cs := #[.int .i64 0, .string (⟨#[]⟩ : ByteArray), .int .i64 0, .int .i64 0]) (t := 32) ?hr ?_; (case hd => rfl); (case hg => rfl); (case hr => first | (go_simp; done) | (go_simp; rfl)); intro gb155 hg w55 hbox hb; have n0_ := Aside0.mk (Kd.R_below (Kd.R_elderB (by (with_reducible repeat (first | apply Kd.R_alloc | apply Kd.R_drewN | apply Kd.R_drew)); exact HO_3.out) gb155 (Nat.le_of_eq hg.symm)) hb); have n1_ := Aside0.mk (Kd.R_below (by (with_reducible repeat (first | apply Kd.R_alloc | apply Kd.R_drewN | apply Kd.R_drew)); exact HO_7.out) hb); have n2_ := Aside0.mk (Kd.R_below (Kd.R_elderB (by (with_reducible repeat (first | apply Kd.R_alloc | apply Kd.R_drewN | apply Kd.R_drew)); exact HO_9.out) gb155 (Nat.le_of_eq hg.symm)) hb); have n3_ := Aside0.mk (below_step (by repeat (first | (with_reducible first | exact HB.out | apply below_alloc | apply pw_below_drewN | apply below_drew1) | exact HB.out)) hb); have n4_ := Aside0.mk (hbox); have n5_ := Aside0.mk ((by rw [hg]; exact (below_size (by repeat (first | (with_reducible first | exact HB.out | apply below_alloc | apply pw_below_drewN | apply below_drew1) | exact HB.out))) : w.heap.size ≤ gb155)); have n6_ := Aside0.mk ((by rw [hg]; exact (below_size (by repeat (first | (with_reducible first | exact HB.out | apply below_alloc | apply pw_below_drewN | apply below_drew1) | exact HB.out))) : w.heap.size ≤ gb155)); clear HO_3; clear HO_7; clear HO_9; clear HB; have HO_3 := n0_; have HO_7 := n1_; have HO_9 := n2_; have HB := n3_; have BK155 := n4_; have GW155 := n5_; have GE155 := n6_; clear n0_ n1_ n2_ n3_ n4_ n5_ n6_; clear hb hbox hg; have hcz56_0 : w55.cell? ⟨gb155, 0, none⟩ = some (.int .i64 0) := (blk_cell BK155.out 0).trans rfl; have hcz56_1 : w55.cell? ⟨gb155, 1, none⟩ = some (.string (⟨#[]⟩ : ByteArray)) := (blk_cell BK155.out 1).trans rfl; have hcz56_2 : w55.cell? ⟨gb155, 2, none⟩ = some (.int .i64 0) := (blk_cell BK155.out 2).trans rfl; have hcz56_3 : w55.cell? ⟨gb155, 3, none⟩ = some (.int .i64 0) := (blk_cell BK155.out 3).trans rfl; have hfz56_0 := blk_frozen BK155.out 0; have hfz56_1 := blk_frozen BK155.out 1; have hfz56_2 := blk_frozen BK155.out 2; have hfz56_3 := blk_frozen BK155.out 3; obtain ⟨Ao57, co57, eo57⟩ := Kd.R_slice HO_7.out; subst eo57; have p156 : 0 ≤ (x12_3 : Int) := of_decide_eq_true (by first | (with_reducible assumption) | assumption); have q156 : x12_3 < (x7_1.length : Int) := of_decide_eq_true (by first | (with_reducible assumption) | assumption); obtain ⟨ad156, e156, hx156_0⟩ := Kd.at_int (Kd.R_reads' HO_7.out).2.2 x12_3 p156 q156; cases e156; have hn156_0 : ad156.block ≠ gb155 := Kd.own_blk (Kd.R_ne HO_7.out BK155.out (by decide)); have hn156_1 : ad156.block ≠ gb155 := Kd.own_blk (Kd.R_ne HO_7.out BK155.out (by decide)); have hn156_2 : ad156.block ≠ gb155 := Kd.own_blk (Kd.R_ne HO_7.out BK155.out (by decide)); have hn156_3 : ad156.block ≠ gb155 := Kd.own_blk (Kd.R_ne HO_7.out BK155.out (by decide)); replace hx156_0 := (cell_far (p := ⟨gb155, 0, none⟩) (by first | (rw [add_block]; exact hn156_0) | (show (Addr.add _ _).block ≠ _; rw [add_block]; exact hn156_0) | exact hn156_0) (.int .i64 ((rd_T32 t130 x12_3).f0))).trans hx156_0; replace hx156_0 := (cell_far (p := ⟨gb155, 1, none⟩) (by first | (rw [add_block]; exact hn156_1) | (show (Addr.add _ _).block ≠ _; rw [add_block]; exact hn156_1) | exact hn156_1) (.string ((rd_T32 t130 x12_3).f1))).trans hx156_0; replace hx156_0 := (cell_far (p := ⟨gb155, 2, none⟩) (by first | (rw [add_block]; exact hn156_2) | (show (Addr.add _ _).block ≠ _; rw [add_block]; exact hn156_2) | exact hn156_2) (.int .i64 ((rd_T32 t130 x12_3).f2))).trans hx156_0; replace hx156_0 := (cell_far (p := ⟨gb155, 3, none⟩) (by first | (rw [add_block]; exact hn156_3) | (show (Addr.add _ _).block ≠ _; rw [add_block]; exact hn156_3) | exact hn156_3) (.int .i64 ((rd_T32 t130 x12_3).f3))).trans hx156_0; (try have hy156_0 := fun (n_ : Nat) => (show ((((((w55.drewN n_).setCell ⟨gb155, 0, none⟩ (.int .i64 ((rd_T32 t130 x12_3).f0))).setCell ⟨gb155, 1, none⟩ (.string ((rd_T32 t130 x12_3).f1))).setCell ⟨gb155, 2, none⟩ (.int .i64 ((rd_T32 t130 x12_3).f2))).setCell ⟨gb155, 3, none⟩ (.int .i64 ((rd_T32 t130 x12_3).f3)))).cell? _ = some _ from hx156_0)); clear hn156_0; clear hn156_1; clear hn156_2; clear hn156_3; replace p156 := eq_true p156; replace q156 := eq_true q156; have p157 : 0 ≤ (x12_3 : Int) := of_decide_eq_true (by first | (with_reducible assumption) | assumption); have q157 : x12_3 < (t149.length : Int) := of_decide_eq_true (by first | (with_reducible assumption) | assumption); obtain ⟨ad157, e157, hx157_0, hx157_1, hx157_2, hx157_3⟩ := at_T32 (Kd.R_reads' HO_9.out).2.2 x12_3 p157 q157; cases e157; have hn157_0 : ad157.block ≠ gb155 := Kd.own_blk (Kd.R_away HO_9.out (fun _ hk => hk.2)); have hn157_1 : ad157.block ≠ gb155 := Kd.own_blk (Kd.R_away HO_9.out (fun _ hk => hk.2)); have hn157_2 : ad157.block ≠ gb155 := Kd.own_blk (Kd.R_away HO_9.out (fun _ hk => hk.2)); have hn157_3 : ad157.block ≠ gb155 := Kd.own_blk (Kd.R_away HO_9.out (fun _ hk => hk.2)); have hn157_4 : ad157.block ≠ gb155 := Kd.own_blk (Kd.R_away HO_9.out (fun _ hk => hk.2)); replace hx157_0 := (cell_far (p := ⟨gb155, 0, none⟩) (by first | (rw [add_block]; exact hn157_0) | (show (Addr.add _ _).block ≠ _; rw [add_block]; exact hn157_0) | exact hn157_0) (.int .i64 ((rd_T32 t130 x12_3).f0))).trans hx157_0; replace hx157_1 := (cell_far (p := ⟨gb155, 0, none⟩) (by first | (rw [add_block]; exact hn157_0) | (show (Addr.add _ _).block ≠ _; rw [add_block]; exact hn157_0) | exact hn157_0) (.int .i64 ((rd_T32 t130 x12_3).f0))).trans hx157_1; replace hx157_2 := (cell_far (p := ⟨gb155, 0, none⟩) (by first | (rw [add_block]; exact hn157_0) | (show (Addr.add _ _).block ≠ _; rw [add_block]; exact hn157_0) | exact hn157_0) (.int .i64 ((rd_T32 t130 x12_3).f0))).trans hx157_2; replace hx157_3 := (cell_far (p := ⟨gb155, 0, none⟩) (by first | (rw [add_block]; exact hn157_0) | (show (Addr.add _ _).block ≠ _; rw [add_block]; exact hn157_0) | exact hn157_0) (.int .i64 ((rd_T32 t130 x12_3).f0))).trans hx157_3; replace hx157_0 := (cell_far (p := ⟨gb155, 1, none⟩) (by first | (rw [add_block]; exact hn157_1) | (show (Addr.add _ _).block ≠ _; rw [add_block]; exact hn157_1) | exact hn157_1) (.string ((rd_T32 t130 x12_3).f1))).trans hx157_0; replace hx157_1 := (cell_far (p := ⟨gb155, 1, none⟩) (by first | (rw [add_block]; exact hn157_1) | (show (Addr.add _ _).block ≠ _; rw [add_block]; exact hn157_1) | exact hn157_1) (.string ((rd_T32 t130 x12_3).f1))).trans hx157_1; replace hx157_2 := (cell_far (p := ⟨gb155, 1, none⟩) (by first | (rw [add_block]; exact hn157_1) | (show (Addr.add _ _).block ≠ _; rw [add_block]; exact hn157_1) | exact hn157_1) (.string ((rd_T32 t130 x12_3).f1))).trans hx157_2; replace hx157_3 := (cell_far (p := ⟨gb155, 1, none⟩) (by first | (rw [add_block]; exact hn157_1) | (show (Addr.add _ _).block ≠ _; rw [add_block]; exact hn157_1) | exact hn157_1) (.string ((rd_T32 t130 x12_3).f1))).trans hx157_3; replace hx157_0 := (cell_far (p := ⟨gb155, 2, none⟩) (by first | (rw [add_block]; exact hn157_2) | (show (Addr.add _ _).block ≠ _; rw [add_block]; exact hn157_2) | exact hn157_2) (.int .i64 ((rd_T32 t130 x12_3).f2))).trans hx157_0; replace hx157_1 := (cell_far (p := ⟨gb155, 2, none⟩) (by first | (rw [add_block]; exact hn157_2) | (show (Addr.add _ _).block ≠ _; rw [add_block]; exact hn157_2) | exact hn157_2) (.int .i64 ((rd_T32 t130 x12_3).f2))).trans hx157_1; replace hx157_2 := (cell_far (p := ⟨gb155, 2, none⟩) (by first | (rw [add_block]; exact hn157_2) | (show (Addr.add _ _).block ≠ _; rw [add_block]; exact hn157_2) | exact hn157_2) (.int .i64 ((rd_T32 t130 x12_3).f2))).trans hx157_2; replace hx157_3 := (cell_far (p := ⟨gb155, 2, none⟩) (by first | (rw [add_block]; exact hn157_2) | (show (Addr.add _ _).block ≠ _; rw [add_block]; exact hn157_2) | exact hn157_2) (.int .i64 ((rd_T32 t130 x12_3).f2))).trans hx157_3; replace hx157_0 := (cell_far (p := ⟨gb155, 3, none⟩) (by first | (rw [add_block]; exact hn157_3) | (show (Addr.add _ _).block ≠ _; rw [add_block]; exact hn157_3) | exact hn157_3) (.int .i64 ((rd_T32 t130 x12_3).f3))).trans hx157_0; replace hx157_1 := (cell_far (p := ⟨gb155, 3, none⟩) (by first | (rw [add_block]; exact hn157_3) | (show (Addr.add _ _).block ≠ _; rw [add_block]; exact hn157_3) | exact hn157_3) (.int .i64 ((rd_T32 t130 x12_3).f3))).trans hx157_1; replace hx157_2 := (cell_far (p := ⟨gb155, 3, none⟩) (by first | (rw [add_block]; exact hn157_3) | (show (Addr.add _ _).block ≠ _; rw [add_block]; exact hn157_3) | exact hn157_3) (.int .i64 ((rd_T32 t130 x12_3).f3))).trans hx157_2; replace hx157_3 := (cell_far (p := ⟨gb155, 3, none⟩) (by first | (rw [add_block]; exact hn157_3) | (show (Addr.add _ _).block ≠ _; rw [add_block]; exact hn157_3) | exact hn157_3) (.int .i64 ((rd_T32 t130 x12_3).f3))).trans hx157_3; replace hx157_0 := (cell_far (p := ⟨gb155, 3, none⟩) (by first | (rw [add_block]; exact hn157_4) | (show (Addr.add _ _).block ≠ _; rw [add_block]; exact hn157_4) | exact hn157_4) (.int .i64 (rd x7_1 x12_3))).trans hx157_0; replace hx157_1 := (cell_far (p := ⟨gb155, 3, none⟩) (by first | (rw [add_block]; exact hn157_4) | (show (Addr.add _ _).block ≠ _; rw [add_block]; exact hn157_4) | exact hn157_4) (.int .i64 (rd x7_1 x12_3))).trans hx157_1; replace hx157_2 := (cell_far (p := ⟨gb155, 3, none⟩) (by first | (rw [add_block]; exact hn157_4) | (show (Addr.add _ _).block ≠ _; rw [add_block]; exact hn157_4) | exact hn157_4) (.int .i64 (rd x7_1 x12_3))).trans hx157_2; replace hx157_3 := (cell_far (p := ⟨gb155, 3, none⟩) (by first | (rw [add_block]; exact hn157_4) | (show (Addr.add _ _).block ≠ _; rw [add_block]; exact hn157_4) | exact hn157_4) (.int .i64 (rd x7_1 x12_3))).trans hx157_3; (try have hy157_0 := fun (n_ : Nat) => (show (((((((w55.drewN n_).setCell ⟨gb155, 0, none⟩ (.int .i64 ((rd_T32 t130 x12_3).f0))).setCell ⟨gb155, 1, none⟩ (.string ((rd_T32 t130 x12_3).f1))).setCell ⟨gb155, 2, none⟩ (.int .i64 ((rd_T32 t130 x12_3).f2))).setCell ⟨gb155, 3, none⟩ (.int .i64 ((rd_T32 t130 x12_3).f3))).setCell ⟨gb155, 3, none⟩ (.int .i64 (rd x7_1 x12_3)))).cell? _ = some _ from hx157_0)); (try have hy157_1 := fun (n_ : Nat) => (show (((((((w55.drewN n_).setCell ⟨gb155, 0, none⟩ (.int .i64 ((rd_T32 t130 x12_3).f0))).setCell ⟨gb155, 1, none⟩ (.string ((rd_T32 t130 x12_3).f1))).setCell ⟨gb155, 2, none⟩ (.int .i64 ((rd_T32 t130 x12_3).f2))).setCell ⟨gb155, 3, none⟩ (.int .i64 ((rd_T32 t130 x12_3).f3))).setCell ⟨gb155, 3, none⟩ (.int .i64 (rd x7_1 x12_3)))).cell? _ = some _ from hx157_1)); (try have hy157_2 := fun (n_ : Nat) => (show (((((((w55.drewN n_).setCell ⟨gb155, 0, none⟩ (.int .i64 ((rd_T32 t130 x12_3).f0))).setCell ⟨gb155, 1, none⟩ (.string ((rd_T32 t130 x12_3).f1))).setCell ⟨gb155, 2, none⟩ (.int .i64 ((rd_T32 t130 x12_3).f2))).setCell ⟨gb155, 3, none⟩ (.int .i64 ((rd_T32 t130 x12_3).f3))).setCell ⟨gb155, 3, none⟩ (.int .i64 (rd x7_1 x12_3)))).cell? _ = some _ from hx157_2)); (try have hy157_3 := fun (n_ : Nat) => (show (((((((w55.drewN n_).setCell ⟨gb155, 0, none⟩ (.int .i64 ((rd_T32 t130 x12_3).f0))).setCell ⟨gb155, 1, none⟩ (.string ((rd_T32 t130 x12_3).f1))).setCell ⟨gb155, 2, none⟩ (.int .i64 ((rd_T32 t130 x12_3).f2))).setCell ⟨gb155, 3, none⟩ (.int .i64 ((rd_T32 t130 x12_3).f3))).setCell ⟨gb155, 3, none⟩ (.int .i64 (rd x7_1 x12_3)))).cell? _ = some _ from hx157_3)); clear hn157_0; clear hn157_1; clear hn157_2; clear hn157_3; clear hn157_4; replace p157 := eq_true p157; replace q157 := eq_true q157))
                                  go_roundg k3
                                  case measure => have := HK1.out; have := HJ37.out; have := HK3.out; omega
                                  case rel => exact ⟨(wrap64 (x12_3 + 1)), (by first | rfl | (simp; done) | (simp [*]; done)), H', ⟨by have := HK1.out; have := HJ37.out; have := HK3.out; omega⟩, ⟨by (with_reducible repeat (first | apply Kd.R_alloc | apply Kd.R_drewN | apply Kd.R_drew)); exact Kd.R_mono (Kd.R_far (p := ⟨gb155, 3, none⟩) (Kd.R_far (p := ⟨gb155, 3, none⟩) (Kd.R_far (p := ⟨gb155, 2, none⟩) (Kd.R_far (p := ⟨gb155, 1, none⟩) (Kd.R_far (p := ⟨gb155, 0, none⟩) (Kd.R_mono HO_3.out (fun k_ hk => (⟨hk, hk.2⟩ : _ ∧ k_ ≠ gb155))) (fun _ hk => hk.2) (.int .i64 ((rd_T32 t130 x12_3).f0))) (fun _ hk => hk.2) (.string ((rd_T32 t130 x12_3).f1))) (fun _ hk => hk.2) (.int .i64 ((rd_T32 t130 x12_3).f2))) (fun _ hk => hk.2) (.int .i64 ((rd_T32 t130 x12_3).f3))) (fun _ hk => hk.2) (.int .i64 (rd x7_1 x12_3))) (fun _ hk => hk.1.1)⟩, ⟨by (with_reducible repeat (first | apply Kd.R_alloc | apply Kd.R_drewN | apply Kd.R_drew)); exact Kd.R_mono (Kd.R_far (p := ⟨gb155, 3, none⟩) (Kd.R_far (p := ⟨gb155, 3, none⟩) (Kd.R_far (p := ⟨gb155, 2, none⟩) (Kd.R_far (p := ⟨gb155, 1, none⟩) (Kd.R_far (p := ⟨gb155, 0, none⟩) (Kd.R_types HO_7.out BK155.out (by decide)) (fun _ hk => hk.2) (.int .i64 ((rd_T32 t130 x12_3).f0))) (fun _ hk => hk.2) (.string ((rd_T32 t130 x12_3).f1))) (fun _ hk => hk.2) (.int .i64 ((rd_T32 t130 x12_3).f2))) (fun _ hk => hk.2) (.int .i64 ((rd_T32 t130 x12_3).f3))) (fun _ hk => hk.2) (.int .i64 (rd x7_1 x12_3))) (fun _ hk => trivial)⟩, ⟨by (with_reducible repeat (first | apply Kd.R_alloc | apply Kd.R_drewN | apply Kd.R_drew)); exact Kd.R_mono (Kd.R_far (p := ⟨gb155, 3, none⟩) (Kd.R_far (p := ⟨gb155, 3, none⟩) (Kd.R_far (p := ⟨gb155, 2, none⟩) (Kd.R_far (p := ⟨gb155, 1, none⟩) (Kd.R_far (p := ⟨gb155, 0, none⟩) (Kd.R_mono HO_9.out (fun k_ hk => (⟨hk, hk.2⟩ : _ ∧ k_ ≠ gb155))) (fun _ hk => hk.2) (.int .i64 ((rd_T32 t130 x12_3).f0))) (fun _ hk => hk.2) (.string ((rd_T32 t130 x12_3).f1))) (fun _ hk => hk.2) (.int .i64 ((rd_T32 t130 x12_3).f2))) (fun _ hk => hk.2) (.int .i64 ((rd_T32 t130 x12_3).f3))) (fun _ hk => hk.2) (.int .i64 (rd x7_1 x12_3))) (fun _ hk => hk.1.1)⟩, ⟨by repeat (first | (with_reducible first | exact HB.out | apply below_alloc | apply pw_below_drewN | apply below_drew1 | refine below_set ?_ GE155.out) | exact HB.out)⟩⟩
                              · rw [if_neg c48] at H
                                exact absurd H (by simp)
                            · rw [if_neg c47] at H
                              exact absurd H (by simp)
                          · rw [if_neg c46] at H
                            exact absurd H (by simp)
                        · rw [if_neg c45] at H
                          have c45b0 : decide (x12_3 < (t149.length : Int)) = false := decide_eq_false c45
                          clear c45
                          obtain rfl := Option.some.inj H
                          obtain ⟨Ao58, co58, eo58⟩ := Kd.R_slice HO_9.out
                          subst eo58
                          go_wp2
                          repeat (go_quiet (fail); try go_wp2)
                          go_ret
                          exact ⟨by first | rfl | (simp [errW_none, errW_some] <;> rfl) | (simp [*, errW_none, errW_some] <;> rfl), by repeat (first | (with_reducible first | exact HB.out | apply below_alloc | apply pw_below_drewN | apply below_drew1) | exact HB.out)⟩
    · rw [if_neg c6] at H
      have c6b0 : (t132 == 0) = false := beq_eq_false_iff_ne.mpr c6
      have c6b1 : (t132 != 0) = true := bne_iff_ne.mpr c6
      by_cases c59 : (t130.length : Int) = 0
      · rw [if_pos c59] at H
        have c59b0 : ((t130.length : Int) == 0) = true := beq_iff_eq.mpr c59
        have c59b1 : ((t130.length : Int) != 0) = false := bne_eq_false_iff_eq.mpr c59
        clear c59
        obtain rfl := Option.some.inj H
        go_enter Tryd.func4, Tryd.ntmps4
        go_wp2_with (first | (go_at_call 14; (with_reducible refine (gramaryelaw04_works.calls k  true _ ?sideG A2.out).mono ?_); (case sideG => (refine GL.below HG.out ?_; repeat (first | (with_reducible exact Below.refl _ _) | (with_reducible exact Aside0.out (by assumption)) | (with_reducible apply below_alloc) | (with_reducible apply pw_below_drewN) | (with_reducible apply below_drew1)))); rintro e w60 ⟨rfl, hb⟩; have n0_ := Aside0.mk (below_step (by repeat (first | (with_reducible first | exact HB.out | apply below_alloc | apply pw_below_drewN | apply below_drew1) | exact HB.out)) hb); clear HB; have HB := n0_; clear n0_; (try clear hb); (try clear hb2); (try clear hk); (try clear hi)) | (go_at_call 10; (with_reducible refine (gramaryelaw04_short.calls a0 t129 _ A4.out).mono ?_); rintro e w61 ⟨rfl, hb⟩; have n0_ := Aside0.mk (below_step (by repeat (first | (with_reducible first | exact HB.out | apply below_alloc | apply pw_below_drewN | apply below_drew1) | exact HB.out)) hb); clear HB; have HB := n0_; clear n0_; (try clear hb); (try clear hb2); (try clear hk); (try clear hi)) | (go_at_call 11; (with_reducible refine (lex_All.calls k t129 t130 t131 t132 _ ?sideG A5.out).mono ?_); (case sideG => (refine GL.below HG.out ?_; repeat (first | (with_reducible exact Below.refl _ _) | (with_reducible exact Aside0.out (by assumption)) | (with_reducible apply below_alloc) | (with_reducible apply pw_below_drewN) | (with_reducible apply below_drew1)))); rintro e w62 ⟨v133, rfl, ho0, hb⟩; have n0_ := Aside0.mk (Kd.R_lower ho0 (below_size (by repeat (first | (with_reducible first | exact HB.out | apply below_alloc | apply pw_below_drewN | apply below_drew1) | exact HB.out)))); have n1_ := Aside0.mk (below_step (by repeat (first | (with_reducible first | exact HB.out | apply below_alloc | apply pw_below_drewN | apply below_drew1) | exact HB.out)) hb); clear HB; have HO134 := n0_; have HB := n1_; clear n0_ n1_; (try clear hb); (try clear hb2); (try clear hk); (try clear hi); (try clear ho0); obtain ⟨Ao63, co63, eo63⟩ := Kd.R_slice HO134.out; subst eo63))
        repeat (go_quiet (first | (go_at_call 14; (with_reducible refine (gramaryelaw04_works.calls k  true _ ?sideG A2.out).mono ?_); (case sideG => (refine GL.below HG.out ?_; repeat (first | (with_reducible exact Below.refl _ _) | (with_reducible exact Aside0.out (by assumption)) | (with_reducible apply below_alloc) | (with_reducible apply pw_below_drewN) | (with_reducible apply below_drew1)))); rintro e w60 ⟨rfl, hb⟩; have n0_ := Aside0.mk (below_step (by repeat (first | (with_reducible first | exact HB.out | apply below_alloc | apply pw_below_drewN | apply below_drew1) | exact HB.out)) hb); clear HB; have HB := n0_; clear n0_; (try clear hb); (try clear hb2); (try clear hk); (try clear hi)) | (go_at_call 10; (with_reducible refine (gramaryelaw04_short.calls a0 t129 _ A4.out).mono ?_); rintro e w61 ⟨rfl, hb⟩; have n0_ := Aside0.mk (below_step (by repeat (first | (with_reducible first | exact HB.out | apply below_alloc | apply pw_below_drewN | apply below_drew1) | exact HB.out)) hb); clear HB; have HB := n0_; clear n0_; (try clear hb); (try clear hb2); (try clear hk); (try clear hi)) | (go_at_call 11; (with_reducible refine (lex_All.calls k t129 t130 t131 t132 _ ?sideG A5.out).mono ?_); (case sideG => (refine GL.below HG.out ?_; repeat (first | (with_reducible exact Below.refl _ _) | (with_reducible exact Aside0.out (by assumption)) | (with_reducible apply below_alloc) | (with_reducible apply pw_below_drewN) | (with_reducible apply below_drew1)))); rintro e w62 ⟨v133, rfl, ho0, hb⟩; have n0_ := Aside0.mk (Kd.R_lower ho0 (below_size (by repeat (first | (with_reducible first | exact HB.out | apply below_alloc | apply pw_below_drewN | apply below_drew1) | exact HB.out)))); have n1_ := Aside0.mk (below_step (by repeat (first | (with_reducible first | exact HB.out | apply below_alloc | apply pw_below_drewN | apply below_drew1) | exact HB.out)) hb); clear HB; have HO134 := n0_; have HB := n1_; clear n0_ n1_; (try clear hb); (try clear hb2); (try clear hk); (try clear hi); (try clear ho0); obtain ⟨Ao63, co63, eo63⟩ := Kd.R_slice HO134.out; subst eo63)); try go_wp2_with (first | (go_at_call 14; (with_reducible refine (gramaryelaw04_works.calls k  true _ ?sideG A2.out).mono ?_); (case sideG => (refine GL.below HG.out ?_; repeat (first | (with_reducible exact Below.refl _ _) | (with_reducible exact Aside0.out (by assumption)) | (with_reducible apply below_alloc) | (with_reducible apply pw_below_drewN) | (with_reducible apply below_drew1)))); rintro e w60 ⟨rfl, hb⟩; have n0_ := Aside0.mk (below_step (by repeat (first | (with_reducible first | exact HB.out | apply below_alloc | apply pw_below_drewN | apply below_drew1) | exact HB.out)) hb); clear HB; have HB := n0_; clear n0_; (try clear hb); (try clear hb2); (try clear hk); (try clear hi)) | (go_at_call 10; (with_reducible refine (gramaryelaw04_short.calls a0 t129 _ A4.out).mono ?_); rintro e w61 ⟨rfl, hb⟩; have n0_ := Aside0.mk (below_step (by repeat (first | (with_reducible first | exact HB.out | apply below_alloc | apply pw_below_drewN | apply below_drew1) | exact HB.out)) hb); clear HB; have HB := n0_; clear n0_; (try clear hb); (try clear hb2); (try clear hk); (try clear hi)) | (go_at_call 11; (with_reducible refine (lex_All.calls k t129 t130 t131 t132 _ ?sideG A5.out).mono ?_); (case sideG => (refine GL.below HG.out ?_; repeat (first | (with_reducible exact Below.refl _ _) | (with_reducible exact Aside0.out (by assumption)) | (with_reducible apply below_alloc) | (with_reducible apply pw_below_drewN) | (with_reducible apply below_drew1)))); rintro e w62 ⟨v133, rfl, ho0, hb⟩; have n0_ := Aside0.mk (Kd.R_lower ho0 (below_size (by repeat (first | (with_reducible first | exact HB.out | apply below_alloc | apply pw_below_drewN | apply below_drew1) | exact HB.out)))); have n1_ := Aside0.mk (below_step (by repeat (first | (with_reducible first | exact HB.out | apply below_alloc | apply pw_below_drewN | apply below_drew1) | exact HB.out)) hb); clear HB; have HO134 := n0_; have HB := n1_; clear n0_ n1_; (try clear hb); (try clear hb2); (try clear hk); (try clear hi); (try clear ho0); obtain ⟨Ao63, co63, eo63⟩ := Kd.R_slice HO134.out; subst eo63)))
        go_ret
        exact ⟨by first | rfl | (simp [errW_none, errW_some] <;> rfl) | (simp [*, errW_none, errW_some] <;> rfl), by repeat (first | (with_reducible first | exact HB.out | apply below_alloc | apply pw_below_drewN | apply below_drew1) | exact HB.out)⟩
      · rw [if_neg c59] at H
        have c59b0 : ((t130.length : Int) == 0) = false := beq_eq_false_iff_ne.mpr c59
        have c59b1 : ((t130.length : Int) != 0) = true := bne_iff_ne.mpr c59
        have c59b2 : ¬ (t130 = []) := fun h_ => c59 (by rw [h_]; rfl)
        obtain rfl := Option.some.inj H
        go_enter Tryd.func4, Tryd.ntmps4
        go_wp2_with (first | (go_at_call 14; (with_reducible refine (gramaryelaw04_works.calls k  true _ ?sideG A2.out).mono ?_); (case sideG => (refine GL.below HG.out ?_; repeat (first | (with_reducible exact Below.refl _ _) | (with_reducible exact Aside0.out (by assumption)) | (with_reducible apply below_alloc) | (with_reducible apply pw_below_drewN) | (with_reducible apply below_drew1)))); rintro e w64 ⟨rfl, hb⟩; have n0_ := Aside0.mk (below_step (by repeat (first | (with_reducible first | exact HB.out | apply below_alloc | apply pw_below_drewN | apply below_drew1) | exact HB.out)) hb); clear HB; have HB := n0_; clear n0_; (try clear hb); (try clear hb2); (try clear hk); (try clear hi)) | (go_at_call 10; (with_reducible refine (gramaryelaw04_short.calls a0 t129 _ A4.out).mono ?_); rintro e w65 ⟨rfl, hb⟩; have n0_ := Aside0.mk (below_step (by repeat (first | (with_reducible first | exact HB.out | apply below_alloc | apply pw_below_drewN | apply below_drew1) | exact HB.out)) hb); clear HB; have HB := n0_; clear n0_; (try clear hb); (try clear hb2); (try clear hk); (try clear hi)) | (go_at_call 11; (with_reducible refine (lex_All.calls k t129 t130 t131 t132 _ ?sideG A5.out).mono ?_); (case sideG => (refine GL.below HG.out ?_; repeat (first | (with_reducible exact Below.refl _ _) | (with_reducible exact Aside0.out (by assumption)) | (with_reducible apply below_alloc) | (with_reducible apply pw_below_drewN) | (with_reducible apply below_drew1)))); rintro e w66 ⟨v133, rfl, ho0, hb⟩; have n0_ := Aside0.mk (Kd.R_lower ho0 (below_size (by repeat (first | (with_reducible first | exact HB.out | apply below_alloc | apply pw_below_drewN | apply below_drew1) | exact HB.out)))); have n1_ := Aside0.mk (below_step (by repeat (first | (with_reducible first | exact HB.out | apply below_alloc | apply pw_below_drewN | apply below_drew1) | exact HB.out)) hb); clear HB; have HO134 := n0_; have HB := n1_; clear n0_ n1_; (try clear hb); (try clear hb2); (try clear hk); (try clear hi); (try clear ho0); obtain ⟨Ao67, co67, eo67⟩ := Kd.R_slice HO134.out; subst eo67))
        repeat (go_quiet (first | (go_at_call 14; (with_reducible refine (gramaryelaw04_works.calls k  true _ ?sideG A2.out).mono ?_); (case sideG => (refine GL.below HG.out ?_; repeat (first | (with_reducible exact Below.refl _ _) | (with_reducible exact Aside0.out (by assumption)) | (with_reducible apply below_alloc) | (with_reducible apply pw_below_drewN) | (with_reducible apply below_drew1)))); rintro e w64 ⟨rfl, hb⟩; have n0_ := Aside0.mk (below_step (by repeat (first | (with_reducible first | exact HB.out | apply below_alloc | apply pw_below_drewN | apply below_drew1) | exact HB.out)) hb); clear HB; have HB := n0_; clear n0_; (try clear hb); (try clear hb2); (try clear hk); (try clear hi)) | (go_at_call 10; (with_reducible refine (gramaryelaw04_short.calls a0 t129 _ A4.out).mono ?_); rintro e w65 ⟨rfl, hb⟩; have n0_ := Aside0.mk (below_step (by repeat (first | (with_reducible first | exact HB.out | apply below_alloc | apply pw_below_drewN | apply below_drew1) | exact HB.out)) hb); clear HB; have HB := n0_; clear n0_; (try clear hb); (try clear hb2); (try clear hk); (try clear hi)) | (go_at_call 11; (with_reducible refine (lex_All.calls k t129 t130 t131 t132 _ ?sideG A5.out).mono ?_); (case sideG => (refine GL.below HG.out ?_; repeat (first | (with_reducible exact Below.refl _ _) | (with_reducible exact Aside0.out (by assumption)) | (with_reducible apply below_alloc) | (with_reducible apply pw_below_drewN) | (with_reducible apply below_drew1)))); rintro e w66 ⟨v133, rfl, ho0, hb⟩; have n0_ := Aside0.mk (Kd.R_lower ho0 (below_size (by repeat (first | (with_reducible first | exact HB.out | apply below_alloc | apply pw_below_drewN | apply below_drew1) | exact HB.out)))); have n1_ := Aside0.mk (below_step (by repeat (first | (with_reducible first | exact HB.out | apply below_alloc | apply pw_below_drewN | apply below_drew1) | exact HB.out)) hb); clear HB; have HO134 := n0_; have HB := n1_; clear n0_ n1_; (try clear hb); (try clear hb2); (try clear hk); (try clear hi); (try clear ho0); obtain ⟨Ao67, co67, eo67⟩ := Kd.R_slice HO134.out; subst eo67)); try go_wp2_with (first | (go_at_call 14; (with_reducible refine (gramaryelaw04_works.calls k  true _ ?sideG A2.out).mono ?_); (case sideG => (refine GL.below HG.out ?_; repeat (first | (with_reducible exact Below.refl _ _) | (with_reducible exact Aside0.out (by assumption)) | (with_reducible apply below_alloc) | (with_reducible apply pw_below_drewN) | (with_reducible apply below_drew1)))); rintro e w64 ⟨rfl, hb⟩; have n0_ := Aside0.mk (below_step (by repeat (first | (with_reducible first | exact HB.out | apply below_alloc | apply pw_below_drewN | apply below_drew1) | exact HB.out)) hb); clear HB; have HB := n0_; clear n0_; (try clear hb); (try clear hb2); (try clear hk); (try clear hi)) | (go_at_call 10; (with_reducible refine (gramaryelaw04_short.calls a0 t129 _ A4.out).mono ?_); rintro e w65 ⟨rfl, hb⟩; have n0_ := Aside0.mk (below_step (by repeat (first | (with_reducible first | exact HB.out | apply below_alloc | apply pw_below_drewN | apply below_drew1) | exact HB.out)) hb); clear HB; have HB := n0_; clear n0_; (try clear hb); (try clear hb2); (try clear hk); (try clear hi)) | (go_at_call 11; (with_reducible refine (lex_All.calls k t129 t130 t131 t132 _ ?sideG A5.out).mono ?_); (case sideG => (refine GL.below HG.out ?_; repeat (first | (with_reducible exact Below.refl _ _) | (with_reducible exact Aside0.out (by assumption)) | (with_reducible apply below_alloc) | (with_reducible apply pw_below_drewN) | (with_reducible apply below_drew1)))); rintro e w66 ⟨v133, rfl, ho0, hb⟩; have n0_ := Aside0.mk (Kd.R_lower ho0 (below_size (by repeat (first | (with_reducible first | exact HB.out | apply below_alloc | apply pw_below_drewN | apply below_drew1) | exact HB.out)))); have n1_ := Aside0.mk (below_step (by repeat (first | (with_reducible first | exact HB.out | apply below_alloc | apply pw_below_drewN | apply below_drew1) | exact HB.out)) hb); clear HB; have HO134 := n0_; have HB := n1_; clear n0_ n1_; (try clear hb); (try clear hb2); (try clear hk); (try clear hi); (try clear ho0); obtain ⟨Ao67, co67, eo67⟩ := Kd.R_slice HO134.out; subst eo67)))
        go_ret
        exact ⟨by first | rfl | (simp [errW_none, errW_some] <;> rfl) | (simp [*, errW_none, errW_some] <;> rfl), by repeat (first | (with_reducible first | exact HB.out | apply below_alloc | apply pw_below_drewN | apply below_drew1) | exact HB.out)⟩
  · replace c3 := Bool.eq_false_iff.mpr c3
    subst c3
    have H1 : (some false) = some r := by rw [if_neg (show ¬ (false = true) by decide)] at H; exact H
    clear H
    have H := H1
    clear H1
    obtain rfl := Option.some.inj H
    go_enter Tryd.func4, Tryd.ntmps4
    go_wp2_with (first | (go_at_call 14; (with_reducible refine (gramaryelaw04_works.calls k  false _ ?sideG A2.out).mono ?_); (case sideG => (refine GL.below HG.out ?_; repeat (first | (with_reducible exact Below.refl _ _) | (with_reducible exact Aside0.out (by assumption)) | (with_reducible apply below_alloc) | (with_reducible apply pw_below_drewN) | (with_reducible apply below_drew1)))); rintro e w68 ⟨rfl, hb⟩; have n0_ := Aside0.mk (below_step (by repeat (first | (with_reducible first | exact HB.out | apply below_alloc | apply pw_below_drewN | apply below_drew1) | exact HB.out)) hb); clear HB; have HB := n0_; clear n0_; (try clear hb); (try clear hb2); (try clear hk); (try clear hi)))
    repeat (go_quiet (first | (go_at_call 14; (with_reducible refine (gramaryelaw04_works.calls k  false _ ?sideG A2.out).mono ?_); (case sideG => (refine GL.below HG.out ?_; repeat (first | (with_reducible exact Below.refl _ _) | (with_reducible exact Aside0.out (by assumption)) | (with_reducible apply below_alloc) | (with_reducible apply pw_below_drewN) | (with_reducible apply below_drew1)))); rintro e w68 ⟨rfl, hb⟩; have n0_ := Aside0.mk (below_step (by repeat (first | (with_reducible first | exact HB.out | apply below_alloc | apply pw_below_drewN | apply below_drew1) | exact HB.out)) hb); clear HB; have HB := n0_; clear n0_; (try clear hb); (try clear hb2); (try clear hk); (try clear hi))); try go_wp2_with (first | (go_at_call 14; (with_reducible refine (gramaryelaw04_works.calls k  false _ ?sideG A2.out).mono ?_); (case sideG => (refine GL.below HG.out ?_; repeat (first | (with_reducible exact Below.refl _ _) | (with_reducible exact Aside0.out (by assumption)) | (with_reducible apply below_alloc) | (with_reducible apply pw_below_drewN) | (with_reducible apply below_drew1)))); rintro e w68 ⟨rfl, hb⟩; have n0_ := Aside0.mk (below_step (by repeat (first | (with_reducible first | exact HB.out | apply below_alloc | apply pw_below_drewN | apply below_drew1) | exact HB.out)) hb); clear HB; have HB := n0_; clear n0_; (try clear hb); (try clear hb2); (try clear hk); (try clear hi))))
    go_ret
    exact ⟨by first | rfl | (simp [errW_none, errW_some] <;> rfl) | (simp [*, errW_none, errW_some] <;> rfl), by repeat (first | (with_reducible first | exact HB.out | apply below_alloc | apply pw_below_drewN | apply below_drew1) | exact HB.out)⟩

/-- THE PURE STATEMENT of gramaryelaw04_LexAgain. -/
def gramaryelaw04_LexAgain.Pure : Prop := ∀ (a0 : ByteArray), a0.size ≤ 140737488351232 → ∃ k, gramaryelaw04_LexAgain.f k a0 = some true

end Go.Proofs.YtdmjehepfkgpgaaDoor.HLexAgain
