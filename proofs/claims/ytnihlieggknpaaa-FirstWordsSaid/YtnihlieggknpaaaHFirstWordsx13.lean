-- Written by plus.py for this claim.
import Derived.Test.YtnihlieggknpaaaHFirstWordsx0
import Derived.Test.YtnihlieggknpaaaHFirstWordsx3
import Derived.Test.YtnihlieggknpaaaHFirstWordsx7
import Derived.Test.YtnihlieggknpaaaHFirstWordsx8
import Derived.Test.YtnihlieggknpaaaHFirstWordsx9
import Derived.Test.YtnihlieggknpaaaHFirstWordsx12
namespace Go.Proofs.Ytnihlieggknpaaa.HFirstWords
open Go.RowKit Go.Proofs.YtnihlieggknpaaaW.PrintWords Go.Proofs.YtnihlieggknpaaaW.PrintLast Go.Proofs.YtnihlieggknpaaaW.PrintMore
attribute [local go_sem] max2_int min2_int max_two min_two max_three min_three max_four min_four   -- for this text's walks alone
set_option linter.unusedVariables false
set_option linter.unusedSimpArgs false
mutual
def gramaryelaw14_FirstWords.j0 : Nat → Int → Int → Int → Int → List Int → List (S61) → Option (Bool)
 | 0, _, _, _, _, _, _ => none
 | k + 1, x1, x2, x288000, x288001, x288002, x288003 => (gramaryelaw14_few.f k x288000 x288001 x288002 x288003).bind fun bt296 => ((first_Words.f k bt296.1 bt296.2.1 bt296.2.2.1 bt296.2.2.2 x1 x2).bind fun bt304 => ((gramaryeref09_May.f k x288000 x288001 x288002 x288003).bind fun t308 => (if t308 = 0 then (if x1 < 0 then (gramaryelaw14_FirstWords.j1 k x1 x2 bt304.1 bt304.2 true x288000 x288001 x288002 x288003) else (gramaryelaw14_FirstWords.j1 k x1 x2 bt304.1 bt304.2 (decide (x1 ≥ (x288002.length : Int))) x288000 x288001 x288002 x288003)) else (if bt304.2 = t308 then (if (bt304.1.length : Int) = 0 then ((gramaryelaw14_works.f k).bind fun t309 => (some t309)) else (some false)) else (some false)))))
def gramaryelaw14_FirstWords.j1 : Nat → Int → Int → List ByteArray → Int → Bool → Int → Int → List Int → List (S61) → Option (Bool)
 | 0, _, _, _, _, _, _, _, _, _ => none
 | k + 1, x1, x2, x7, x8, x47, x288000, x288001, x288002, x288003 => if x47 = true then (if x8 = 3 then (if (x7.length : Int) = 0 then ((gramaryelaw14_works.f k).bind fun t310 => (some t310)) else (some false)) else (some false)) else ((gramaryeref14_Words.f k x288000 x288001 x288002 x288003 x1 x2).bind fun bt311 => (if bt311.2 = true then (if x8 = 0 then ((gramaryebase_SameTexts.f k x7 bt311.1).bind fun t315 => (if t315 = true then ((gramaryelaw14_works.f k).bind fun t316 => (some t316)) else (some false))) else (some false)) else (if x8 = 15 then (if (x7.length : Int) = 0 then ((gramaryelaw14_works.f k).bind fun t317 => (some t317)) else (some false)) else (some false))))
end
def gramaryelaw14_FirstWords.f (k : Nat) (a0_0 : Int) (a0_1 : Int) (l0_2 : List Int) (l0_3 : List (S61)) (a1 : Int) (a2 : Int) : Option (Bool) := (gramaryelaw14_few.f k a0_0 a0_1 l0_2 l0_3).bind fun bt288 => (if a2 > 3 then (gramaryelaw14_FirstWords.j0 k a1 3 bt288.1 bt288.2.1 bt288.2.2.1 bt288.2.2.2) else (gramaryelaw14_FirstWords.j0 k a1 a2 bt288.1 bt288.2.1 bt288.2.2.1 bt288.2.2.2))
theorem gramaryelaw14_FirstWords.mono_l : ∀ k, (∀ y0 y1 y2 y3 y4 y5, LeO (gramaryelaw14_FirstWords.j0 k y0 y1 y2 y3 y4 y5) (gramaryelaw14_FirstWords.j0 (k + 1) y0 y1 y2 y3 y4 y5)) ∧ (∀ y0 y1 y2 y3 y4 y5 y6 y7 y8, LeO (gramaryelaw14_FirstWords.j1 k y0 y1 y2 y3 y4 y5 y6 y7 y8) (gramaryelaw14_FirstWords.j1 (k + 1) y0 y1 y2 y3 y4 y5 y6 y7 y8))
 | 0 => ⟨fun _ _ _ _ _ _ r h => by simp [gramaryelaw14_FirstWords.j0] at h, fun _ _ _ _ _ _ _ _ _ r h => by simp [gramaryelaw14_FirstWords.j1] at h⟩
 | k + 1 => by
  obtain ⟨ih0, ih1⟩ := gramaryelaw14_FirstWords.mono_l k
  refine ⟨?_, ?_⟩
  ·intro y0 y1 y2 y3 y4 y5
   unfold gramaryelaw14_FirstWords.j0
   repeat' first
   | (with_reducible exact ih0 _ _ _ _ _ _)
   | (with_reducible exact ih1 _ _ _ _ _ _ _ _ _)
   | (with_reducible exact first_Words.mono _ _ _ _ _ _ _)
   | (with_reducible exact gramaryebase_SameTexts.mono _ _ _)
   | (with_reducible exact gramaryelaw14_few.mono _ _ _ _ _)
   | (with_reducible exact gramaryelaw14_works.mono _)
   | (with_reducible exact gramaryeref09_May.mono _ _ _ _ _)
   | (with_reducible exact gramaryeref14_Words.mono _ _ _ _ _ _ _)
   | (with_reducible exact LeO.refl _)
   | (with_reducible exact LeO.none _)
   | (with_reducible refine LeO.ite ?_ ?_)
   | (with_reducible refine LeO.bind ?_ (fun _ => ?_))
   | exact ih0 _ _ _ _ _ _
   | exact ih1 _ _ _ _ _ _ _ _ _
   | exact first_Words.mono _ _ _ _ _ _ _
   | exact gramaryebase_SameTexts.mono _ _ _
   | exact gramaryelaw14_few.mono _ _ _ _ _
   | exact gramaryelaw14_works.mono _
   | exact gramaryeref09_May.mono _ _ _ _ _
   | exact gramaryeref14_Words.mono _ _ _ _ _ _ _
   | exact LeO.none _
   | refine LeO.ite ?_ ?_
   | refine LeO.bind ?_ (fun _ => ?_)
  ·intro y0 y1 y2 y3 y4 y5 y6 y7 y8
   unfold gramaryelaw14_FirstWords.j1
   repeat' first
   | (with_reducible exact ih0 _ _ _ _ _ _)
   | (with_reducible exact ih1 _ _ _ _ _ _ _ _ _)
   | (with_reducible exact first_Words.mono _ _ _ _ _ _ _)
   | (with_reducible exact gramaryebase_SameTexts.mono _ _ _)
   | (with_reducible exact gramaryelaw14_few.mono _ _ _ _ _)
   | (with_reducible exact gramaryelaw14_works.mono _)
   | (with_reducible exact gramaryeref09_May.mono _ _ _ _ _)
   | (with_reducible exact gramaryeref14_Words.mono _ _ _ _ _ _ _)
   | (with_reducible exact LeO.refl _)
   | (with_reducible exact LeO.none _)
   | (with_reducible refine LeO.ite ?_ ?_)
   | (with_reducible refine LeO.bind ?_ (fun _ => ?_))
   | exact ih0 _ _ _ _ _ _
   | exact ih1 _ _ _ _ _ _ _ _ _
   | exact first_Words.mono _ _ _ _ _ _ _
   | exact gramaryebase_SameTexts.mono _ _ _
   | exact gramaryelaw14_few.mono _ _ _ _ _
   | exact gramaryelaw14_works.mono _
   | exact gramaryeref09_May.mono _ _ _ _ _
   | exact gramaryeref14_Words.mono _ _ _ _ _ _ _
   | exact LeO.none _
   | refine LeO.ite ?_ ?_
   | refine LeO.bind ?_ (fun _ => ?_)
theorem gramaryelaw14_FirstWords.mono : ∀ a0 a1 a2 a3 a4 a5 k, LeO (gramaryelaw14_FirstWords.f k a0 a1 a2 a3 a4 a5) (gramaryelaw14_FirstWords.f (k + 1) a0 a1 a2 a3 a4 a5) := by
 intro a0 a1 a2 a3 a4 a5 k
 obtain ⟨ih0, ih1⟩ := gramaryelaw14_FirstWords.mono_l k
 unfold gramaryelaw14_FirstWords.f
 repeat' first
   | (with_reducible exact ih0 _ _ _ _ _ _)
   | (with_reducible exact ih1 _ _ _ _ _ _ _ _ _)
   | (with_reducible exact first_Words.mono _ _ _ _ _ _ _)
   | (with_reducible exact gramaryebase_SameTexts.mono _ _ _)
   | (with_reducible exact gramaryelaw14_few.mono _ _ _ _ _)
   | (with_reducible exact gramaryelaw14_works.mono _)
   | (with_reducible exact gramaryeref09_May.mono _ _ _ _ _)
   | (with_reducible exact gramaryeref14_Words.mono _ _ _ _ _ _ _)
   | (with_reducible exact LeO.refl _)
   | (with_reducible exact LeO.none _)
   | (with_reducible refine LeO.ite ?_ ?_)
   | (with_reducible refine LeO.bind ?_ (fun _ => ?_))
   | exact ih0 _ _ _ _ _ _
   | exact ih1 _ _ _ _ _ _ _ _ _
   | exact first_Words.mono _ _ _ _ _ _ _
   | exact gramaryebase_SameTexts.mono _ _ _
   | exact gramaryelaw14_few.mono _ _ _ _ _
   | exact gramaryelaw14_works.mono _
   | exact gramaryeref09_May.mono _ _ _ _ _
   | exact gramaryeref14_Words.mono _ _ _ _ _ _ _
   | exact LeO.none _
   | refine LeO.ite ?_ ?_
   | refine LeO.bind ?_ (fun _ => ?_)
set_option maxHeartbeats 8000000 in
set_option maxRecDepth 100000 in
theorem gramaryelaw14_FirstWords.calls (k : Nat) (a0_0 : Int) (a0_1 : Int) (A0_2 : Option Addr) (c0_2 : Nat) (l0_2 : List Int) (A0_3 : Option Addr) (c0_3 : Nat) (l0_3 : List (S61)) (a1 : Int) (a2 : Int) (r : Bool) (w : World) (hr0_2 : Kd.C (Kd.int .i64) w A0_2 l0_2.length l0_2) (hc0_2 : l0_2.length ≤ c0_2) (hr0_3 : Kd.C k61 w A0_3 l0_3.length l0_3) (hc0_3 : l0_3.length ≤ c0_3) (h : gramaryelaw14_FirstWords.f k a0_0 a0_1 l0_2 l0_3 a1 a2 = some r) :
  Calls Try.prog 3 #[.agg #[.int .i64 a0_0, .int .i64 a0_1, .slice A0_2 l0_2.length c0_2, .slice A0_3 l0_3.length c0_3], .int .i64 a1, .int .i64 a2] w fun e w' => e = .returned (.bool r) ∧ Below w.heap.size w w' := by
 have hu25 := Try.underlying25
 have HR0_2 := Aside0.mk hr0_2
 have HC0_2 := Aside0.mk hc0_2
 clear hr0_2 hc0_2
 have HR0_3 := Aside0.mk hr0_3
 have HC0_3 := Aside0.mk hc0_3
 clear hr0_3 hc0_3
 have HB := Aside0.mk (Below.refl w.heap.size w)
 have H : ((gramaryelaw14_few.f k a0_0 a0_1 l0_2 l0_3).bind fun bt288 => (if a2 > 3 then (gramaryelaw14_FirstWords.j0 k a1 3 bt288.1 bt288.2.1 bt288.2.2.1 bt288.2.2.2) else (gramaryelaw14_FirstWords.j0 k a1 a2 bt288.1 bt288.2.1 bt288.2.2.1 bt288.2.2.2))) = some r := h
 clear h
 replace H := Option.bind_eq_some_iff.mp H
 obtain ⟨⟨t288, t289, t290, t293⟩, A40, H⟩ := H
 replace H : (if a2 > 3 then (gramaryelaw14_FirstWords.j0 k a1 3 t288 t289 t290 t293) else (gramaryelaw14_FirstWords.j0 k a1 a2 t288 t289 t290 t293)) = some r := H
 have A4 := Aside0.mk A40
 clear A40
 have HC5 := Aside0.mk H
 clear H
 go_enter Try.func3, Try.ntmps3
 go_upto_if 15 with (first | ((with_reducible refine gate_dst (N := 3) rfl ?_); (try (refine gate_guard (by rfl) ?_; dsimp only)); refine box_event ?hg (N := 3) ?hd (cs := #[.int .i64 a0_0, .int .i64 a0_1, .slice A0_2 l0_2.length c0_2, .slice A0_3 l0_3.length c0_3]) (t := 25) ?hr ?_; (case hd => rfl); (case hg => rfl); (case hr => first | (go_simp; done) | (go_simp; rfl)); intro gb287 hg w6 hbox hb; have n0_ := Aside0.mk (below_step (by repeat (first | (with_reducible first | exact HB.out | apply below_alloc | apply pw_below_drewN | apply below_drew1) | exact HB.out)) hb); have n1_ := Aside0.mk (hbox); have n2_ := Aside0.mk ((by rw [hg]; exact (below_size (by repeat (first | (with_reducible first | exact HB.out | apply below_alloc | apply pw_below_drewN | apply below_drew1) | exact HB.out))) : w.heap.size ≤ gb287)); have n3_ := Aside0.mk ((by rw [hg]; exact (below_size (by repeat (first | (with_reducible first | exact HB.out | apply below_alloc | apply pw_below_drewN | apply below_drew1) | exact HB.out))) : w.heap.size ≤ gb287)); clear HB; have HB := n0_; have BK287 := n1_; have GW287 := n2_; have GE287 := n3_; clear n0_ n1_ n2_ n3_; clear hb hbox hg; have hcz7_0 : w6.cell? ⟨gb287, 0, none⟩ = some (.int .i64 a0_0) := (blk_cell BK287.out 0).trans rfl; have hcz7_1 : w6.cell? ⟨gb287, 1, none⟩ = some (.int .i64 a0_1) := (blk_cell BK287.out 1).trans rfl; have hcz7_2 : w6.cell? ⟨gb287, 2, none⟩ = some (.slice A0_2 l0_2.length c0_2) := (blk_cell BK287.out 2).trans rfl; have hcz7_3 : w6.cell? ⟨gb287, 3, none⟩ = some (.slice A0_3 l0_3.length c0_3) := (blk_cell BK287.out 3).trans rfl; have hfz7_0 := blk_frozen BK287.out 0; have hfz7_1 := blk_frozen BK287.out 1; have hfz7_2 := blk_frozen BK287.out 2; have hfz7_3 := blk_frozen BK287.out 3) | ((with_reducible refine gate_callee (f := 8) rfl ?_); refine goesL_ (some 13) rfl rfl Try.func8 (by kernel_rfl) rfl #[.agg #[.int .i64 a0_0, .int .i64 a0_1, .slice A0_2 l0_2.length c0_2, .slice A0_3 l0_3.length c0_3]] rfl (by (try simp only [List.map_toArray, List.map_cons, List.map_nil]); first | done | rfl | (simp only [List.length_drop, List.length_take]; rfl)) ?_; (with_reducible refine (gramaryelaw14_few.calls k a0_0 a0_1 _ _ l0_2 _ _ l0_3 t288 t289 t290 t293 _ ?side1 ?side2 ?side3 ?side4 A4.out).mono ?_); (case side1 => repeat (first | exact (Kd.C_below HR0_2.out HB.out) | (with_reducible refine Kd.C_alloc ?_ _) | (with_reducible refine Kd.C_drewN ?_ _) | (with_reducible refine Kd.C_drew ?_))); (case side2 => exact HC0_2.out); (case side3 => repeat (first | exact (Kd.C_below HR0_3.out HB.out) | (with_reducible refine Kd.C_alloc ?_ _) | (with_reducible refine Kd.C_drewN ?_ _) | (with_reducible refine Kd.C_drew ?_))); (case side4 => exact HC0_3.out); rintro e w8 ⟨v291, v294, rfl, ho0, ho1, hb⟩; refine ⟨_, rfl, ?_⟩; have n0_ := Aside0.mk (Kd.R_lower (Kd.R_mono (ok' := fun k_ => True) ho0 (fun _ hk_ => trivial)) (below_size (by repeat (first | (with_reducible first | exact HB.out | apply below_alloc | apply pw_below_drewN | apply below_drew1 | refine below_set ?_ GE287.out) | exact HB.out)))); have n1_ := Aside0.mk (Kd.N_lower (Kd.N_mono (ok' := fun k_ => some k_ ≠ (v291 : Value).ownBlock ∧ k_ ≠ gb287) ho1 (fun k_ hk_ => ⟨hk_.2, (Kd.freshB (g := gb287) (o := .cells #[.int .i64 a0_0, .int .i64 a0_1, .slice A0_2 l0_2.length c0_2, .slice A0_3 l0_3.length c0_3] 25 (0, 0)) (by (with_reducible repeat (first | refine blk_drewN ?_ _ | refine blk_drew ?_ | refine blk_alloc ?_ _)); exact BK287.out) k_ hk_.1)⟩)) (below_size (by repeat (first | (with_reducible first | exact HB.out | apply below_alloc | apply pw_below_drewN | apply below_drew1 | refine below_set ?_ GE287.out) | exact HB.out)))); have n2_ := Aside0.mk (blk_below (g := gb287) (o := .cells #[.int .i64 a0_0, .int .i64 a0_1, .slice A0_2 l0_2.length c0_2, .slice A0_3 l0_3.length c0_3] 25 (0, 0)) (by (with_reducible repeat (first | refine blk_drewN ?_ _ | refine blk_drew ?_ | refine blk_alloc ?_ _)); exact BK287.out) hb); have n3_ := Aside0.mk (below_step (by repeat (first | (with_reducible first | exact HB.out | apply below_alloc | apply pw_below_drewN | apply below_drew1 | refine below_set ?_ GE287.out) | exact HB.out)) hb); clear BK287; clear HB; have HO292 := n0_; have HO295 := n1_; have BK287 := n2_; have HB := n3_; clear n0_ n1_ n2_ n3_; (try clear hb); (try clear hb2); (try clear hk); (try clear hi); (try clear ho0); (try clear ho1); have hcz9_0 : w8.cell? ⟨gb287, 0, none⟩ = some (.int .i64 a0_0) := (blk_cell BK287.out 0).trans rfl; have hcz9_1 : w8.cell? ⟨gb287, 1, none⟩ = some (.int .i64 a0_1) := (blk_cell BK287.out 1).trans rfl; have hcz9_2 : w8.cell? ⟨gb287, 2, none⟩ = some (.slice A0_2 l0_2.length c0_2) := (blk_cell BK287.out 2).trans rfl; have hcz9_3 : w8.cell? ⟨gb287, 3, none⟩ = some (.slice A0_3 l0_3.length c0_3) := (blk_cell BK287.out 3).trans rfl; have hfz9_0 := blk_frozen BK287.out 0; have hfz9_1 := blk_frozen BK287.out 1; have hfz9_2 := blk_frozen BK287.out 2; have hfz9_3 := blk_frozen BK287.out 3; obtain ⟨Ao10, co10, eo10⟩ := Kd.R_slice HO292.out; subst eo10; obtain ⟨Ao11, co11, eo11⟩ := Kd.N_slice HO295.out; subst eo11))
 (try simp only [Act.put, List.setIfInBounds_toArray, List.set_cons_zero, List.set_cons_succ])
 go_cut [2] (fun v2 wc => ∃ (kq : Nat) (x2_4 : Int), v2 = .int .i64 x2_4 ∧ Aside0 (gramaryelaw14_FirstWords.j0 kq a1 x2_4 t288 t289 t290 t293 = some r) ∧ Aside0 (kq ≤ k) ∧ Aside0 (Kd.R (Kd.int .i64) 3 wc w.heap.size (fun _ => True) (.slice Ao10 t290.length co10) t290) ∧ Aside0 (Kd.N k61 61 wc w.heap.size (fun k_ => some k_ ≠ ((.slice Ao10 t290.length co10) : Value).ownBlock ∧ k_ ≠ gb287) (.slice Ao11 t293.length co11) t293) ∧ Aside0 (wc.heap[gb287]? = some (.cells #[.int .i64 t288, .int .i64 t289, (.slice Ao10 t290.length co10), (.slice Ao11 t293.length co11)] 25 (0, 0))) ∧ Aside0 (Below w.heap.size w wc))
 case first =>
  have H := HC5.out
  clear HC5
  by_cases c12 : a2 > 3
  ·rw [if_pos c12] at H
   have c12b0 : decide (3 < a2) = true := decide_eq_true c12
   clear c12
   (first | rw [c12b0] | (simp only [i64_w, i32_w]; rw [c12b0]) | skip)
   have H' := Aside0.mk H
   clear H
   go_wp2
   go_meet
   case rel => exact ⟨_, (3), (by first | rfl | (simp; done) | (simp [*]; done)), H', ⟨by first | omega | exact Nat.le_refl _⟩, ⟨by (with_reducible repeat (first | apply Kd.R_alloc | apply Kd.R_drewN | apply Kd.R_drew)); exact Kd.R_mono (Kd.R_far (p := ⟨gb287, 3, none⟩) (Kd.R_far (p := ⟨gb287, 2, none⟩) (Kd.R_far (p := ⟨gb287, 1, none⟩) (Kd.R_far (p := ⟨gb287, 0, none⟩) (Kd.R_types HO292.out BK287.out (by decide)) (fun _ hk => hk.2) (.int .i64 t288)) (fun _ hk => hk.2) (.int .i64 t289)) (fun _ hk => hk.2) (.slice Ao10 t290.length co10)) (fun _ hk => hk.2) (.slice Ao11 t293.length co11)) (fun _ hk => trivial)⟩, ⟨by (with_reducible repeat (first | apply Kd.N_alloc | apply Kd.N_drewN | apply Kd.N_drew)); exact Kd.N_mono (Kd.N_far (p := ⟨gb287, 3, none⟩) (Kd.N_far (p := ⟨gb287, 2, none⟩) (Kd.N_far (p := ⟨gb287, 1, none⟩) (Kd.N_far (p := ⟨gb287, 0, none⟩) (Kd.N_mono HO295.out (fun k_ hk => (⟨hk, hk.2⟩ : _ ∧ k_ ≠ gb287))) (fun _ hk => hk.2) (.int .i64 t288)) (fun _ hk => hk.2) (.int .i64 t289)) (fun _ hk => hk.2) (.slice Ao10 t290.length co10)) (fun _ hk => hk.2) (.slice Ao11 t293.length co11)) (fun _ hk => ⟨hk.1.1, hk.1.2⟩)⟩, ⟨by (with_reducible repeat (first | refine blk_drewN ?_ _ | refine blk_drew ?_ | refine blk_alloc ?_ _)); refine blk_put (cs := #[.int .i64 t288, .int .i64 t289, .slice Ao10 t290.length co10, .slice A0_3 l0_3.length c0_3]) ?_ 3 _ rfl; (with_reducible repeat (first | refine blk_drewN ?_ _ | refine blk_drew ?_ | refine blk_alloc ?_ _)); refine blk_put (cs := #[.int .i64 t288, .int .i64 t289, .slice A0_2 l0_2.length c0_2, .slice A0_3 l0_3.length c0_3]) ?_ 2 _ rfl; (with_reducible repeat (first | refine blk_drewN ?_ _ | refine blk_drew ?_ | refine blk_alloc ?_ _)); refine blk_put (cs := #[.int .i64 t288, .int .i64 a0_1, .slice A0_2 l0_2.length c0_2, .slice A0_3 l0_3.length c0_3]) ?_ 1 _ rfl; (with_reducible repeat (first | refine blk_drewN ?_ _ | refine blk_drew ?_ | refine blk_alloc ?_ _)); refine blk_put (cs := #[.int .i64 a0_0, .int .i64 a0_1, .slice A0_2 l0_2.length c0_2, .slice A0_3 l0_3.length c0_3]) ?_ 0 _ rfl; (with_reducible repeat (first | refine blk_drewN ?_ _ | refine blk_drew ?_ | refine blk_alloc ?_ _)); exact BK287.out⟩, ⟨by repeat (first | (with_reducible first | exact HB.out | apply below_alloc | apply pw_below_drewN | apply below_drew1 | refine below_set ?_ GE287.out) | exact HB.out)⟩⟩
  ·rw [if_neg c12] at H
   have c12b0 : decide (3 < a2) = false := decide_eq_false c12
   clear c12
   (first | rw [c12b0] | (simp only [i64_w, i32_w]; rw [c12b0]) | skip)
   have H' := Aside0.mk H
   clear H
   go_wp2
   go_meet
   case rel => exact ⟨_, (a2), (by first | rfl | (simp; done) | (simp [*]; done)), H', ⟨by first | omega | exact Nat.le_refl _⟩, ⟨by (with_reducible repeat (first | apply Kd.R_alloc | apply Kd.R_drewN | apply Kd.R_drew)); exact Kd.R_mono (Kd.R_far (p := ⟨gb287, 3, none⟩) (Kd.R_far (p := ⟨gb287, 2, none⟩) (Kd.R_far (p := ⟨gb287, 1, none⟩) (Kd.R_far (p := ⟨gb287, 0, none⟩) (Kd.R_types HO292.out BK287.out (by decide)) (fun _ hk => hk.2) (.int .i64 t288)) (fun _ hk => hk.2) (.int .i64 t289)) (fun _ hk => hk.2) (.slice Ao10 t290.length co10)) (fun _ hk => hk.2) (.slice Ao11 t293.length co11)) (fun _ hk => trivial)⟩, ⟨by (with_reducible repeat (first | apply Kd.N_alloc | apply Kd.N_drewN | apply Kd.N_drew)); exact Kd.N_mono (Kd.N_far (p := ⟨gb287, 3, none⟩) (Kd.N_far (p := ⟨gb287, 2, none⟩) (Kd.N_far (p := ⟨gb287, 1, none⟩) (Kd.N_far (p := ⟨gb287, 0, none⟩) (Kd.N_mono HO295.out (fun k_ hk => (⟨hk, hk.2⟩ : _ ∧ k_ ≠ gb287))) (fun _ hk => hk.2) (.int .i64 t288)) (fun _ hk => hk.2) (.int .i64 t289)) (fun _ hk => hk.2) (.slice Ao10 t290.length co10)) (fun _ hk => hk.2) (.slice Ao11 t293.length co11)) (fun _ hk => ⟨hk.1.1, hk.1.2⟩)⟩, ⟨by (with_reducible repeat (first | refine blk_drewN ?_ _ | refine blk_drew ?_ | refine blk_alloc ?_ _)); refine blk_put (cs := #[.int .i64 t288, .int .i64 t289, .slice Ao10 t290.length co10, .slice A0_3 l0_3.length c0_3]) ?_ 3 _ rfl; (with_reducible repeat (first | refine blk_drewN ?_ _ | refine blk_drew ?_ | refine blk_alloc ?_ _)); refine blk_put (cs := #[.int .i64 t288, .int .i64 t289, .slice A0_2 l0_2.length c0_2, .slice A0_3 l0_3.length c0_3]) ?_ 2 _ rfl; (with_reducible repeat (first | refine blk_drewN ?_ _ | refine blk_drew ?_ | refine blk_alloc ?_ _)); refine blk_put (cs := #[.int .i64 t288, .int .i64 a0_1, .slice A0_2 l0_2.length c0_2, .slice A0_3 l0_3.length c0_3]) ?_ 1 _ rfl; (with_reducible repeat (first | refine blk_drewN ?_ _ | refine blk_drew ?_ | refine blk_alloc ?_ _)); refine blk_put (cs := #[.int .i64 a0_0, .int .i64 a0_1, .slice A0_2 l0_2.length c0_2, .slice A0_3 l0_3.length c0_3]) ?_ 0 _ rfl; (with_reducible repeat (first | refine blk_drewN ?_ _ | refine blk_drew ?_ | refine blk_alloc ?_ _)); exact BK287.out⟩, ⟨by repeat (first | (with_reducible first | exact HB.out | apply below_alloc | apply pw_below_drewN | apply below_drew1 | refine below_set ?_ GE287.out) | exact HB.out)⟩⟩
 case rest =>
  clear HC5
  try clear c1
  try clear p2
  try clear c3
  try clear c8
  try clear c12
  try clear c12b0
  try clear hcz7_0
  try clear hcz7_1
  try clear hcz7_2
  try clear hcz7_3
  try clear hcz9_0
  try clear hcz9_1
  try clear hcz9_2
  try clear hcz9_3
  try clear hfz7_0
  try clear hfz7_1
  try clear hfz7_2
  try clear hfz7_3
  try clear hfz9_0
  try clear hfz9_1
  try clear hfz9_2
  try clear hfz9_3
  obtain ⟨kq, x2_4, rfl, HA, HJ4, HO_288002, HO_288003, BK287, HB⟩ := hcut
  cases kq with
  | zero => exact absurd HA.out (by simp [gramaryelaw14_FirstWords.j0])
  | succ kj4 =>
   have H := HA.out
   clear HA
   simp only [gramaryelaw14_FirstWords.j0] at H
   replace H := Option.bind_eq_some_iff.mp H
   obtain ⟨⟨t296, t297, t298, t301⟩, A130, H⟩ := H
   replace H : ((first_Words.f kj4 t296 t297 t298 t301 a1 x2_4).bind fun bt304 => ((gramaryeref09_May.f kj4 t288 t289 t290 t293).bind fun t308 => (if t308 = 0 then (if a1 < 0 then (gramaryelaw14_FirstWords.j1 kj4 a1 x2_4 bt304.1 bt304.2 true t288 t289 t290 t293) else (gramaryelaw14_FirstWords.j1 kj4 a1 x2_4 bt304.1 bt304.2 (decide (a1 ≥ (t290.length : Int))) t288 t289 t290 t293)) else (if bt304.2 = t308 then (if (bt304.1.length : Int) = 0 then ((gramaryelaw14_works.f kj4).bind fun t309 => (some t309)) else (some false)) else (some false))))) = some r := H
   have A13 := Aside0.mk A130
   clear A130
   replace H := Option.bind_eq_some_iff.mp H
   obtain ⟨⟨t304, t307⟩, A140, H⟩ := H
   replace H : ((gramaryeref09_May.f kj4 t288 t289 t290 t293).bind fun t308 => (if t308 = 0 then (if a1 < 0 then (gramaryelaw14_FirstWords.j1 kj4 a1 x2_4 t304 t307 true t288 t289 t290 t293) else (gramaryelaw14_FirstWords.j1 kj4 a1 x2_4 t304 t307 (decide (a1 ≥ (t290.length : Int))) t288 t289 t290 t293)) else (if t307 = t308 then (if (t304.length : Int) = 0 then ((gramaryelaw14_works.f kj4).bind fun t309 => (some t309)) else (some false)) else (some false)))) = some r := H
   have A14 := Aside0.mk A140
   clear A140
   replace H := Option.bind_eq_some_iff.mp H
   obtain ⟨t308, A150, H⟩ := H
   replace H : (if t308 = 0 then (if a1 < 0 then (gramaryelaw14_FirstWords.j1 kj4 a1 x2_4 t304 t307 true t288 t289 t290 t293) else (gramaryelaw14_FirstWords.j1 kj4 a1 x2_4 t304 t307 (decide (a1 ≥ (t290.length : Int))) t288 t289 t290 t293)) else (if t307 = t308 then (if (t304.length : Int) = 0 then ((gramaryelaw14_works.f kj4).bind fun t309 => (some t309)) else (some false)) else (some false))) = some r := H
   have A15 := Aside0.mk A150
   clear A150
   by_cases c16 : t308 = 0
   ·rw [if_pos c16] at H
    have c16b0 : (t308 == 0) = true := beq_iff_eq.mpr c16
    have c16b1 : (t308 != 0) = false := bne_eq_false_iff_eq.mpr c16
    clear c16
    have HC17 := Aside0.mk H
    clear H
    have hcz18_0 : wc.cell? ⟨gb287, 0, none⟩ = some (.int .i64 t288) := (blk_cell BK287.out 0).trans rfl
    have hcz18_1 : wc.cell? ⟨gb287, 1, none⟩ = some (.int .i64 t289) := (blk_cell BK287.out 1).trans rfl
    have hcz18_2 : wc.cell? ⟨gb287, 2, none⟩ = some (.slice Ao10 t290.length co10) := (blk_cell BK287.out 2).trans rfl
    have hcz18_3 : wc.cell? ⟨gb287, 3, none⟩ = some (.slice Ao11 t293.length co11) := (blk_cell BK287.out 3).trans rfl
    have hfz18_0 := blk_frozen BK287.out 0
    have hfz18_1 := blk_frozen BK287.out 1
    have hfz18_2 := blk_frozen BK287.out 2
    have hfz18_3 := blk_frozen BK287.out 3
    go_upto_region 8 with (first | ((with_reducible refine gate_callee (f := 8) rfl ?_); refine goesL_ (some 18) rfl rfl Try.func8 (by kernel_rfl) rfl #[.agg #[.int .i64 t288, .int .i64 t289, .slice Ao10 t290.length co10, .slice Ao11 t293.length co11]] rfl (by (try simp only [List.map_toArray, List.map_cons, List.map_nil]); first | done | rfl | (simp only [List.length_drop, List.length_take]; rfl)) ?_; (with_reducible refine (gramaryelaw14_few.calls kj4 t288 t289 _ _ t290 _ _ t293 t296 t297 t298 t301 _ ?side1 ?side2 ?side3 ?side4 A13.out).mono ?_); (case side1 => repeat (first | exact (Kd.R_reads' HO_288002.out).2.2 | (with_reducible refine Kd.C_alloc ?_ _) | (with_reducible refine Kd.C_drewN ?_ _) | (with_reducible refine Kd.C_drew ?_))); (case side2 => exact (Kd.R_reads' HO_288002.out).2.1); (case side3 => repeat (first | exact (Kd.N_reads' HO_288003.out).2.2 | (with_reducible refine Kd.C_alloc ?_ _) | (with_reducible refine Kd.C_drewN ?_ _) | (with_reducible refine Kd.C_drew ?_))); (case side4 => exact (Kd.N_reads' HO_288003.out).2.1); rintro e w19 ⟨v299, v302, rfl, ho0, ho1, hb⟩; refine ⟨_, rfl, ?_⟩; have n0_ := Aside0.mk (Kd.R_elder' (by (with_reducible repeat (first | apply Kd.R_alloc | apply Kd.R_drewN | apply Kd.R_drew)); exact HO_288002.out) (Kd.R_base ho0) hb); (first | have n1_ := Aside0.mk (Kd.N_mono (Kd.N_told (Kd.N_told (Kd.N_old (by (with_reducible repeat (first | apply Kd.N_alloc | apply Kd.N_drewN | apply Kd.N_drew)); exact HO_288003.out) hb) (Kd.R_base ho0)) (Kd.N_base ho1)) (fun _ h_ => h_.1)) | have n1_ := Aside0.mk (Kd.N_mono (Kd.N_told (Kd.N_told (Kd.N_old (by (with_reducible repeat (first | apply Kd.N_alloc | apply Kd.N_drewN | apply Kd.N_drew)); exact HO_288003.out) hb) (Kd.R_base ho0)) (Kd.S_base ho1)) (fun _ h_ => h_.1))); have n2_ := Aside0.mk (Kd.R_lower (Kd.R_new' (Kd.R_mono (ok' := fun k_ => True) ho0 (fun _ hk_ => trivial)) (Kd.R_lt (by (with_reducible repeat (first | apply Kd.R_alloc | apply Kd.R_drewN | apply Kd.R_drew)); exact HO_288002.out))) (below_size (by repeat (first | (with_reducible first | exact HB.out | apply below_alloc | apply pw_below_drewN | apply below_drew1 | refine below_set ?_ GE287.out) | exact HB.out)))); have n3_ := Aside0.mk (Kd.N_lower (Kd.N_mono (ok' := fun k_ => some k_ ≠ (v299 : Value).ownBlock ∧ some k_ ≠ (.slice Ao10 t290.length co10 : Value).ownBlock ∧ some k_ ≠ (.slice Ao11 t293.length co11 : Value).ownBlock ∧ k_ ≠ gb287) ho1 (fun k_ hk_ => ⟨hk_.2, (Kd.fresh' (Kd.R_lt (by (with_reducible repeat (first | apply Kd.R_alloc | apply Kd.R_drewN | apply Kd.R_drew)); exact HO_288002.out)) k_ hk_.1), (Kd.fresh' (Kd.N_lt (by (with_reducible repeat (first | apply Kd.N_alloc | apply Kd.N_drewN | apply Kd.N_drew)); exact HO_288003.out)) k_ hk_.1), (Kd.freshB (g := gb287) (o := .cells #[.int .i64 t288, .int .i64 t289, .slice Ao10 t290.length co10, .slice Ao11 t293.length co11] 25 (0, 0)) (by (with_reducible repeat (first | refine blk_drewN ?_ _ | refine blk_drew ?_ | refine blk_alloc ?_ _)); exact BK287.out) k_ hk_.1)⟩)) (below_size (by repeat (first | (with_reducible first | exact HB.out | apply below_alloc | apply pw_below_drewN | apply below_drew1 | refine below_set ?_ GE287.out) | exact HB.out)))); have n4_ := Aside0.mk (blk_below (g := gb287) (o := .cells #[.int .i64 t288, .int .i64 t289, .slice Ao10 t290.length co10, .slice Ao11 t293.length co11] 25 (0, 0)) (by (with_reducible repeat (first | refine blk_drewN ?_ _ | refine blk_drew ?_ | refine blk_alloc ?_ _)); exact BK287.out) hb); have n5_ := Aside0.mk (below_step (by repeat (first | (with_reducible first | exact HB.out | apply below_alloc | apply pw_below_drewN | apply below_drew1 | refine below_set ?_ GE287.out) | exact HB.out)) hb); clear HO_288002; clear HO_288003; clear BK287; clear HB; have HO_288002 := n0_; have HO_288003 := n1_; have HO300 := n2_; have HO303 := n3_; have BK287 := n4_; have HB := n5_; clear n0_ n1_ n2_ n3_ n4_ n5_; (try clear hb); (try clear hb2); (try clear hk); (try clear hi); (try clear ho0); (try clear ho1); obtain ⟨Ao20, co20, eo20⟩ := Kd.R_slice HO300.out; subst eo20; obtain ⟨Ao21, co21, eo21⟩ := Kd.N_slice HO303.out; subst eo21) | ((with_reducible refine gate_callee (f := 9) rfl ?_); refine goesL_ (some 21) rfl rfl Try.func9 (by kernel_rfl) rfl #[.agg #[.int .i64 t296, .int .i64 t297, .slice Ao20 t298.length co20, .slice Ao21 t301.length co21], .int .i64 a1, .int .i64 x2_4] rfl (by (try simp only [List.map_toArray, List.map_cons, List.map_nil]); first | done | rfl | (simp only [List.length_drop, List.length_take]; rfl)) ?_; (with_reducible refine (first_Words.calls kj4 t296 t297 _ _ t298 _ _ t301 a1 x2_4 t304 t307 _ ?side1 ?side2 ?side3 ?side4 A14.out).mono ?_); (case side1 => repeat (first | exact (Kd.R_reads' HO300.out).2.2 | (with_reducible refine Kd.C_alloc ?_ _) | (with_reducible refine Kd.C_drewN ?_ _) | (with_reducible refine Kd.C_drew ?_))); (case side2 => exact (Kd.R_reads' HO300.out).2.1); (case side3 => repeat (first | exact (Kd.N_reads' HO303.out).2.2 | (with_reducible refine Kd.C_alloc ?_ _) | (with_reducible refine Kd.C_drewN ?_ _) | (with_reducible refine Kd.C_drew ?_))); (case side4 => exact (Kd.N_reads' HO303.out).2.1); rintro e w22 ⟨v305, rfl, ho0, hb⟩; refine ⟨_, rfl, ?_⟩; have n0_ := Aside0.mk (Kd.R_below (by (with_reducible repeat (first | apply Kd.R_alloc | apply Kd.R_drewN | apply Kd.R_drew)); exact HO_288002.out) hb); have n1_ := Aside0.mk (Kd.N_elder' (by (with_reducible repeat (first | apply Kd.N_alloc | apply Kd.N_drewN | apply Kd.N_drew)); exact HO_288003.out) (Kd.R_base ho0) hb); have n2_ := Aside0.mk (Kd.R_below (by (with_reducible repeat (first | apply Kd.R_alloc | apply Kd.R_drewN | apply Kd.R_drew)); exact HO300.out) hb); have n3_ := Aside0.mk (Kd.N_elder' (by (with_reducible repeat (first | apply Kd.N_alloc | apply Kd.N_drewN | apply Kd.N_drew)); exact HO303.out) (Kd.R_base ho0) hb); have n4_ := Aside0.mk (Kd.R_lower ho0 (below_size (by repeat (first | (with_reducible first | exact HB.out | apply below_alloc | apply pw_below_drewN | apply below_drew1 | refine below_set ?_ GE287.out) | exact HB.out)))); have n5_ := Aside0.mk (blk_below (g := gb287) (o := .cells #[.int .i64 t288, .int .i64 t289, .slice Ao10 t290.length co10, .slice Ao11 t293.length co11] 25 (0, 0)) (by (with_reducible repeat (first | refine blk_drewN ?_ _ | refine blk_drew ?_ | refine blk_alloc ?_ _)); exact BK287.out) hb); have n6_ := Aside0.mk (below_step (by repeat (first | (with_reducible first | exact HB.out | apply below_alloc | apply pw_below_drewN | apply below_drew1 | refine below_set ?_ GE287.out) | exact HB.out)) hb); clear HO_288002; clear HO_288003; clear HO300; clear HO303; clear BK287; clear HB; have HO_288002 := n0_; have HO_288003 := n1_; have HO300 := n2_; have HO303 := n3_; have HO306 := n4_; have BK287 := n5_; have HB := n6_; clear n0_ n1_ n2_ n3_ n4_ n5_ n6_; (try clear hb); (try clear hb2); (try clear hk); (try clear hi); (try clear ho0); have hcz23_0 : w22.cell? ⟨gb287, 0, none⟩ = some (.int .i64 t288) := (blk_cell BK287.out 0).trans rfl; have hcz23_1 : w22.cell? ⟨gb287, 1, none⟩ = some (.int .i64 t289) := (blk_cell BK287.out 1).trans rfl; have hcz23_2 : w22.cell? ⟨gb287, 2, none⟩ = some (.slice Ao10 t290.length co10) := (blk_cell BK287.out 2).trans rfl; have hcz23_3 : w22.cell? ⟨gb287, 3, none⟩ = some (.slice Ao11 t293.length co11) := (blk_cell BK287.out 3).trans rfl; have hfz23_0 := blk_frozen BK287.out 0; have hfz23_1 := blk_frozen BK287.out 1; have hfz23_2 := blk_frozen BK287.out 2; have hfz23_3 := blk_frozen BK287.out 3) | ((with_reducible refine gate_callee (f := 10) rfl ?_); refine goesL_ (some 25) rfl rfl Try.func10 (by kernel_rfl) rfl #[.agg #[.int .i64 t288, .int .i64 t289, .slice Ao10 t290.length co10, .slice Ao11 t293.length co11]] rfl (by (try simp only [List.map_toArray, List.map_cons, List.map_nil]); first | done | rfl | (simp only [List.length_drop, List.length_take]; rfl)) ?_; (with_reducible refine (gramaryeref09_May.calls kj4 t288 t289 _ _ t290 _ _ t293 t308 _ ?side1 ?side2 ?side3 ?side4 A15.out).mono ?_); (case side1 => repeat (first | exact (Kd.R_reads' HO_288002.out).2.2 | (with_reducible refine Kd.C_alloc ?_ _) | (with_reducible refine Kd.C_drewN ?_ _) | (with_reducible refine Kd.C_drew ?_))); (case side2 => exact (Kd.R_reads' HO_288002.out).2.1); (case side3 => repeat (first | exact (Kd.N_reads' HO_288003.out).2.2 | (with_reducible refine Kd.C_alloc ?_ _) | (with_reducible refine Kd.C_drewN ?_ _) | (with_reducible refine Kd.C_drew ?_))); (case side4 => exact (Kd.N_reads' HO_288003.out).2.1); rintro e w24 ⟨rfl, hb⟩; refine ⟨_, rfl, ?_⟩; have n0_ := Aside0.mk (Kd.R_below (by (with_reducible repeat (first | apply Kd.R_alloc | apply Kd.R_drewN | apply Kd.R_drew)); exact HO_288002.out) hb); have n1_ := Aside0.mk (Kd.N_below (by (with_reducible repeat (first | apply Kd.N_alloc | apply Kd.N_drewN | apply Kd.N_drew)); exact HO_288003.out) hb); have n2_ := Aside0.mk (Kd.R_below (by (with_reducible repeat (first | apply Kd.R_alloc | apply Kd.R_drewN | apply Kd.R_drew)); exact HO300.out) hb); have n3_ := Aside0.mk (Kd.N_below (by (with_reducible repeat (first | apply Kd.N_alloc | apply Kd.N_drewN | apply Kd.N_drew)); exact HO303.out) hb); have n4_ := Aside0.mk (Kd.R_below (by (with_reducible repeat (first | apply Kd.R_alloc | apply Kd.R_drewN | apply Kd.R_drew)); exact HO306.out) hb); have n5_ := Aside0.mk (blk_below (g := gb287) (o := .cells #[.int .i64 t288, .int .i64 t289, .slice Ao10 t290.length co10, .slice Ao11 t293.length co11] 25 (0, 0)) (by (with_reducible repeat (first | refine blk_drewN ?_ _ | refine blk_drew ?_ | refine blk_alloc ?_ _)); exact BK287.out) hb); have n6_ := Aside0.mk (below_step (by repeat (first | (with_reducible first | exact HB.out | apply below_alloc | apply pw_below_drewN | apply below_drew1 | refine below_set ?_ GE287.out) | exact HB.out)) hb); clear HO_288002; clear HO_288003; clear HO300; clear HO303; clear HO306; clear BK287; clear HB; have HO_288002 := n0_; have HO_288003 := n1_; have HO300 := n2_; have HO303 := n3_; have HO306 := n4_; have BK287 := n5_; have HB := n6_; clear n0_ n1_ n2_ n3_ n4_ n5_ n6_; (try clear hb); (try clear hb2); (try clear hk); (try clear hi)))
    (try simp only [Act.put, List.setIfInBounds_toArray, List.set_cons_zero, List.set_cons_succ])
    go_cut [47] (fun v47 wc => ∃ (kq : Nat) (x47_16 : Bool), v47 = .bool x47_16 ∧ Aside0 (gramaryelaw14_FirstWords.j1 kq a1 x2_4 t304 t307 x47_16 t288 t289 t290 t293 = some r) ∧ Aside0 (kq ≤ kj4) ∧ Aside0 (Kd.R Kd.string 9 wc w.heap.size (fun _ => True) v305 t304) ∧ Aside0 (Kd.R (Kd.int .i64) 3 wc w.heap.size (fun _ => True) (.slice Ao10 t290.length co10) t290) ∧ Aside0 (Kd.N k61 61 wc w.heap.size (fun k_ => some k_ ≠ (v305 : Value).ownBlock ∧ some k_ ≠ ((.slice Ao10 t290.length co10) : Value).ownBlock ∧ k_ ≠ gb287) (.slice Ao11 t293.length co11) t293) ∧ Aside0 (wc.heap[gb287]? = some (.cells #[.int .i64 t288, .int .i64 t289, (.slice Ao10 t290.length co10), (.slice Ao11 t293.length co11)] 25 (0, 0))) ∧ Aside0 (Below w.heap.size w wc))
    case first =>
     have H := HC17.out
     clear HC17
     by_cases c25 : a1 < 0
     ·rw [if_pos c25] at H
      have c25b0 : decide (a1 < 0) = true := decide_eq_true c25
      clear c25
      (first | rw [c25b0] | (simp only [i64_w, i32_w]; rw [c25b0]) | skip)
      have H' := Aside0.mk H
      clear H
      go_wp2
      go_meet
      case rel => exact ⟨_, (true), (by first | rfl | (simp; done) | (simp [*]; done)), H', ⟨by have := HJ4.out; first | omega | exact Nat.le_refl _⟩, ⟨by (with_reducible repeat (first | apply Kd.R_alloc | apply Kd.R_drewN | apply Kd.R_drew)); exact HO306.out⟩, ⟨by (with_reducible repeat (first | apply Kd.R_alloc | apply Kd.R_drewN | apply Kd.R_drew)); exact Kd.R_mono HO_288002.out (fun _ hk => trivial)⟩, ⟨by (with_reducible repeat (first | apply Kd.N_alloc | apply Kd.N_drewN | apply Kd.N_drew)); exact Kd.N_mono HO_288003.out (fun _ hk => ⟨hk.2, ⟨hk.1.1.1.1, hk.1.1.1.2⟩⟩)⟩, ⟨by (with_reducible repeat (first | refine blk_drewN ?_ _ | refine blk_drew ?_ | refine blk_alloc ?_ _)); exact BK287.out⟩, ⟨by repeat (first | (with_reducible first | exact HB.out | apply below_alloc | apply pw_below_drewN | apply below_drew1 | refine below_set ?_ GE287.out) | exact HB.out)⟩⟩
     ·rw [if_neg c25] at H
      have c25b0 : decide (a1 < 0) = false := decide_eq_false c25
      clear c25
      (first | rw [c25b0] | (simp only [i64_w, i32_w]; rw [c25b0]) | skip)
      have H' := Aside0.mk H
      clear H
      have hcz26_0 : w24.cell? ⟨gb287, 0, none⟩ = some (.int .i64 t288) := (blk_cell BK287.out 0).trans rfl
      have hcz26_1 : w24.cell? ⟨gb287, 1, none⟩ = some (.int .i64 t289) := (blk_cell BK287.out 1).trans rfl
      have hcz26_2 : w24.cell? ⟨gb287, 2, none⟩ = some (.slice Ao10 t290.length co10) := (blk_cell BK287.out 2).trans rfl
      have hcz26_3 : w24.cell? ⟨gb287, 3, none⟩ = some (.slice Ao11 t293.length co11) := (blk_cell BK287.out 3).trans rfl
      have hfz26_0 := blk_frozen BK287.out 0
      have hfz26_1 := blk_frozen BK287.out 1
      have hfz26_2 := blk_frozen BK287.out 2
      have hfz26_3 := blk_frozen BK287.out 3
      go_wp2
      go_meet
      case rel => exact ⟨_, (decide (a1 ≥ (t290.length : Int))), (by first | rfl | (simp; done) | (simp [*]; done)), H', ⟨by have := HJ4.out; first | omega | exact Nat.le_refl _⟩, ⟨by (with_reducible repeat (first | apply Kd.R_alloc | apply Kd.R_drewN | apply Kd.R_drew)); exact HO306.out⟩, ⟨by (with_reducible repeat (first | apply Kd.R_alloc | apply Kd.R_drewN | apply Kd.R_drew)); exact Kd.R_mono HO_288002.out (fun _ hk => trivial)⟩, ⟨by (with_reducible repeat (first | apply Kd.N_alloc | apply Kd.N_drewN | apply Kd.N_drew)); exact Kd.N_mono HO_288003.out (fun _ hk => ⟨hk.2, ⟨hk.1.1.1.1, hk.1.1.1.2⟩⟩)⟩, ⟨by (with_reducible repeat (first | refine blk_drewN ?_ _ | refine blk_drew ?_ | refine blk_alloc ?_ _)); exact BK287.out⟩, ⟨by repeat (first | (with_reducible first | exact HB.out | apply below_alloc | apply pw_below_drewN | apply below_drew1 | refine below_set ?_ GE287.out) | exact HB.out)⟩⟩
    case rest =>
     clear HC17
     try clear c1
     try clear c2
     try clear p2
     try clear c3
     try clear c8
     try clear c9
     try clear c10
     try clear c12
     try clear c12b0
     try clear c16
     try clear c16b0
     try clear c16b1
     try clear c25
     try clear c25b0
     try clear hcz18_0
     try clear hcz18_1
     try clear hcz18_2
     try clear hcz18_3
     try clear hcz23_0
     try clear hcz23_1
     try clear hcz23_2
     try clear hcz23_3
     try clear hcz26_0
     try clear hcz26_1
     try clear hcz26_2
     try clear hcz26_3
     try clear hcz7_0
     try clear hcz7_1
     try clear hcz7_2
     try clear hcz7_3
     try clear hcz9_0
     try clear hcz9_1
     try clear hcz9_2
     try clear hcz9_3
     try clear hfz18_0
     try clear hfz18_1
     try clear hfz18_2
     try clear hfz18_3
     try clear hfz23_0
     try clear hfz23_1
     try clear hfz23_2
     try clear hfz23_3
     try clear hfz26_0
     try clear hfz26_1
     try clear hfz26_2
     try clear hfz26_3
     try clear hfz7_0
     try clear hfz7_1
     try clear hfz7_2
     try clear hfz7_3
     try clear hfz9_0
     try clear hfz9_1
     try clear hfz9_2
     try clear hfz9_3
     try clear p2
     obtain ⟨kq, x47_16, rfl, HA, HJ16, HO_7, HO_288002, HO_288003, BK287, HB⟩ := hcut
     cases kq with
     | zero => exact absurd HA.out (by simp [gramaryelaw14_FirstWords.j1])
     | succ kj16 =>
      have H := HA.out
      clear HA
      simp only [gramaryelaw14_FirstWords.j1] at H
      by_cases c27 : x47_16 = true
      ·subst c27
       have H1 : (if t307 = 3 then (if (t304.length : Int) = 0 then ((gramaryelaw14_works.f kj16).bind fun t310 => (some t310)) else (some false)) else (some false)) = some r := by rw [if_pos rfl] at H; exact H
       clear H
       have H := H1
       clear H1
       by_cases c28 : t307 = 3
       ·rw [if_pos c28] at H
        have c28b0 : (t307 == 3) = true := beq_iff_eq.mpr c28
        have c28b1 : (t307 != 3) = false := bne_eq_false_iff_eq.mpr c28
        clear c28
        by_cases c29 : (t304.length : Int) = 0
        ·rw [if_pos c29] at H
         have c29b0 : ((t304.length : Int) == 0) = true := beq_iff_eq.mpr c29
         have c29b1 : ((t304.length : Int) != 0) = false := bne_eq_false_iff_eq.mpr c29
         clear c29
         replace H := Option.bind_eq_some_iff.mp H
         obtain ⟨t310, A300, H⟩ := H
         replace H : (some t310) = some r := H
         have A30 := Aside0.mk A300
         clear A300
         obtain rfl := Option.some.inj H
         obtain ⟨Ao31, co31, eo31⟩ := Kd.R_slice HO_7.out
         subst eo31
         go_wp2_with (first | (go_at_call 11; (with_reducible refine (gramaryelaw14_works.calls kj16  t310 _ A30.out).mono ?_); rintro e w32 ⟨rfl, hb⟩; have n4_ := Aside0.mk (below_step (by repeat (first | (with_reducible first | exact HB.out | apply below_alloc | apply pw_below_drewN | apply below_drew1 | refine below_set ?_ GE287.out) | exact HB.out)) hb); clear HB; have HB := n4_; clear n4_; (try clear hb); (try clear hb2); (try clear hk); (try clear hi)))
         go_ret
         exact ⟨by first | rfl | (simp [errW_none, errW_some] <;> rfl) | (simp [*, errW_none, errW_some] <;> rfl), by repeat (first | (with_reducible first | exact HB.out | apply below_alloc | apply pw_below_drewN | apply below_drew1 | refine below_set ?_ GE287.out) | exact HB.out)⟩
        ·rw [if_neg c29] at H
         have c29b0 : ((t304.length : Int) == 0) = false := beq_eq_false_iff_ne.mpr c29
         have c29b1 : ((t304.length : Int) != 0) = true := bne_iff_ne.mpr c29
         have c29b2 : ¬ (t304 = []) := fun h_ => c29 (by rw [h_]; rfl)
         obtain rfl := Option.some.inj H
         obtain ⟨Ao33, co33, eo33⟩ := Kd.R_slice HO_7.out
         subst eo33
         go_wp2
         go_ret
         exact ⟨by first | rfl | (simp [errW_none, errW_some] <;> rfl) | (simp [*, errW_none, errW_some] <;> rfl), by repeat (first | (with_reducible first | exact HB.out | apply below_alloc | apply pw_below_drewN | apply below_drew1 | refine below_set ?_ GE287.out) | exact HB.out)⟩
       ·rw [if_neg c28] at H
        have c28b0 : (t307 == 3) = false := beq_eq_false_iff_ne.mpr c28
        have c28b1 : (t307 != 3) = true := bne_iff_ne.mpr c28
        obtain rfl := Option.some.inj H
        go_wp2
        go_ret
        exact ⟨by first | rfl | (simp [errW_none, errW_some] <;> rfl) | (simp [*, errW_none, errW_some] <;> rfl), by repeat (first | (with_reducible first | exact HB.out | apply below_alloc | apply pw_below_drewN | apply below_drew1 | refine below_set ?_ GE287.out) | exact HB.out)⟩
      ·replace c27 := Bool.eq_false_iff.mpr c27
       subst c27
       have H1 : ((gramaryeref14_Words.f kj16 t288 t289 t290 t293 a1 x2_4).bind fun bt311 => (if bt311.2 = true then (if t307 = 0 then ((gramaryebase_SameTexts.f kj16 t304 bt311.1).bind fun t315 => (if t315 = true then ((gramaryelaw14_works.f kj16).bind fun t316 => (some t316)) else (some false))) else (some false)) else (if t307 = 15 then (if (t304.length : Int) = 0 then ((gramaryelaw14_works.f kj16).bind fun t317 => (some t317)) else (some false)) else (some false)))) = some r := by rw [if_neg (show ¬ (false = true) by decide)] at H; exact H
       clear H
       have H := H1
       clear H1
       replace H := Option.bind_eq_some_iff.mp H
       obtain ⟨⟨t311, t314⟩, A340, H⟩ := H
       replace H : (if t314 = true then (if t307 = 0 then ((gramaryebase_SameTexts.f kj16 t304 t311).bind fun t315 => (if t315 = true then ((gramaryelaw14_works.f kj16).bind fun t316 => (some t316)) else (some false))) else (some false)) else (if t307 = 15 then (if (t304.length : Int) = 0 then ((gramaryelaw14_works.f kj16).bind fun t317 => (some t317)) else (some false)) else (some false))) = some r := H
       have A34 := Aside0.mk A340
       clear A340
       by_cases c35 : t314 = true
       ·subst c35
        have H1 : (if t307 = 0 then ((gramaryebase_SameTexts.f kj16 t304 t311).bind fun t315 => (if t315 = true then ((gramaryelaw14_works.f kj16).bind fun t316 => (some t316)) else (some false))) else (some false)) = some r := by rw [if_pos rfl] at H; exact H
        clear H
        have H := H1
        clear H1
        by_cases c36 : t307 = 0
        ·rw [if_pos c36] at H
         have c36b0 : (t307 == 0) = true := beq_iff_eq.mpr c36
         have c36b1 : (t307 != 0) = false := bne_eq_false_iff_eq.mpr c36
         clear c36
         replace H := Option.bind_eq_some_iff.mp H
         obtain ⟨t315, A370, H⟩ := H
         replace H : (if t315 = true then ((gramaryelaw14_works.f kj16).bind fun t316 => (some t316)) else (some false)) = some r := H
         have A37 := Aside0.mk A370
         clear A370
         by_cases c38 : t315 = true
         ·subst c38
          have H1 : ((gramaryelaw14_works.f kj16).bind fun t316 => (some t316)) = some r := by rw [if_pos rfl] at H; exact H
          clear H
          have H := H1
          clear H1
          replace H := Option.bind_eq_some_iff.mp H
          obtain ⟨t316, A390, H⟩ := H
          replace H : (some t316) = some r := H
          have A39 := Aside0.mk A390
          clear A390
          obtain rfl := Option.some.inj H
          have hcz40_0 : wc.cell? ⟨gb287, 0, none⟩ = some (.int .i64 t288) := (blk_cell BK287.out 0).trans rfl
          have hcz40_1 : wc.cell? ⟨gb287, 1, none⟩ = some (.int .i64 t289) := (blk_cell BK287.out 1).trans rfl
          have hcz40_2 : wc.cell? ⟨gb287, 2, none⟩ = some (.slice Ao10 t290.length co10) := (blk_cell BK287.out 2).trans rfl
          have hcz40_3 : wc.cell? ⟨gb287, 3, none⟩ = some (.slice Ao11 t293.length co11) := (blk_cell BK287.out 3).trans rfl
          have hfz40_0 := blk_frozen BK287.out 0
          have hfz40_1 := blk_frozen BK287.out 1
          have hfz40_2 := blk_frozen BK287.out 2
          have hfz40_3 := blk_frozen BK287.out 3
          go_wp2_with (first | ((with_reducible refine gate_callee (f := 12) rfl ?_); refine goesL_ (some 62) rfl rfl Try.func12 (by kernel_rfl) rfl #[.agg #[.int .i64 t288, .int .i64 t289, .slice Ao10 t290.length co10, .slice Ao11 t293.length co11], .int .i64 a1, .int .i64 x2_4] rfl (by (try simp only [List.map_toArray, List.map_cons, List.map_nil]); first | done | rfl | (simp only [List.length_drop, List.length_take]; rfl)) ?_; (with_reducible refine (gramaryeref14_Words.calls kj16 t288 t289 _ _ t290 _ _ t293 a1 x2_4 t311 true _ ?side1 ?side2 ?side3 ?side4 A34.out).mono ?_); (case side1 => repeat (first | exact (Kd.R_reads' HO_288002.out).2.2 | (with_reducible refine Kd.C_alloc ?_ _) | (with_reducible refine Kd.C_drewN ?_ _) | (with_reducible refine Kd.C_drew ?_))); (case side2 => exact (Kd.R_reads' HO_288002.out).2.1); (case side3 => repeat (first | exact (Kd.N_reads' HO_288003.out).2.2 | (with_reducible refine Kd.C_alloc ?_ _) | (with_reducible refine Kd.C_drewN ?_ _) | (with_reducible refine Kd.C_drew ?_))); (case side4 => exact (Kd.N_reads' HO_288003.out).2.1); rintro e w41 ⟨v312, rfl, ho0, hb⟩; refine ⟨_, rfl, ?_⟩; have n0_ := Aside0.mk (Kd.R_elder' (by (with_reducible repeat (first | apply Kd.R_alloc | apply Kd.R_drewN | apply Kd.R_drew)); exact HO_7.out) (Kd.R_base ho0) hb); have n3_ := Aside0.mk (Kd.R_lower (Kd.R_new' ho0 (Kd.R_lt (by (with_reducible repeat (first | apply Kd.R_alloc | apply Kd.R_drewN | apply Kd.R_drew)); exact HO_7.out))) (below_size (by repeat (first | (with_reducible first | exact HB.out | apply below_alloc | apply pw_below_drewN | apply below_drew1 | refine below_set ?_ GE287.out) | exact HB.out)))); have n5_ := Aside0.mk (below_step (by repeat (first | (with_reducible first | exact HB.out | apply below_alloc | apply pw_below_drewN | apply below_drew1 | refine below_set ?_ GE287.out) | exact HB.out)) hb); clear HO_7; clear HB; have HO_7 := n0_; have HO313 := n3_; have HB := n5_; clear n0_ n3_ n5_; (try clear hb); (try clear hb2); (try clear hk); (try clear hi); (try clear ho0); obtain ⟨Ao42, co42, eo42⟩ := Kd.R_slice HO_7.out; subst eo42; obtain ⟨Ao43, co43, eo43⟩ := Kd.R_slice HO313.out; subst eo43) | (go_at_call 13; (with_reducible refine (gramaryebase_SameTexts.calls kj16 _ _ t304 _ _ t311 true _ ?side1 ?side2 ?side3 ?side4 A37.out).mono ?_); (case side1 => repeat (first | exact (Kd.R_reads' HO_7.out).2.2 | (with_reducible refine Kd.C_alloc ?_ _) | (with_reducible refine Kd.C_drewN ?_ _) | (with_reducible refine Kd.C_drew ?_))); (case side2 => exact (Kd.R_reads' HO_7.out).2.1); (case side3 => repeat (first | exact (Kd.R_reads' HO313.out).2.2 | (with_reducible refine Kd.C_alloc ?_ _) | (with_reducible refine Kd.C_drewN ?_ _) | (with_reducible refine Kd.C_drew ?_))); (case side4 => exact (Kd.R_reads' HO313.out).2.1); rintro e w' ⟨rfl, ⟨nd, rfl⟩⟩) | (go_at_call 11; (with_reducible refine (gramaryelaw14_works.calls kj16  t316 _ A39.out).mono ?_); rintro e w44 ⟨rfl, hb⟩; have n5_ := Aside0.mk (below_step (by repeat (first | (with_reducible first | exact HB.out | apply below_alloc | apply pw_below_drewN | apply below_drew1 | refine below_set ?_ GE287.out) | exact HB.out)) hb); clear HB; have HB := n5_; clear n5_; (try clear hb); (try clear hb2); (try clear hk); (try clear hi)))
          go_ret
          exact ⟨by first | rfl | (simp [errW_none, errW_some] <;> rfl) | (simp [*, errW_none, errW_some] <;> rfl), by repeat (first | (with_reducible first | exact HB.out | apply below_alloc | apply pw_below_drewN | apply below_drew1 | refine below_set ?_ GE287.out) | exact HB.out)⟩
         ·replace c38 := Bool.eq_false_iff.mpr c38
          subst c38
          have H1 : (some false) = some r := by rw [if_neg (show ¬ (false = true) by decide)] at H; exact H
          clear H
          have H := H1
          clear H1
          obtain rfl := Option.some.inj H
          have hcz45_0 : wc.cell? ⟨gb287, 0, none⟩ = some (.int .i64 t288) := (blk_cell BK287.out 0).trans rfl
          have hcz45_1 : wc.cell? ⟨gb287, 1, none⟩ = some (.int .i64 t289) := (blk_cell BK287.out 1).trans rfl
          have hcz45_2 : wc.cell? ⟨gb287, 2, none⟩ = some (.slice Ao10 t290.length co10) := (blk_cell BK287.out 2).trans rfl
          have hcz45_3 : wc.cell? ⟨gb287, 3, none⟩ = some (.slice Ao11 t293.length co11) := (blk_cell BK287.out 3).trans rfl
          have hfz45_0 := blk_frozen BK287.out 0
          have hfz45_1 := blk_frozen BK287.out 1
          have hfz45_2 := blk_frozen BK287.out 2
          have hfz45_3 := blk_frozen BK287.out 3
          go_wp2_with (first | ((with_reducible refine gate_callee (f := 12) rfl ?_); refine goesL_ (some 62) rfl rfl Try.func12 (by kernel_rfl) rfl #[.agg #[.int .i64 t288, .int .i64 t289, .slice Ao10 t290.length co10, .slice Ao11 t293.length co11], .int .i64 a1, .int .i64 x2_4] rfl (by (try simp only [List.map_toArray, List.map_cons, List.map_nil]); first | done | rfl | (simp only [List.length_drop, List.length_take]; rfl)) ?_; (with_reducible refine (gramaryeref14_Words.calls kj16 t288 t289 _ _ t290 _ _ t293 a1 x2_4 t311 true _ ?side1 ?side2 ?side3 ?side4 A34.out).mono ?_); (case side1 => repeat (first | exact (Kd.R_reads' HO_288002.out).2.2 | (with_reducible refine Kd.C_alloc ?_ _) | (with_reducible refine Kd.C_drewN ?_ _) | (with_reducible refine Kd.C_drew ?_))); (case side2 => exact (Kd.R_reads' HO_288002.out).2.1); (case side3 => repeat (first | exact (Kd.N_reads' HO_288003.out).2.2 | (with_reducible refine Kd.C_alloc ?_ _) | (with_reducible refine Kd.C_drewN ?_ _) | (with_reducible refine Kd.C_drew ?_))); (case side4 => exact (Kd.N_reads' HO_288003.out).2.1); rintro e w46 ⟨v312, rfl, ho0, hb⟩; refine ⟨_, rfl, ?_⟩; have n0_ := Aside0.mk (Kd.R_elder' (by (with_reducible repeat (first | apply Kd.R_alloc | apply Kd.R_drewN | apply Kd.R_drew)); exact HO_7.out) (Kd.R_base ho0) hb); have n3_ := Aside0.mk (Kd.R_lower (Kd.R_new' ho0 (Kd.R_lt (by (with_reducible repeat (first | apply Kd.R_alloc | apply Kd.R_drewN | apply Kd.R_drew)); exact HO_7.out))) (below_size (by repeat (first | (with_reducible first | exact HB.out | apply below_alloc | apply pw_below_drewN | apply below_drew1 | refine below_set ?_ GE287.out) | exact HB.out)))); have n5_ := Aside0.mk (below_step (by repeat (first | (with_reducible first | exact HB.out | apply below_alloc | apply pw_below_drewN | apply below_drew1 | refine below_set ?_ GE287.out) | exact HB.out)) hb); clear HO_7; clear HB; have HO_7 := n0_; have HO313 := n3_; have HB := n5_; clear n0_ n3_ n5_; (try clear hb); (try clear hb2); (try clear hk); (try clear hi); (try clear ho0); obtain ⟨Ao47, co47, eo47⟩ := Kd.R_slice HO_7.out; subst eo47; obtain ⟨Ao48, co48, eo48⟩ := Kd.R_slice HO313.out; subst eo48) | (go_at_call 13; (with_reducible refine (gramaryebase_SameTexts.calls kj16 _ _ t304 _ _ t311 false _ ?side1 ?side2 ?side3 ?side4 A37.out).mono ?_); (case side1 => repeat (first | exact (Kd.R_reads' HO_7.out).2.2 | (with_reducible refine Kd.C_alloc ?_ _) | (with_reducible refine Kd.C_drewN ?_ _) | (with_reducible refine Kd.C_drew ?_))); (case side2 => exact (Kd.R_reads' HO_7.out).2.1); (case side3 => repeat (first | exact (Kd.R_reads' HO313.out).2.2 | (with_reducible refine Kd.C_alloc ?_ _) | (with_reducible refine Kd.C_drewN ?_ _) | (with_reducible refine Kd.C_drew ?_))); (case side4 => exact (Kd.R_reads' HO313.out).2.1); rintro e w' ⟨rfl, ⟨nd, rfl⟩⟩))
          go_ret
          exact ⟨by first | rfl | (simp [errW_none, errW_some] <;> rfl) | (simp [*, errW_none, errW_some] <;> rfl), by repeat (first | (with_reducible first | exact HB.out | apply below_alloc | apply pw_below_drewN | apply below_drew1 | refine below_set ?_ GE287.out) | exact HB.out)⟩
        ·rw [if_neg c36] at H
         have c36b0 : (t307 == 0) = false := beq_eq_false_iff_ne.mpr c36
         have c36b1 : (t307 != 0) = true := bne_iff_ne.mpr c36
         obtain rfl := Option.some.inj H
         have hcz49_0 : wc.cell? ⟨gb287, 0, none⟩ = some (.int .i64 t288) := (blk_cell BK287.out 0).trans rfl
         have hcz49_1 : wc.cell? ⟨gb287, 1, none⟩ = some (.int .i64 t289) := (blk_cell BK287.out 1).trans rfl
         have hcz49_2 : wc.cell? ⟨gb287, 2, none⟩ = some (.slice Ao10 t290.length co10) := (blk_cell BK287.out 2).trans rfl
         have hcz49_3 : wc.cell? ⟨gb287, 3, none⟩ = some (.slice Ao11 t293.length co11) := (blk_cell BK287.out 3).trans rfl
         have hfz49_0 := blk_frozen BK287.out 0
         have hfz49_1 := blk_frozen BK287.out 1
         have hfz49_2 := blk_frozen BK287.out 2
         have hfz49_3 := blk_frozen BK287.out 3
         go_wp2_with (first | ((with_reducible refine gate_callee (f := 12) rfl ?_); refine goesL_ (some 62) rfl rfl Try.func12 (by kernel_rfl) rfl #[.agg #[.int .i64 t288, .int .i64 t289, .slice Ao10 t290.length co10, .slice Ao11 t293.length co11], .int .i64 a1, .int .i64 x2_4] rfl (by (try simp only [List.map_toArray, List.map_cons, List.map_nil]); first | done | rfl | (simp only [List.length_drop, List.length_take]; rfl)) ?_; (with_reducible refine (gramaryeref14_Words.calls kj16 t288 t289 _ _ t290 _ _ t293 a1 x2_4 t311 true _ ?side1 ?side2 ?side3 ?side4 A34.out).mono ?_); (case side1 => repeat (first | exact (Kd.R_reads' HO_288002.out).2.2 | (with_reducible refine Kd.C_alloc ?_ _) | (with_reducible refine Kd.C_drewN ?_ _) | (with_reducible refine Kd.C_drew ?_))); (case side2 => exact (Kd.R_reads' HO_288002.out).2.1); (case side3 => repeat (first | exact (Kd.N_reads' HO_288003.out).2.2 | (with_reducible refine Kd.C_alloc ?_ _) | (with_reducible refine Kd.C_drewN ?_ _) | (with_reducible refine Kd.C_drew ?_))); (case side4 => exact (Kd.N_reads' HO_288003.out).2.1); rintro e w50 ⟨v312, rfl, ho0, hb⟩; refine ⟨_, rfl, ?_⟩; have n5_ := Aside0.mk (below_step (by repeat (first | (with_reducible first | exact HB.out | apply below_alloc | apply pw_below_drewN | apply below_drew1 | refine below_set ?_ GE287.out) | exact HB.out)) hb); clear HB; have HB := n5_; clear n5_; (try clear hb); (try clear hb2); (try clear hk); (try clear hi); (try clear ho0)))
         go_ret
         exact ⟨by first | rfl | (simp [errW_none, errW_some] <;> rfl) | (simp [*, errW_none, errW_some] <;> rfl), by repeat (first | (with_reducible first | exact HB.out | apply below_alloc | apply pw_below_drewN | apply below_drew1 | refine below_set ?_ GE287.out) | exact HB.out)⟩
       ·replace c35 := Bool.eq_false_iff.mpr c35
        subst c35
        have H1 : (if t307 = 15 then (if (t304.length : Int) = 0 then ((gramaryelaw14_works.f kj16).bind fun t317 => (some t317)) else (some false)) else (some false)) = some r := by rw [if_neg (show ¬ (false = true) by decide)] at H; exact H
        clear H
        have H := H1
        clear H1
        by_cases c51 : t307 = 15
        ·rw [if_pos c51] at H
         have c51b0 : (t307 == 15) = true := beq_iff_eq.mpr c51
         have c51b1 : (t307 != 15) = false := bne_eq_false_iff_eq.mpr c51
         clear c51
         by_cases c52 : (t304.length : Int) = 0
         ·rw [if_pos c52] at H
          have c52b0 : ((t304.length : Int) == 0) = true := beq_iff_eq.mpr c52
          have c52b1 : ((t304.length : Int) != 0) = false := bne_eq_false_iff_eq.mpr c52
          clear c52
          replace H := Option.bind_eq_some_iff.mp H
          obtain ⟨t317, A530, H⟩ := H
          replace H : (some t317) = some r := H
          have A53 := Aside0.mk A530
          clear A530
          obtain rfl := Option.some.inj H
          have hcz54_0 : wc.cell? ⟨gb287, 0, none⟩ = some (.int .i64 t288) := (blk_cell BK287.out 0).trans rfl
          have hcz54_1 : wc.cell? ⟨gb287, 1, none⟩ = some (.int .i64 t289) := (blk_cell BK287.out 1).trans rfl
          have hcz54_2 : wc.cell? ⟨gb287, 2, none⟩ = some (.slice Ao10 t290.length co10) := (blk_cell BK287.out 2).trans rfl
          have hcz54_3 : wc.cell? ⟨gb287, 3, none⟩ = some (.slice Ao11 t293.length co11) := (blk_cell BK287.out 3).trans rfl
          have hfz54_0 := blk_frozen BK287.out 0
          have hfz54_1 := blk_frozen BK287.out 1
          have hfz54_2 := blk_frozen BK287.out 2
          have hfz54_3 := blk_frozen BK287.out 3
          go_wp2_with (first | ((with_reducible refine gate_callee (f := 12) rfl ?_); refine goesL_ (some 62) rfl rfl Try.func12 (by kernel_rfl) rfl #[.agg #[.int .i64 t288, .int .i64 t289, .slice Ao10 t290.length co10, .slice Ao11 t293.length co11], .int .i64 a1, .int .i64 x2_4] rfl (by (try simp only [List.map_toArray, List.map_cons, List.map_nil]); first | done | rfl | (simp only [List.length_drop, List.length_take]; rfl)) ?_; (with_reducible refine (gramaryeref14_Words.calls kj16 t288 t289 _ _ t290 _ _ t293 a1 x2_4 t311 false _ ?side1 ?side2 ?side3 ?side4 A34.out).mono ?_); (case side1 => repeat (first | exact (Kd.R_reads' HO_288002.out).2.2 | (with_reducible refine Kd.C_alloc ?_ _) | (with_reducible refine Kd.C_drewN ?_ _) | (with_reducible refine Kd.C_drew ?_))); (case side2 => exact (Kd.R_reads' HO_288002.out).2.1); (case side3 => repeat (first | exact (Kd.N_reads' HO_288003.out).2.2 | (with_reducible refine Kd.C_alloc ?_ _) | (with_reducible refine Kd.C_drewN ?_ _) | (with_reducible refine Kd.C_drew ?_))); (case side4 => exact (Kd.N_reads' HO_288003.out).2.1); rintro e w55 ⟨v312, rfl, ho0, hb⟩; refine ⟨_, rfl, ?_⟩; have n0_ := Aside0.mk (Kd.R_elder' (by (with_reducible repeat (first | apply Kd.R_alloc | apply Kd.R_drewN | apply Kd.R_drew)); exact HO_7.out) (Kd.R_base ho0) hb); have n5_ := Aside0.mk (below_step (by repeat (first | (with_reducible first | exact HB.out | apply below_alloc | apply pw_below_drewN | apply below_drew1 | refine below_set ?_ GE287.out) | exact HB.out)) hb); clear HO_7; clear HB; have HO_7 := n0_; have HB := n5_; clear n0_ n5_; (try clear hb); (try clear hb2); (try clear hk); (try clear hi); (try clear ho0); obtain ⟨Ao56, co56, eo56⟩ := Kd.R_slice HO_7.out; subst eo56) | (go_at_call 11; (with_reducible refine (gramaryelaw14_works.calls kj16  t317 _ A53.out).mono ?_); rintro e w57 ⟨rfl, hb⟩; have n5_ := Aside0.mk (below_step (by repeat (first | (with_reducible first | exact HB.out | apply below_alloc | apply pw_below_drewN | apply below_drew1 | refine below_set ?_ GE287.out) | exact HB.out)) hb); clear HB; have HB := n5_; clear n5_; (try clear hb); (try clear hb2); (try clear hk); (try clear hi)))
          go_ret
          exact ⟨by first | rfl | (simp [errW_none, errW_some] <;> rfl) | (simp [*, errW_none, errW_some] <;> rfl), by repeat (first | (with_reducible first | exact HB.out | apply below_alloc | apply pw_below_drewN | apply below_drew1 | refine below_set ?_ GE287.out) | exact HB.out)⟩
         ·rw [if_neg c52] at H
          have c52b0 : ((t304.length : Int) == 0) = false := beq_eq_false_iff_ne.mpr c52
          have c52b1 : ((t304.length : Int) != 0) = true := bne_iff_ne.mpr c52
          have c52b2 : ¬ (t304 = []) := fun h_ => c52 (by rw [h_]; rfl)
          obtain rfl := Option.some.inj H
          have hcz58_0 : wc.cell? ⟨gb287, 0, none⟩ = some (.int .i64 t288) := (blk_cell BK287.out 0).trans rfl
          have hcz58_1 : wc.cell? ⟨gb287, 1, none⟩ = some (.int .i64 t289) := (blk_cell BK287.out 1).trans rfl
          have hcz58_2 : wc.cell? ⟨gb287, 2, none⟩ = some (.slice Ao10 t290.length co10) := (blk_cell BK287.out 2).trans rfl
          have hcz58_3 : wc.cell? ⟨gb287, 3, none⟩ = some (.slice Ao11 t293.length co11) := (blk_cell BK287.out 3).trans rfl
          have hfz58_0 := blk_frozen BK287.out 0
          have hfz58_1 := blk_frozen BK287.out 1
          have hfz58_2 := blk_frozen BK287.out 2
          have hfz58_3 := blk_frozen BK287.out 3
          go_wp2_with (first | ((with_reducible refine gate_callee (f := 12) rfl ?_); refine goesL_ (some 62) rfl rfl Try.func12 (by kernel_rfl) rfl #[.agg #[.int .i64 t288, .int .i64 t289, .slice Ao10 t290.length co10, .slice Ao11 t293.length co11], .int .i64 a1, .int .i64 x2_4] rfl (by (try simp only [List.map_toArray, List.map_cons, List.map_nil]); first | done | rfl | (simp only [List.length_drop, List.length_take]; rfl)) ?_; (with_reducible refine (gramaryeref14_Words.calls kj16 t288 t289 _ _ t290 _ _ t293 a1 x2_4 t311 false _ ?side1 ?side2 ?side3 ?side4 A34.out).mono ?_); (case side1 => repeat (first | exact (Kd.R_reads' HO_288002.out).2.2 | (with_reducible refine Kd.C_alloc ?_ _) | (with_reducible refine Kd.C_drewN ?_ _) | (with_reducible refine Kd.C_drew ?_))); (case side2 => exact (Kd.R_reads' HO_288002.out).2.1); (case side3 => repeat (first | exact (Kd.N_reads' HO_288003.out).2.2 | (with_reducible refine Kd.C_alloc ?_ _) | (with_reducible refine Kd.C_drewN ?_ _) | (with_reducible refine Kd.C_drew ?_))); (case side4 => exact (Kd.N_reads' HO_288003.out).2.1); rintro e w59 ⟨v312, rfl, ho0, hb⟩; refine ⟨_, rfl, ?_⟩; have n0_ := Aside0.mk (Kd.R_elder' (by (with_reducible repeat (first | apply Kd.R_alloc | apply Kd.R_drewN | apply Kd.R_drew)); exact HO_7.out) (Kd.R_base ho0) hb); have n5_ := Aside0.mk (below_step (by repeat (first | (with_reducible first | exact HB.out | apply below_alloc | apply pw_below_drewN | apply below_drew1 | refine below_set ?_ GE287.out) | exact HB.out)) hb); clear HO_7; clear HB; have HO_7 := n0_; have HB := n5_; clear n0_ n5_; (try clear hb); (try clear hb2); (try clear hk); (try clear hi); (try clear ho0); obtain ⟨Ao60, co60, eo60⟩ := Kd.R_slice HO_7.out; subst eo60))
          go_ret
          exact ⟨by first | rfl | (simp [errW_none, errW_some] <;> rfl) | (simp [*, errW_none, errW_some] <;> rfl), by repeat (first | (with_reducible first | exact HB.out | apply below_alloc | apply pw_below_drewN | apply below_drew1 | refine below_set ?_ GE287.out) | exact HB.out)⟩
        ·rw [if_neg c51] at H
         have c51b0 : (t307 == 15) = false := beq_eq_false_iff_ne.mpr c51
         have c51b1 : (t307 != 15) = true := bne_iff_ne.mpr c51
         obtain rfl := Option.some.inj H
         have hcz61_0 : wc.cell? ⟨gb287, 0, none⟩ = some (.int .i64 t288) := (blk_cell BK287.out 0).trans rfl
         have hcz61_1 : wc.cell? ⟨gb287, 1, none⟩ = some (.int .i64 t289) := (blk_cell BK287.out 1).trans rfl
         have hcz61_2 : wc.cell? ⟨gb287, 2, none⟩ = some (.slice Ao10 t290.length co10) := (blk_cell BK287.out 2).trans rfl
         have hcz61_3 : wc.cell? ⟨gb287, 3, none⟩ = some (.slice Ao11 t293.length co11) := (blk_cell BK287.out 3).trans rfl
         have hfz61_0 := blk_frozen BK287.out 0
         have hfz61_1 := blk_frozen BK287.out 1
         have hfz61_2 := blk_frozen BK287.out 2
         have hfz61_3 := blk_frozen BK287.out 3
         go_wp2_with (first | ((with_reducible refine gate_callee (f := 12) rfl ?_); refine goesL_ (some 62) rfl rfl Try.func12 (by kernel_rfl) rfl #[.agg #[.int .i64 t288, .int .i64 t289, .slice Ao10 t290.length co10, .slice Ao11 t293.length co11], .int .i64 a1, .int .i64 x2_4] rfl (by (try simp only [List.map_toArray, List.map_cons, List.map_nil]); first | done | rfl | (simp only [List.length_drop, List.length_take]; rfl)) ?_; (with_reducible refine (gramaryeref14_Words.calls kj16 t288 t289 _ _ t290 _ _ t293 a1 x2_4 t311 false _ ?side1 ?side2 ?side3 ?side4 A34.out).mono ?_); (case side1 => repeat (first | exact (Kd.R_reads' HO_288002.out).2.2 | (with_reducible refine Kd.C_alloc ?_ _) | (with_reducible refine Kd.C_drewN ?_ _) | (with_reducible refine Kd.C_drew ?_))); (case side2 => exact (Kd.R_reads' HO_288002.out).2.1); (case side3 => repeat (first | exact (Kd.N_reads' HO_288003.out).2.2 | (with_reducible refine Kd.C_alloc ?_ _) | (with_reducible refine Kd.C_drewN ?_ _) | (with_reducible refine Kd.C_drew ?_))); (case side4 => exact (Kd.N_reads' HO_288003.out).2.1); rintro e w62 ⟨v312, rfl, ho0, hb⟩; refine ⟨_, rfl, ?_⟩; have n5_ := Aside0.mk (below_step (by repeat (first | (with_reducible first | exact HB.out | apply below_alloc | apply pw_below_drewN | apply below_drew1 | refine below_set ?_ GE287.out) | exact HB.out)) hb); clear HB; have HB := n5_; clear n5_; (try clear hb); (try clear hb2); (try clear hk); (try clear hi); (try clear ho0)))
         go_ret
         exact ⟨by first | rfl | (simp [errW_none, errW_some] <;> rfl) | (simp [*, errW_none, errW_some] <;> rfl), by repeat (first | (with_reducible first | exact HB.out | apply below_alloc | apply pw_below_drewN | apply below_drew1 | refine below_set ?_ GE287.out) | exact HB.out)⟩
   ·rw [if_neg c16] at H
    have c16b0 : (t308 == 0) = false := beq_eq_false_iff_ne.mpr c16
    have c16b1 : (t308 != 0) = true := bne_iff_ne.mpr c16
    by_cases c63 : t307 = t308
    ·rw [if_pos c63] at H
     have c63b0 : (t307 == t308) = true := beq_iff_eq.mpr c63
     have c63b1 : (t307 != t308) = false := bne_eq_false_iff_eq.mpr c63
     clear c63
     by_cases c64 : (t304.length : Int) = 0
     ·rw [if_pos c64] at H
      have c64b0 : ((t304.length : Int) == 0) = true := beq_iff_eq.mpr c64
      have c64b1 : ((t304.length : Int) != 0) = false := bne_eq_false_iff_eq.mpr c64
      clear c64
      replace H := Option.bind_eq_some_iff.mp H
      obtain ⟨t309, A650, H⟩ := H
      replace H : (some t309) = some r := H
      have A65 := Aside0.mk A650
      clear A650
      obtain rfl := Option.some.inj H
      have hcz66_0 : wc.cell? ⟨gb287, 0, none⟩ = some (.int .i64 t288) := (blk_cell BK287.out 0).trans rfl
      have hcz66_1 : wc.cell? ⟨gb287, 1, none⟩ = some (.int .i64 t289) := (blk_cell BK287.out 1).trans rfl
      have hcz66_2 : wc.cell? ⟨gb287, 2, none⟩ = some (.slice Ao10 t290.length co10) := (blk_cell BK287.out 2).trans rfl
      have hcz66_3 : wc.cell? ⟨gb287, 3, none⟩ = some (.slice Ao11 t293.length co11) := (blk_cell BK287.out 3).trans rfl
      have hfz66_0 := blk_frozen BK287.out 0
      have hfz66_1 := blk_frozen BK287.out 1
      have hfz66_2 := blk_frozen BK287.out 2
      have hfz66_3 := blk_frozen BK287.out 3
      go_wp2_with (first | ((with_reducible refine gate_callee (f := 8) rfl ?_); refine goesL_ (some 18) rfl rfl Try.func8 (by kernel_rfl) rfl #[.agg #[.int .i64 t288, .int .i64 t289, .slice Ao10 t290.length co10, .slice Ao11 t293.length co11]] rfl (by (try simp only [List.map_toArray, List.map_cons, List.map_nil]); first | done | rfl | (simp only [List.length_drop, List.length_take]; rfl)) ?_; (with_reducible refine (gramaryelaw14_few.calls kj4 t288 t289 _ _ t290 _ _ t293 t296 t297 t298 t301 _ ?side1 ?side2 ?side3 ?side4 A13.out).mono ?_); (case side1 => repeat (first | exact (Kd.R_reads' HO_288002.out).2.2 | (with_reducible refine Kd.C_alloc ?_ _) | (with_reducible refine Kd.C_drewN ?_ _) | (with_reducible refine Kd.C_drew ?_))); (case side2 => exact (Kd.R_reads' HO_288002.out).2.1); (case side3 => repeat (first | exact (Kd.N_reads' HO_288003.out).2.2 | (with_reducible refine Kd.C_alloc ?_ _) | (with_reducible refine Kd.C_drewN ?_ _) | (with_reducible refine Kd.C_drew ?_))); (case side4 => exact (Kd.N_reads' HO_288003.out).2.1); rintro e w67 ⟨v299, v302, rfl, ho0, ho1, hb⟩; refine ⟨_, rfl, ?_⟩; have n0_ := Aside0.mk (Kd.R_elder' (by (with_reducible repeat (first | apply Kd.R_alloc | apply Kd.R_drewN | apply Kd.R_drew)); exact HO_288002.out) (Kd.R_base ho0) hb); (first | have n1_ := Aside0.mk (Kd.N_mono (Kd.N_told (Kd.N_told (Kd.N_old (by (with_reducible repeat (first | apply Kd.N_alloc | apply Kd.N_drewN | apply Kd.N_drew)); exact HO_288003.out) hb) (Kd.R_base ho0)) (Kd.N_base ho1)) (fun _ h_ => h_.1)) | have n1_ := Aside0.mk (Kd.N_mono (Kd.N_told (Kd.N_told (Kd.N_old (by (with_reducible repeat (first | apply Kd.N_alloc | apply Kd.N_drewN | apply Kd.N_drew)); exact HO_288003.out) hb) (Kd.R_base ho0)) (Kd.S_base ho1)) (fun _ h_ => h_.1))); have n2_ := Aside0.mk (Kd.R_lower (Kd.R_new' (Kd.R_mono (ok' := fun k_ => True) ho0 (fun _ hk_ => trivial)) (Kd.R_lt (by (with_reducible repeat (first | apply Kd.R_alloc | apply Kd.R_drewN | apply Kd.R_drew)); exact HO_288002.out))) (below_size (by repeat (first | (with_reducible first | exact HB.out | apply below_alloc | apply pw_below_drewN | apply below_drew1 | refine below_set ?_ GE287.out) | exact HB.out)))); have n3_ := Aside0.mk (Kd.N_lower (Kd.N_mono (ok' := fun k_ => some k_ ≠ (v299 : Value).ownBlock ∧ some k_ ≠ (.slice Ao10 t290.length co10 : Value).ownBlock ∧ some k_ ≠ (.slice Ao11 t293.length co11 : Value).ownBlock ∧ k_ ≠ gb287) ho1 (fun k_ hk_ => ⟨hk_.2, (Kd.fresh' (Kd.R_lt (by (with_reducible repeat (first | apply Kd.R_alloc | apply Kd.R_drewN | apply Kd.R_drew)); exact HO_288002.out)) k_ hk_.1), (Kd.fresh' (Kd.N_lt (by (with_reducible repeat (first | apply Kd.N_alloc | apply Kd.N_drewN | apply Kd.N_drew)); exact HO_288003.out)) k_ hk_.1), (Kd.freshB (g := gb287) (o := .cells #[.int .i64 t288, .int .i64 t289, .slice Ao10 t290.length co10, .slice Ao11 t293.length co11] 25 (0, 0)) (by (with_reducible repeat (first | refine blk_drewN ?_ _ | refine blk_drew ?_ | refine blk_alloc ?_ _)); exact BK287.out) k_ hk_.1)⟩)) (below_size (by repeat (first | (with_reducible first | exact HB.out | apply below_alloc | apply pw_below_drewN | apply below_drew1 | refine below_set ?_ GE287.out) | exact HB.out)))); have n4_ := Aside0.mk (blk_below (g := gb287) (o := .cells #[.int .i64 t288, .int .i64 t289, .slice Ao10 t290.length co10, .slice Ao11 t293.length co11] 25 (0, 0)) (by (with_reducible repeat (first | refine blk_drewN ?_ _ | refine blk_drew ?_ | refine blk_alloc ?_ _)); exact BK287.out) hb); have n5_ := Aside0.mk (below_step (by repeat (first | (with_reducible first | exact HB.out | apply below_alloc | apply pw_below_drewN | apply below_drew1 | refine below_set ?_ GE287.out) | exact HB.out)) hb); clear HO_288002; clear HO_288003; clear BK287; clear HB; have HO_288002 := n0_; have HO_288003 := n1_; have HO300 := n2_; have HO303 := n3_; have BK287 := n4_; have HB := n5_; clear n0_ n1_ n2_ n3_ n4_ n5_; (try clear hb); (try clear hb2); (try clear hk); (try clear hi); (try clear ho0); (try clear ho1); obtain ⟨Ao68, co68, eo68⟩ := Kd.R_slice HO300.out; subst eo68; obtain ⟨Ao69, co69, eo69⟩ := Kd.N_slice HO303.out; subst eo69) | ((with_reducible refine gate_callee (f := 9) rfl ?_); refine goesL_ (some 21) rfl rfl Try.func9 (by kernel_rfl) rfl #[.agg #[.int .i64 t296, .int .i64 t297, .slice Ao68 t298.length co68, .slice Ao69 t301.length co69], .int .i64 a1, .int .i64 x2_4] rfl (by (try simp only [List.map_toArray, List.map_cons, List.map_nil]); first | done | rfl | (simp only [List.length_drop, List.length_take]; rfl)) ?_; (with_reducible refine (first_Words.calls kj4 t296 t297 _ _ t298 _ _ t301 a1 x2_4 t304 t307 _ ?side1 ?side2 ?side3 ?side4 A14.out).mono ?_); (case side1 => repeat (first | exact (Kd.R_reads' HO300.out).2.2 | (with_reducible refine Kd.C_alloc ?_ _) | (with_reducible refine Kd.C_drewN ?_ _) | (with_reducible refine Kd.C_drew ?_))); (case side2 => exact (Kd.R_reads' HO300.out).2.1); (case side3 => repeat (first | exact (Kd.N_reads' HO303.out).2.2 | (with_reducible refine Kd.C_alloc ?_ _) | (with_reducible refine Kd.C_drewN ?_ _) | (with_reducible refine Kd.C_drew ?_))); (case side4 => exact (Kd.N_reads' HO303.out).2.1); rintro e w70 ⟨v305, rfl, ho0, hb⟩; refine ⟨_, rfl, ?_⟩; have n0_ := Aside0.mk (Kd.R_below (by (with_reducible repeat (first | apply Kd.R_alloc | apply Kd.R_drewN | apply Kd.R_drew)); exact HO_288002.out) hb); have n1_ := Aside0.mk (Kd.N_elder' (by (with_reducible repeat (first | apply Kd.N_alloc | apply Kd.N_drewN | apply Kd.N_drew)); exact HO_288003.out) (Kd.R_base ho0) hb); have n4_ := Aside0.mk (Kd.R_lower ho0 (below_size (by repeat (first | (with_reducible first | exact HB.out | apply below_alloc | apply pw_below_drewN | apply below_drew1 | refine below_set ?_ GE287.out) | exact HB.out)))); have n5_ := Aside0.mk (blk_below (g := gb287) (o := .cells #[.int .i64 t288, .int .i64 t289, .slice Ao10 t290.length co10, .slice Ao11 t293.length co11] 25 (0, 0)) (by (with_reducible repeat (first | refine blk_drewN ?_ _ | refine blk_drew ?_ | refine blk_alloc ?_ _)); exact BK287.out) hb); have n6_ := Aside0.mk (below_step (by repeat (first | (with_reducible first | exact HB.out | apply below_alloc | apply pw_below_drewN | apply below_drew1 | refine below_set ?_ GE287.out) | exact HB.out)) hb); clear HO_288002; clear HO_288003; clear BK287; clear HB; have HO_288002 := n0_; have HO_288003 := n1_; have HO306 := n4_; have BK287 := n5_; have HB := n6_; clear n0_ n1_ n4_ n5_ n6_; (try clear hb); (try clear hb2); (try clear hk); (try clear hi); (try clear ho0); have hcz71_0 : w70.cell? ⟨gb287, 0, none⟩ = some (.int .i64 t288) := (blk_cell BK287.out 0).trans rfl; have hcz71_1 : w70.cell? ⟨gb287, 1, none⟩ = some (.int .i64 t289) := (blk_cell BK287.out 1).trans rfl; have hcz71_2 : w70.cell? ⟨gb287, 2, none⟩ = some (.slice Ao10 t290.length co10) := (blk_cell BK287.out 2).trans rfl; have hcz71_3 : w70.cell? ⟨gb287, 3, none⟩ = some (.slice Ao11 t293.length co11) := (blk_cell BK287.out 3).trans rfl; have hfz71_0 := blk_frozen BK287.out 0; have hfz71_1 := blk_frozen BK287.out 1; have hfz71_2 := blk_frozen BK287.out 2; have hfz71_3 := blk_frozen BK287.out 3) | ((with_reducible refine gate_callee (f := 10) rfl ?_); refine goesL_ (some 25) rfl rfl Try.func10 (by kernel_rfl) rfl #[.agg #[.int .i64 t288, .int .i64 t289, .slice Ao10 t290.length co10, .slice Ao11 t293.length co11]] rfl (by (try simp only [List.map_toArray, List.map_cons, List.map_nil]); first | done | rfl | (simp only [List.length_drop, List.length_take]; rfl)) ?_; (with_reducible refine (gramaryeref09_May.calls kj4 t288 t289 _ _ t290 _ _ t293 t308 _ ?side1 ?side2 ?side3 ?side4 A15.out).mono ?_); (case side1 => repeat (first | exact (Kd.R_reads' HO_288002.out).2.2 | (with_reducible refine Kd.C_alloc ?_ _) | (with_reducible refine Kd.C_drewN ?_ _) | (with_reducible refine Kd.C_drew ?_))); (case side2 => exact (Kd.R_reads' HO_288002.out).2.1); (case side3 => repeat (first | exact (Kd.N_reads' HO_288003.out).2.2 | (with_reducible refine Kd.C_alloc ?_ _) | (with_reducible refine Kd.C_drewN ?_ _) | (with_reducible refine Kd.C_drew ?_))); (case side4 => exact (Kd.N_reads' HO_288003.out).2.1); rintro e w72 ⟨rfl, hb⟩; refine ⟨_, rfl, ?_⟩; have n4_ := Aside0.mk (Kd.R_below (by (with_reducible repeat (first | apply Kd.R_alloc | apply Kd.R_drewN | apply Kd.R_drew)); exact HO306.out) hb); have n6_ := Aside0.mk (below_step (by repeat (first | (with_reducible first | exact HB.out | apply below_alloc | apply pw_below_drewN | apply below_drew1 | refine below_set ?_ GE287.out) | exact HB.out)) hb); clear HO306; clear HB; have HO306 := n4_; have HB := n6_; clear n4_ n6_; (try clear hb); (try clear hb2); (try clear hk); (try clear hi); obtain ⟨Ao73, co73, eo73⟩ := Kd.R_slice HO306.out; subst eo73) | (go_at_call 11; (with_reducible refine (gramaryelaw14_works.calls kj4  t309 _ A65.out).mono ?_); rintro e w74 ⟨rfl, hb⟩; have n6_ := Aside0.mk (below_step (by repeat (first | (with_reducible first | exact HB.out | apply below_alloc | apply pw_below_drewN | apply below_drew1 | refine below_set ?_ GE287.out) | exact HB.out)) hb); clear HB; have HB := n6_; clear n6_; (try clear hb); (try clear hb2); (try clear hk); (try clear hi)))
      go_ret
      exact ⟨by first | rfl | (simp [errW_none, errW_some] <;> rfl) | (simp [*, errW_none, errW_some] <;> rfl), by repeat (first | (with_reducible first | exact HB.out | apply below_alloc | apply pw_below_drewN | apply below_drew1 | refine below_set ?_ GE287.out) | exact HB.out)⟩
     ·rw [if_neg c64] at H
      have c64b0 : ((t304.length : Int) == 0) = false := beq_eq_false_iff_ne.mpr c64
      have c64b1 : ((t304.length : Int) != 0) = true := bne_iff_ne.mpr c64
      have c64b2 : ¬ (t304 = []) := fun h_ => c64 (by rw [h_]; rfl)
      obtain rfl := Option.some.inj H
      have hcz75_0 : wc.cell? ⟨gb287, 0, none⟩ = some (.int .i64 t288) := (blk_cell BK287.out 0).trans rfl
      have hcz75_1 : wc.cell? ⟨gb287, 1, none⟩ = some (.int .i64 t289) := (blk_cell BK287.out 1).trans rfl
      have hcz75_2 : wc.cell? ⟨gb287, 2, none⟩ = some (.slice Ao10 t290.length co10) := (blk_cell BK287.out 2).trans rfl
      have hcz75_3 : wc.cell? ⟨gb287, 3, none⟩ = some (.slice Ao11 t293.length co11) := (blk_cell BK287.out 3).trans rfl
      have hfz75_0 := blk_frozen BK287.out 0
      have hfz75_1 := blk_frozen BK287.out 1
      have hfz75_2 := blk_frozen BK287.out 2
      have hfz75_3 := blk_frozen BK287.out 3
      go_wp2_with (first | ((with_reducible refine gate_callee (f := 8) rfl ?_); refine goesL_ (some 18) rfl rfl Try.func8 (by kernel_rfl) rfl #[.agg #[.int .i64 t288, .int .i64 t289, .slice Ao10 t290.length co10, .slice Ao11 t293.length co11]] rfl (by (try simp only [List.map_toArray, List.map_cons, List.map_nil]); first | done | rfl | (simp only [List.length_drop, List.length_take]; rfl)) ?_; (with_reducible refine (gramaryelaw14_few.calls kj4 t288 t289 _ _ t290 _ _ t293 t296 t297 t298 t301 _ ?side1 ?side2 ?side3 ?side4 A13.out).mono ?_); (case side1 => repeat (first | exact (Kd.R_reads' HO_288002.out).2.2 | (with_reducible refine Kd.C_alloc ?_ _) | (with_reducible refine Kd.C_drewN ?_ _) | (with_reducible refine Kd.C_drew ?_))); (case side2 => exact (Kd.R_reads' HO_288002.out).2.1); (case side3 => repeat (first | exact (Kd.N_reads' HO_288003.out).2.2 | (with_reducible refine Kd.C_alloc ?_ _) | (with_reducible refine Kd.C_drewN ?_ _) | (with_reducible refine Kd.C_drew ?_))); (case side4 => exact (Kd.N_reads' HO_288003.out).2.1); rintro e w76 ⟨v299, v302, rfl, ho0, ho1, hb⟩; refine ⟨_, rfl, ?_⟩; have n0_ := Aside0.mk (Kd.R_elder' (by (with_reducible repeat (first | apply Kd.R_alloc | apply Kd.R_drewN | apply Kd.R_drew)); exact HO_288002.out) (Kd.R_base ho0) hb); (first | have n1_ := Aside0.mk (Kd.N_mono (Kd.N_told (Kd.N_told (Kd.N_old (by (with_reducible repeat (first | apply Kd.N_alloc | apply Kd.N_drewN | apply Kd.N_drew)); exact HO_288003.out) hb) (Kd.R_base ho0)) (Kd.N_base ho1)) (fun _ h_ => h_.1)) | have n1_ := Aside0.mk (Kd.N_mono (Kd.N_told (Kd.N_told (Kd.N_old (by (with_reducible repeat (first | apply Kd.N_alloc | apply Kd.N_drewN | apply Kd.N_drew)); exact HO_288003.out) hb) (Kd.R_base ho0)) (Kd.S_base ho1)) (fun _ h_ => h_.1))); have n2_ := Aside0.mk (Kd.R_lower (Kd.R_new' (Kd.R_mono (ok' := fun k_ => True) ho0 (fun _ hk_ => trivial)) (Kd.R_lt (by (with_reducible repeat (first | apply Kd.R_alloc | apply Kd.R_drewN | apply Kd.R_drew)); exact HO_288002.out))) (below_size (by repeat (first | (with_reducible first | exact HB.out | apply below_alloc | apply pw_below_drewN | apply below_drew1 | refine below_set ?_ GE287.out) | exact HB.out)))); have n3_ := Aside0.mk (Kd.N_lower (Kd.N_mono (ok' := fun k_ => some k_ ≠ (v299 : Value).ownBlock ∧ some k_ ≠ (.slice Ao10 t290.length co10 : Value).ownBlock ∧ some k_ ≠ (.slice Ao11 t293.length co11 : Value).ownBlock ∧ k_ ≠ gb287) ho1 (fun k_ hk_ => ⟨hk_.2, (Kd.fresh' (Kd.R_lt (by (with_reducible repeat (first | apply Kd.R_alloc | apply Kd.R_drewN | apply Kd.R_drew)); exact HO_288002.out)) k_ hk_.1), (Kd.fresh' (Kd.N_lt (by (with_reducible repeat (first | apply Kd.N_alloc | apply Kd.N_drewN | apply Kd.N_drew)); exact HO_288003.out)) k_ hk_.1), (Kd.freshB (g := gb287) (o := .cells #[.int .i64 t288, .int .i64 t289, .slice Ao10 t290.length co10, .slice Ao11 t293.length co11] 25 (0, 0)) (by (with_reducible repeat (first | refine blk_drewN ?_ _ | refine blk_drew ?_ | refine blk_alloc ?_ _)); exact BK287.out) k_ hk_.1)⟩)) (below_size (by repeat (first | (with_reducible first | exact HB.out | apply below_alloc | apply pw_below_drewN | apply below_drew1 | refine below_set ?_ GE287.out) | exact HB.out)))); have n4_ := Aside0.mk (blk_below (g := gb287) (o := .cells #[.int .i64 t288, .int .i64 t289, .slice Ao10 t290.length co10, .slice Ao11 t293.length co11] 25 (0, 0)) (by (with_reducible repeat (first | refine blk_drewN ?_ _ | refine blk_drew ?_ | refine blk_alloc ?_ _)); exact BK287.out) hb); have n5_ := Aside0.mk (below_step (by repeat (first | (with_reducible first | exact HB.out | apply below_alloc | apply pw_below_drewN | apply below_drew1 | refine below_set ?_ GE287.out) | exact HB.out)) hb); clear HO_288002; clear HO_288003; clear BK287; clear HB; have HO_288002 := n0_; have HO_288003 := n1_; have HO300 := n2_; have HO303 := n3_; have BK287 := n4_; have HB := n5_; clear n0_ n1_ n2_ n3_ n4_ n5_; (try clear hb); (try clear hb2); (try clear hk); (try clear hi); (try clear ho0); (try clear ho1); obtain ⟨Ao77, co77, eo77⟩ := Kd.R_slice HO300.out; subst eo77; obtain ⟨Ao78, co78, eo78⟩ := Kd.N_slice HO303.out; subst eo78) | ((with_reducible refine gate_callee (f := 9) rfl ?_); refine goesL_ (some 21) rfl rfl Try.func9 (by kernel_rfl) rfl #[.agg #[.int .i64 t296, .int .i64 t297, .slice Ao77 t298.length co77, .slice Ao78 t301.length co78], .int .i64 a1, .int .i64 x2_4] rfl (by (try simp only [List.map_toArray, List.map_cons, List.map_nil]); first | done | rfl | (simp only [List.length_drop, List.length_take]; rfl)) ?_; (with_reducible refine (first_Words.calls kj4 t296 t297 _ _ t298 _ _ t301 a1 x2_4 t304 t307 _ ?side1 ?side2 ?side3 ?side4 A14.out).mono ?_); (case side1 => repeat (first | exact (Kd.R_reads' HO300.out).2.2 | (with_reducible refine Kd.C_alloc ?_ _) | (with_reducible refine Kd.C_drewN ?_ _) | (with_reducible refine Kd.C_drew ?_))); (case side2 => exact (Kd.R_reads' HO300.out).2.1); (case side3 => repeat (first | exact (Kd.N_reads' HO303.out).2.2 | (with_reducible refine Kd.C_alloc ?_ _) | (with_reducible refine Kd.C_drewN ?_ _) | (with_reducible refine Kd.C_drew ?_))); (case side4 => exact (Kd.N_reads' HO303.out).2.1); rintro e w79 ⟨v305, rfl, ho0, hb⟩; refine ⟨_, rfl, ?_⟩; have n0_ := Aside0.mk (Kd.R_below (by (with_reducible repeat (first | apply Kd.R_alloc | apply Kd.R_drewN | apply Kd.R_drew)); exact HO_288002.out) hb); have n1_ := Aside0.mk (Kd.N_elder' (by (with_reducible repeat (first | apply Kd.N_alloc | apply Kd.N_drewN | apply Kd.N_drew)); exact HO_288003.out) (Kd.R_base ho0) hb); have n4_ := Aside0.mk (Kd.R_lower ho0 (below_size (by repeat (first | (with_reducible first | exact HB.out | apply below_alloc | apply pw_below_drewN | apply below_drew1 | refine below_set ?_ GE287.out) | exact HB.out)))); have n5_ := Aside0.mk (blk_below (g := gb287) (o := .cells #[.int .i64 t288, .int .i64 t289, .slice Ao10 t290.length co10, .slice Ao11 t293.length co11] 25 (0, 0)) (by (with_reducible repeat (first | refine blk_drewN ?_ _ | refine blk_drew ?_ | refine blk_alloc ?_ _)); exact BK287.out) hb); have n6_ := Aside0.mk (below_step (by repeat (first | (with_reducible first | exact HB.out | apply below_alloc | apply pw_below_drewN | apply below_drew1 | refine below_set ?_ GE287.out) | exact HB.out)) hb); clear HO_288002; clear HO_288003; clear BK287; clear HB; have HO_288002 := n0_; have HO_288003 := n1_; have HO306 := n4_; have BK287 := n5_; have HB := n6_; clear n0_ n1_ n4_ n5_ n6_; (try clear hb); (try clear hb2); (try clear hk); (try clear hi); (try clear ho0); have hcz80_0 : w79.cell? ⟨gb287, 0, none⟩ = some (.int .i64 t288) := (blk_cell BK287.out 0).trans rfl; have hcz80_1 : w79.cell? ⟨gb287, 1, none⟩ = some (.int .i64 t289) := (blk_cell BK287.out 1).trans rfl; have hcz80_2 : w79.cell? ⟨gb287, 2, none⟩ = some (.slice Ao10 t290.length co10) := (blk_cell BK287.out 2).trans rfl; have hcz80_3 : w79.cell? ⟨gb287, 3, none⟩ = some (.slice Ao11 t293.length co11) := (blk_cell BK287.out 3).trans rfl; have hfz80_0 := blk_frozen BK287.out 0; have hfz80_1 := blk_frozen BK287.out 1; have hfz80_2 := blk_frozen BK287.out 2; have hfz80_3 := blk_frozen BK287.out 3) | ((with_reducible refine gate_callee (f := 10) rfl ?_); refine goesL_ (some 25) rfl rfl Try.func10 (by kernel_rfl) rfl #[.agg #[.int .i64 t288, .int .i64 t289, .slice Ao10 t290.length co10, .slice Ao11 t293.length co11]] rfl (by (try simp only [List.map_toArray, List.map_cons, List.map_nil]); first | done | rfl | (simp only [List.length_drop, List.length_take]; rfl)) ?_; (with_reducible refine (gramaryeref09_May.calls kj4 t288 t289 _ _ t290 _ _ t293 t308 _ ?side1 ?side2 ?side3 ?side4 A15.out).mono ?_); (case side1 => repeat (first | exact (Kd.R_reads' HO_288002.out).2.2 | (with_reducible refine Kd.C_alloc ?_ _) | (with_reducible refine Kd.C_drewN ?_ _) | (with_reducible refine Kd.C_drew ?_))); (case side2 => exact (Kd.R_reads' HO_288002.out).2.1); (case side3 => repeat (first | exact (Kd.N_reads' HO_288003.out).2.2 | (with_reducible refine Kd.C_alloc ?_ _) | (with_reducible refine Kd.C_drewN ?_ _) | (with_reducible refine Kd.C_drew ?_))); (case side4 => exact (Kd.N_reads' HO_288003.out).2.1); rintro e w81 ⟨rfl, hb⟩; refine ⟨_, rfl, ?_⟩; have n4_ := Aside0.mk (Kd.R_below (by (with_reducible repeat (first | apply Kd.R_alloc | apply Kd.R_drewN | apply Kd.R_drew)); exact HO306.out) hb); have n6_ := Aside0.mk (below_step (by repeat (first | (with_reducible first | exact HB.out | apply below_alloc | apply pw_below_drewN | apply below_drew1 | refine below_set ?_ GE287.out) | exact HB.out)) hb); clear HO306; clear HB; have HO306 := n4_; have HB := n6_; clear n4_ n6_; (try clear hb); (try clear hb2); (try clear hk); (try clear hi); obtain ⟨Ao82, co82, eo82⟩ := Kd.R_slice HO306.out; subst eo82))
      go_ret
      exact ⟨by first | rfl | (simp [errW_none, errW_some] <;> rfl) | (simp [*, errW_none, errW_some] <;> rfl), by repeat (first | (with_reducible first | exact HB.out | apply below_alloc | apply pw_below_drewN | apply below_drew1 | refine below_set ?_ GE287.out) | exact HB.out)⟩
    ·rw [if_neg c63] at H
     have c63b0 : (t307 == t308) = false := beq_eq_false_iff_ne.mpr c63
     have c63b1 : (t307 != t308) = true := bne_iff_ne.mpr c63
     obtain rfl := Option.some.inj H
     have hcz83_0 : wc.cell? ⟨gb287, 0, none⟩ = some (.int .i64 t288) := (blk_cell BK287.out 0).trans rfl
     have hcz83_1 : wc.cell? ⟨gb287, 1, none⟩ = some (.int .i64 t289) := (blk_cell BK287.out 1).trans rfl
     have hcz83_2 : wc.cell? ⟨gb287, 2, none⟩ = some (.slice Ao10 t290.length co10) := (blk_cell BK287.out 2).trans rfl
     have hcz83_3 : wc.cell? ⟨gb287, 3, none⟩ = some (.slice Ao11 t293.length co11) := (blk_cell BK287.out 3).trans rfl
     have hfz83_0 := blk_frozen BK287.out 0
     have hfz83_1 := blk_frozen BK287.out 1
     have hfz83_2 := blk_frozen BK287.out 2
     have hfz83_3 := blk_frozen BK287.out 3
     go_wp2_with (first | ((with_reducible refine gate_callee (f := 8) rfl ?_); refine goesL_ (some 18) rfl rfl Try.func8 (by kernel_rfl) rfl #[.agg #[.int .i64 t288, .int .i64 t289, .slice Ao10 t290.length co10, .slice Ao11 t293.length co11]] rfl (by (try simp only [List.map_toArray, List.map_cons, List.map_nil]); first | done | rfl | (simp only [List.length_drop, List.length_take]; rfl)) ?_; (with_reducible refine (gramaryelaw14_few.calls kj4 t288 t289 _ _ t290 _ _ t293 t296 t297 t298 t301 _ ?side1 ?side2 ?side3 ?side4 A13.out).mono ?_); (case side1 => repeat (first | exact (Kd.R_reads' HO_288002.out).2.2 | (with_reducible refine Kd.C_alloc ?_ _) | (with_reducible refine Kd.C_drewN ?_ _) | (with_reducible refine Kd.C_drew ?_))); (case side2 => exact (Kd.R_reads' HO_288002.out).2.1); (case side3 => repeat (first | exact (Kd.N_reads' HO_288003.out).2.2 | (with_reducible refine Kd.C_alloc ?_ _) | (with_reducible refine Kd.C_drewN ?_ _) | (with_reducible refine Kd.C_drew ?_))); (case side4 => exact (Kd.N_reads' HO_288003.out).2.1); rintro e w84 ⟨v299, v302, rfl, ho0, ho1, hb⟩; refine ⟨_, rfl, ?_⟩; have n0_ := Aside0.mk (Kd.R_elder' (by (with_reducible repeat (first | apply Kd.R_alloc | apply Kd.R_drewN | apply Kd.R_drew)); exact HO_288002.out) (Kd.R_base ho0) hb); (first | have n1_ := Aside0.mk (Kd.N_mono (Kd.N_told (Kd.N_told (Kd.N_old (by (with_reducible repeat (first | apply Kd.N_alloc | apply Kd.N_drewN | apply Kd.N_drew)); exact HO_288003.out) hb) (Kd.R_base ho0)) (Kd.N_base ho1)) (fun _ h_ => h_.1)) | have n1_ := Aside0.mk (Kd.N_mono (Kd.N_told (Kd.N_told (Kd.N_old (by (with_reducible repeat (first | apply Kd.N_alloc | apply Kd.N_drewN | apply Kd.N_drew)); exact HO_288003.out) hb) (Kd.R_base ho0)) (Kd.S_base ho1)) (fun _ h_ => h_.1))); have n2_ := Aside0.mk (Kd.R_lower (Kd.R_new' (Kd.R_mono (ok' := fun k_ => True) ho0 (fun _ hk_ => trivial)) (Kd.R_lt (by (with_reducible repeat (first | apply Kd.R_alloc | apply Kd.R_drewN | apply Kd.R_drew)); exact HO_288002.out))) (below_size (by repeat (first | (with_reducible first | exact HB.out | apply below_alloc | apply pw_below_drewN | apply below_drew1 | refine below_set ?_ GE287.out) | exact HB.out)))); have n3_ := Aside0.mk (Kd.N_lower (Kd.N_mono (ok' := fun k_ => some k_ ≠ (v299 : Value).ownBlock ∧ some k_ ≠ (.slice Ao10 t290.length co10 : Value).ownBlock ∧ some k_ ≠ (.slice Ao11 t293.length co11 : Value).ownBlock ∧ k_ ≠ gb287) ho1 (fun k_ hk_ => ⟨hk_.2, (Kd.fresh' (Kd.R_lt (by (with_reducible repeat (first | apply Kd.R_alloc | apply Kd.R_drewN | apply Kd.R_drew)); exact HO_288002.out)) k_ hk_.1), (Kd.fresh' (Kd.N_lt (by (with_reducible repeat (first | apply Kd.N_alloc | apply Kd.N_drewN | apply Kd.N_drew)); exact HO_288003.out)) k_ hk_.1), (Kd.freshB (g := gb287) (o := .cells #[.int .i64 t288, .int .i64 t289, .slice Ao10 t290.length co10, .slice Ao11 t293.length co11] 25 (0, 0)) (by (with_reducible repeat (first | refine blk_drewN ?_ _ | refine blk_drew ?_ | refine blk_alloc ?_ _)); exact BK287.out) k_ hk_.1)⟩)) (below_size (by repeat (first | (with_reducible first | exact HB.out | apply below_alloc | apply pw_below_drewN | apply below_drew1 | refine below_set ?_ GE287.out) | exact HB.out)))); have n4_ := Aside0.mk (blk_below (g := gb287) (o := .cells #[.int .i64 t288, .int .i64 t289, .slice Ao10 t290.length co10, .slice Ao11 t293.length co11] 25 (0, 0)) (by (with_reducible repeat (first | refine blk_drewN ?_ _ | refine blk_drew ?_ | refine blk_alloc ?_ _)); exact BK287.out) hb); have n5_ := Aside0.mk (below_step (by repeat (first | (with_reducible first | exact HB.out | apply below_alloc | apply pw_below_drewN | apply below_drew1 | refine below_set ?_ GE287.out) | exact HB.out)) hb); clear HO_288002; clear HO_288003; clear BK287; clear HB; have HO_288002 := n0_; have HO_288003 := n1_; have HO300 := n2_; have HO303 := n3_; have BK287 := n4_; have HB := n5_; clear n0_ n1_ n2_ n3_ n4_ n5_; (try clear hb); (try clear hb2); (try clear hk); (try clear hi); (try clear ho0); (try clear ho1); obtain ⟨Ao85, co85, eo85⟩ := Kd.R_slice HO300.out; subst eo85; obtain ⟨Ao86, co86, eo86⟩ := Kd.N_slice HO303.out; subst eo86) | ((with_reducible refine gate_callee (f := 9) rfl ?_); refine goesL_ (some 21) rfl rfl Try.func9 (by kernel_rfl) rfl #[.agg #[.int .i64 t296, .int .i64 t297, .slice Ao85 t298.length co85, .slice Ao86 t301.length co86], .int .i64 a1, .int .i64 x2_4] rfl (by (try simp only [List.map_toArray, List.map_cons, List.map_nil]); first | done | rfl | (simp only [List.length_drop, List.length_take]; rfl)) ?_; (with_reducible refine (first_Words.calls kj4 t296 t297 _ _ t298 _ _ t301 a1 x2_4 t304 t307 _ ?side1 ?side2 ?side3 ?side4 A14.out).mono ?_); (case side1 => repeat (first | exact (Kd.R_reads' HO300.out).2.2 | (with_reducible refine Kd.C_alloc ?_ _) | (with_reducible refine Kd.C_drewN ?_ _) | (with_reducible refine Kd.C_drew ?_))); (case side2 => exact (Kd.R_reads' HO300.out).2.1); (case side3 => repeat (first | exact (Kd.N_reads' HO303.out).2.2 | (with_reducible refine Kd.C_alloc ?_ _) | (with_reducible refine Kd.C_drewN ?_ _) | (with_reducible refine Kd.C_drew ?_))); (case side4 => exact (Kd.N_reads' HO303.out).2.1); rintro e w87 ⟨v305, rfl, ho0, hb⟩; refine ⟨_, rfl, ?_⟩; have n0_ := Aside0.mk (Kd.R_below (by (with_reducible repeat (first | apply Kd.R_alloc | apply Kd.R_drewN | apply Kd.R_drew)); exact HO_288002.out) hb); have n1_ := Aside0.mk (Kd.N_elder' (by (with_reducible repeat (first | apply Kd.N_alloc | apply Kd.N_drewN | apply Kd.N_drew)); exact HO_288003.out) (Kd.R_base ho0) hb); have n5_ := Aside0.mk (blk_below (g := gb287) (o := .cells #[.int .i64 t288, .int .i64 t289, .slice Ao10 t290.length co10, .slice Ao11 t293.length co11] 25 (0, 0)) (by (with_reducible repeat (first | refine blk_drewN ?_ _ | refine blk_drew ?_ | refine blk_alloc ?_ _)); exact BK287.out) hb); have n6_ := Aside0.mk (below_step (by repeat (first | (with_reducible first | exact HB.out | apply below_alloc | apply pw_below_drewN | apply below_drew1 | refine below_set ?_ GE287.out) | exact HB.out)) hb); clear HO_288002; clear HO_288003; clear BK287; clear HB; have HO_288002 := n0_; have HO_288003 := n1_; have BK287 := n5_; have HB := n6_; clear n0_ n1_ n5_ n6_; (try clear hb); (try clear hb2); (try clear hk); (try clear hi); (try clear ho0); have hcz88_0 : w87.cell? ⟨gb287, 0, none⟩ = some (.int .i64 t288) := (blk_cell BK287.out 0).trans rfl; have hcz88_1 : w87.cell? ⟨gb287, 1, none⟩ = some (.int .i64 t289) := (blk_cell BK287.out 1).trans rfl; have hcz88_2 : w87.cell? ⟨gb287, 2, none⟩ = some (.slice Ao10 t290.length co10) := (blk_cell BK287.out 2).trans rfl; have hcz88_3 : w87.cell? ⟨gb287, 3, none⟩ = some (.slice Ao11 t293.length co11) := (blk_cell BK287.out 3).trans rfl; have hfz88_0 := blk_frozen BK287.out 0; have hfz88_1 := blk_frozen BK287.out 1; have hfz88_2 := blk_frozen BK287.out 2; have hfz88_3 := blk_frozen BK287.out 3) | ((with_reducible refine gate_callee (f := 10) rfl ?_); refine goesL_ (some 25) rfl rfl Try.func10 (by kernel_rfl) rfl #[.agg #[.int .i64 t288, .int .i64 t289, .slice Ao10 t290.length co10, .slice Ao11 t293.length co11]] rfl (by (try simp only [List.map_toArray, List.map_cons, List.map_nil]); first | done | rfl | (simp only [List.length_drop, List.length_take]; rfl)) ?_; (with_reducible refine (gramaryeref09_May.calls kj4 t288 t289 _ _ t290 _ _ t293 t308 _ ?side1 ?side2 ?side3 ?side4 A15.out).mono ?_); (case side1 => repeat (first | exact (Kd.R_reads' HO_288002.out).2.2 | (with_reducible refine Kd.C_alloc ?_ _) | (with_reducible refine Kd.C_drewN ?_ _) | (with_reducible refine Kd.C_drew ?_))); (case side2 => exact (Kd.R_reads' HO_288002.out).2.1); (case side3 => repeat (first | exact (Kd.N_reads' HO_288003.out).2.2 | (with_reducible refine Kd.C_alloc ?_ _) | (with_reducible refine Kd.C_drewN ?_ _) | (with_reducible refine Kd.C_drew ?_))); (case side4 => exact (Kd.N_reads' HO_288003.out).2.1); rintro e w89 ⟨rfl, hb⟩; refine ⟨_, rfl, ?_⟩; have n6_ := Aside0.mk (below_step (by repeat (first | (with_reducible first | exact HB.out | apply below_alloc | apply pw_below_drewN | apply below_drew1 | refine below_set ?_ GE287.out) | exact HB.out)) hb); clear HB; have HB := n6_; clear n6_; (try clear hb); (try clear hb2); (try clear hk); (try clear hi)))
     go_ret
     exact ⟨by first | rfl | (simp [errW_none, errW_some] <;> rfl) | (simp [*, errW_none, errW_some] <;> rfl), by repeat (first | (with_reducible first | exact HB.out | apply below_alloc | apply pw_below_drewN | apply below_drew1 | refine below_set ?_ GE287.out) | exact HB.out)⟩
def W71 (x : S71) : Prop := (True) ∧ (Lit.int .i64 x.f1).wf = true
def W61 (x : S61) : Prop := (Lit.int .i64 x.f0).wf = true ∧ ((x.f1.length ≤ maxLen ∧ ∀ x_ ∈ x.f1, W71 x_))
def W25 (x : S25) : Prop := (Lit.int .i64 x.f0).wf = true ∧ (Lit.int .i64 x.f1).wf = true ∧ ((x.f2.length ≤ maxLen ∧ ∀ x_ ∈ x.f2, (Lit.int .i64 x_).wf = true)) ∧ ((x.f3.length ≤ maxLen ∧ ∀ x_ ∈ x.f3, W61 x_))
def gramaryelaw14_FirstWords.Pure : Prop := ∀ (a0_0 : Int) (a0_1 : Int) (l0_2 : List Int) (l0_3 : List (S61)) (a1 : Int) (a2 : Int), W25 ⟨a0_0, a0_1, l0_2, l0_3⟩ → (Lit.int .i64 a1).wf = true → (Lit.int .i64 a2).wf = true → ∃ k, gramaryelaw14_FirstWords.f k a0_0 a0_1 l0_2 l0_3 a1 a2 = some true
end Go.Proofs.Ytnihlieggknpaaa.HFirstWords
