-- Written by plus.py for this claim.
import Derived.Test.YtnihlieggknpaaaHFollowWholex0
import Derived.Test.YtnihlieggknpaaaHFollowWholex10
namespace Go.Proofs.Ytnihlieggknpaaa.HFollowWhole
open Go.RowKit Go.Proofs.YtnihlieggknpaaaW.PrintWords Go.Proofs.YtnihlieggknpaaaW.PrintLast Go.Proofs.YtnihlieggknpaaaW.PrintMore
attribute [local go_sem] max2_int min2_int max_two min_two max_three min_three max_four min_four   -- for this text's walks alone
set_option linter.unusedVariables false
set_option linter.unusedSimpArgs false
mutual
def gramaryeref11_Next.l0 : Nat → Int → Bool → List Bool → List Int → Int → Int → Int → List Int → List (S61) → Option (List Int)
 | 0, _, _, _, _, _, _, _, _, _ => none
 | k + 1, x1, x2, x7, x8, x9, x302000, x302001, x302002, x302003 => if x9 < (x302002.length : Int) then (gramaryeref11_Next.l1 k x1 x2 x7 x8 x9 false 0 x302000 x302001 x302002 x302003) else (some x8)
def gramaryeref11_Next.l1 : Nat → Int → Bool → List Bool → List Int → Int → Bool → Int → Int → Int → List Int → List (S61) → Option (List Int)
 | 0, _, _, _, _, _, _, _, _, _, _, _ => none
 | k + 1, x1, x2, x7, x8, x9, x10, x11, x302000, x302001, x302002, x302003 => if x11 < (x302003.length : Int) then (if 0 ≤ x11 then (if ((rd_T61 x302003 x11).f0) = x1 then (gramaryeref11_Next.l2 k x1 x2 x7 x8 x9 x10 x11 0 x302000 x302001 x302002 x302003) else (gramaryeref11_Next.l1 k x1 x2 x7 x8 x9 x10 (wrap64 (x11 + 1)) x302000 x302001 x302002 x302003)) else (none)) else (if x10 = true then (if x8.length < 17592186044416 then (gramaryeref11_Next.l0 k x1 x2 x7 (x8 ++ [x9]) (wrap64 (x9 + 1)) x302000 x302001 x302002 x302003) else (none)) else (gramaryeref11_Next.l0 k x1 x2 x7 x8 (wrap64 (x9 + 1)) x302000 x302001 x302002 x302003))
def gramaryeref11_Next.l2 : Nat → Int → Bool → List Bool → List Int → Int → Bool → Int → Int → Int → Int → List Int → List (S61) → Option (List Int)
 | 0, _, _, _, _, _, _, _, _, _, _, _, _ => none
 | k + 1, x1, x2, x7, x8, x9, x10, x11, x12, x302000, x302001, x302002, x302003 => if 0 ≤ x11 then (if x11 < (x302003.length : Int) then (if x12 < (((rd_T61 x302003 x11).f1).length : Int) then (if 0 ≤ x12 then (if (rd_T71 ((rd_T61 x302003 x11).f1) x12).f0 = true then (gramaryeref11_Next.j3 k x1 x2 x7 x8 x9 x10 x11 x12 false x302000 x302001 x302002 x302003 ((rd_T71 ((rd_T61 x302003 x11).f1) x12).f0) ((rd_T71 ((rd_T61 x302003 x11).f1) x12).f1)) else (gramaryeref11_Next.j3 k x1 x2 x7 x8 x9 x10 x11 x12 (((rd_T71 ((rd_T61 x302003 x11).f1) x12).f1) == x9) x302000 x302001 x302002 x302003 ((rd_T71 ((rd_T61 x302003 x11).f1) x12).f0) ((rd_T71 ((rd_T61 x302003 x11).f1) x12).f1))) else (none)) else (gramaryeref11_Next.l1 k x1 x2 x7 x8 x9 x10 (wrap64 (x11 + 1)) x302000 x302001 x302002 x302003)) else (none)) else (none)
def gramaryeref11_Next.j3 : Nat → Int → Bool → List Bool → List Int → Int → Bool → Int → Int → Bool → Int → Int → List Int → List (S61) → Bool → Int → Option (List Int)
 | 0, _, _, _, _, _, _, _, _, _, _, _, _, _, _, _ => none
 | k + 1, x1, x2, x7, x8, x9, x10, x11, x12, x67, x302000, x302001, x302002, x302003, x316000, x316001 => if x67 = true then (if x2 = true then (gramaryeref11_Next.l2 k x1 x2 x7 x8 x9 true x11 (wrap64 (x12 + 1)) x302000 x302001 x302002 x302003) else (if x316000 = true then (gramaryeref11_Next.l1 k x1 x2 x7 x8 x9 true (wrap64 (x11 + 1)) x302000 x302001 x302002 x302003) else (if 0 ≤ x316001 then (if x316001 < (x7.length : Int) then (if rdOf false x7 x316001 = true then (gramaryeref11_Next.l2 k x1 x2 x7 x8 x9 true x11 (wrap64 (x12 + 1)) x302000 x302001 x302002 x302003) else (gramaryeref11_Next.l1 k x1 x2 x7 x8 x9 true (wrap64 (x11 + 1)) x302000 x302001 x302002 x302003)) else (none)) else (none)))) else (if x2 = true then (gramaryeref11_Next.l2 k x1 x2 x7 x8 x9 x10 x11 (wrap64 (x12 + 1)) x302000 x302001 x302002 x302003) else (if x316000 = true then (gramaryeref11_Next.l1 k x1 x2 x7 x8 x9 x10 (wrap64 (x11 + 1)) x302000 x302001 x302002 x302003) else (if 0 ≤ x316001 then (if x316001 < (x7.length : Int) then (if rdOf false x7 x316001 = true then (gramaryeref11_Next.l2 k x1 x2 x7 x8 x9 x10 x11 (wrap64 (x12 + 1)) x302000 x302001 x302002 x302003) else (gramaryeref11_Next.l1 k x1 x2 x7 x8 x9 x10 (wrap64 (x11 + 1)) x302000 x302001 x302002 x302003)) else (none)) else (none))))
end
def gramaryeref11_Next.f (k : Nat) (a0_0 : Int) (a0_1 : Int) (l0_2 : List Int) (l0_3 : List (S61)) (a1 : Int) (a2 : Bool) : Option (List Int) := (gramaryeref10_Nothing.f k a0_0 a0_1 l0_2 l0_3).bind fun t302 => (gramaryeref11_Next.l0 k a1 a2 t302 (([] : List Int)) 0 a0_0 a0_1 l0_2 l0_3)
theorem gramaryeref11_Next.mono_l : ∀ k, (∀ y0 y1 y2 y3 y4 y5 y6 y7 y8, LeO (gramaryeref11_Next.l0 k y0 y1 y2 y3 y4 y5 y6 y7 y8) (gramaryeref11_Next.l0 (k + 1) y0 y1 y2 y3 y4 y5 y6 y7 y8)) ∧ (∀ y0 y1 y2 y3 y4 y5 y6 y7 y8 y9 y10, LeO (gramaryeref11_Next.l1 k y0 y1 y2 y3 y4 y5 y6 y7 y8 y9 y10) (gramaryeref11_Next.l1 (k + 1) y0 y1 y2 y3 y4 y5 y6 y7 y8 y9 y10)) ∧ (∀ y0 y1 y2 y3 y4 y5 y6 y7 y8 y9 y10 y11, LeO (gramaryeref11_Next.l2 k y0 y1 y2 y3 y4 y5 y6 y7 y8 y9 y10 y11) (gramaryeref11_Next.l2 (k + 1) y0 y1 y2 y3 y4 y5 y6 y7 y8 y9 y10 y11)) ∧ (∀ y0 y1 y2 y3 y4 y5 y6 y7 y8 y9 y10 y11 y12 y13 y14, LeO (gramaryeref11_Next.j3 k y0 y1 y2 y3 y4 y5 y6 y7 y8 y9 y10 y11 y12 y13 y14) (gramaryeref11_Next.j3 (k + 1) y0 y1 y2 y3 y4 y5 y6 y7 y8 y9 y10 y11 y12 y13 y14))
 | 0 => ⟨fun _ _ _ _ _ _ _ _ _ r h => by simp [gramaryeref11_Next.l0] at h, fun _ _ _ _ _ _ _ _ _ _ _ r h => by simp [gramaryeref11_Next.l1] at h, fun _ _ _ _ _ _ _ _ _ _ _ _ r h => by simp [gramaryeref11_Next.l2] at h, fun _ _ _ _ _ _ _ _ _ _ _ _ _ _ _ r h => by simp [gramaryeref11_Next.j3] at h⟩
 | k + 1 => by
  obtain ⟨ih0, ih1, ih2, ih3⟩ := gramaryeref11_Next.mono_l k
  refine ⟨?_, ?_, ?_, ?_⟩
  ·intro y0 y1 y2 y3 y4 y5 y6 y7 y8
   unfold gramaryeref11_Next.l0
   repeat' first
   | (with_reducible exact ih0 _ _ _ _ _ _ _ _ _)
   | (with_reducible exact ih1 _ _ _ _ _ _ _ _ _ _ _)
   | (with_reducible exact ih2 _ _ _ _ _ _ _ _ _ _ _ _)
   | (with_reducible exact ih3 _ _ _ _ _ _ _ _ _ _ _ _ _ _ _)
   | (with_reducible exact gramaryeref10_Nothing.mono _ _ _ _ _)
   | (with_reducible exact LeO.refl _)
   | (with_reducible exact LeO.none _)
   | (with_reducible refine LeO.ite ?_ ?_)
   | (with_reducible refine LeO.bind ?_ (fun _ => ?_))
   | exact ih0 _ _ _ _ _ _ _ _ _
   | exact ih1 _ _ _ _ _ _ _ _ _ _ _
   | exact ih2 _ _ _ _ _ _ _ _ _ _ _ _
   | exact ih3 _ _ _ _ _ _ _ _ _ _ _ _ _ _ _
   | exact gramaryeref10_Nothing.mono _ _ _ _ _
   | exact LeO.none _
   | refine LeO.ite ?_ ?_
   | refine LeO.bind ?_ (fun _ => ?_)
  ·intro y0 y1 y2 y3 y4 y5 y6 y7 y8 y9 y10
   unfold gramaryeref11_Next.l1
   repeat' first
   | (with_reducible exact ih0 _ _ _ _ _ _ _ _ _)
   | (with_reducible exact ih1 _ _ _ _ _ _ _ _ _ _ _)
   | (with_reducible exact ih2 _ _ _ _ _ _ _ _ _ _ _ _)
   | (with_reducible exact ih3 _ _ _ _ _ _ _ _ _ _ _ _ _ _ _)
   | (with_reducible exact gramaryeref10_Nothing.mono _ _ _ _ _)
   | (with_reducible exact LeO.refl _)
   | (with_reducible exact LeO.none _)
   | (with_reducible refine LeO.ite ?_ ?_)
   | (with_reducible refine LeO.bind ?_ (fun _ => ?_))
   | exact ih0 _ _ _ _ _ _ _ _ _
   | exact ih1 _ _ _ _ _ _ _ _ _ _ _
   | exact ih2 _ _ _ _ _ _ _ _ _ _ _ _
   | exact ih3 _ _ _ _ _ _ _ _ _ _ _ _ _ _ _
   | exact gramaryeref10_Nothing.mono _ _ _ _ _
   | exact LeO.none _
   | refine LeO.ite ?_ ?_
   | refine LeO.bind ?_ (fun _ => ?_)
  ·intro y0 y1 y2 y3 y4 y5 y6 y7 y8 y9 y10 y11
   unfold gramaryeref11_Next.l2
   repeat' first
   | (with_reducible exact ih0 _ _ _ _ _ _ _ _ _)
   | (with_reducible exact ih1 _ _ _ _ _ _ _ _ _ _ _)
   | (with_reducible exact ih2 _ _ _ _ _ _ _ _ _ _ _ _)
   | (with_reducible exact ih3 _ _ _ _ _ _ _ _ _ _ _ _ _ _ _)
   | (with_reducible exact gramaryeref10_Nothing.mono _ _ _ _ _)
   | (with_reducible exact LeO.refl _)
   | (with_reducible exact LeO.none _)
   | (with_reducible refine LeO.ite ?_ ?_)
   | (with_reducible refine LeO.bind ?_ (fun _ => ?_))
   | exact ih0 _ _ _ _ _ _ _ _ _
   | exact ih1 _ _ _ _ _ _ _ _ _ _ _
   | exact ih2 _ _ _ _ _ _ _ _ _ _ _ _
   | exact ih3 _ _ _ _ _ _ _ _ _ _ _ _ _ _ _
   | exact gramaryeref10_Nothing.mono _ _ _ _ _
   | exact LeO.none _
   | refine LeO.ite ?_ ?_
   | refine LeO.bind ?_ (fun _ => ?_)
  ·intro y0 y1 y2 y3 y4 y5 y6 y7 y8 y9 y10 y11 y12 y13 y14
   unfold gramaryeref11_Next.j3
   repeat' first
   | (with_reducible exact ih0 _ _ _ _ _ _ _ _ _)
   | (with_reducible exact ih1 _ _ _ _ _ _ _ _ _ _ _)
   | (with_reducible exact ih2 _ _ _ _ _ _ _ _ _ _ _ _)
   | (with_reducible exact ih3 _ _ _ _ _ _ _ _ _ _ _ _ _ _ _)
   | (with_reducible exact gramaryeref10_Nothing.mono _ _ _ _ _)
   | (with_reducible exact LeO.refl _)
   | (with_reducible exact LeO.none _)
   | (with_reducible refine LeO.ite ?_ ?_)
   | (with_reducible refine LeO.bind ?_ (fun _ => ?_))
   | exact ih0 _ _ _ _ _ _ _ _ _
   | exact ih1 _ _ _ _ _ _ _ _ _ _ _
   | exact ih2 _ _ _ _ _ _ _ _ _ _ _ _
   | exact ih3 _ _ _ _ _ _ _ _ _ _ _ _ _ _ _
   | exact gramaryeref10_Nothing.mono _ _ _ _ _
   | exact LeO.none _
   | refine LeO.ite ?_ ?_
   | refine LeO.bind ?_ (fun _ => ?_)
theorem gramaryeref11_Next.mono : ∀ a0 a1 a2 a3 a4 a5 k, LeO (gramaryeref11_Next.f k a0 a1 a2 a3 a4 a5) (gramaryeref11_Next.f (k + 1) a0 a1 a2 a3 a4 a5) := by
 intro a0 a1 a2 a3 a4 a5 k
 obtain ⟨ih0, ih1, ih2, ih3⟩ := gramaryeref11_Next.mono_l k
 unfold gramaryeref11_Next.f
 repeat' first
   | (with_reducible exact ih0 _ _ _ _ _ _ _ _ _)
   | (with_reducible exact ih1 _ _ _ _ _ _ _ _ _ _ _)
   | (with_reducible exact ih2 _ _ _ _ _ _ _ _ _ _ _ _)
   | (with_reducible exact ih3 _ _ _ _ _ _ _ _ _ _ _ _ _ _ _)
   | (with_reducible exact gramaryeref10_Nothing.mono _ _ _ _ _)
   | (with_reducible exact LeO.refl _)
   | (with_reducible exact LeO.none _)
   | (with_reducible refine LeO.ite ?_ ?_)
   | (with_reducible refine LeO.bind ?_ (fun _ => ?_))
   | exact ih0 _ _ _ _ _ _ _ _ _
   | exact ih1 _ _ _ _ _ _ _ _ _ _ _
   | exact ih2 _ _ _ _ _ _ _ _ _ _ _ _
   | exact ih3 _ _ _ _ _ _ _ _ _ _ _ _ _ _ _
   | exact gramaryeref10_Nothing.mono _ _ _ _ _
   | exact LeO.none _
   | refine LeO.ite ?_ ?_
   | refine LeO.bind ?_ (fun _ => ?_)
set_option maxHeartbeats 8000000 in
set_option maxRecDepth 100000 in
theorem gramaryeref11_Next.calls (k : Nat) (a0_0 : Int) (a0_1 : Int) (A0_2 : Option Addr) (c0_2 : Nat) (l0_2 : List Int) (A0_3 : Option Addr) (c0_3 : Nat) (l0_3 : List (S61)) (a1 : Int) (a2 : Bool) (r : List Int) (w : World) (hr0_2 : Kd.C (Kd.int .i64) w A0_2 l0_2.length l0_2) (hc0_2 : l0_2.length ≤ c0_2) (hr0_3 : Kd.C k61 w A0_3 l0_3.length l0_3) (hc0_3 : l0_3.length ≤ c0_3) (h : gramaryeref11_Next.f k a0_0 a0_1 l0_2 l0_3 a1 a2 = some r) :
  Calls Try.prog 79 #[.agg #[.int .i64 a0_0, .int .i64 a0_1, .slice A0_2 l0_2.length c0_2, .slice A0_3 l0_3.length c0_3], .int .i64 a1, .bool a2] w fun e w' => ∃ v0_ : Value, e = .returned (v0_) ∧ Kd.R (Kd.int .i64) 3 w' w.heap.size (fun _ => True) v0_ r ∧ Below w.heap.size w w' := by
 have hu25 := Try.underlying25
 have hu71 := Try.underlying71
 have HR0_2 := Aside0.mk hr0_2
 have HC0_2 := Aside0.mk hc0_2
 clear hr0_2 hc0_2
 have HR0_3 := Aside0.mk hr0_3
 have HC0_3 := Aside0.mk hc0_3
 clear hr0_3 hc0_3
 have HB := Aside0.mk (Below.refl w.heap.size w)
 have H : ((gramaryeref10_Nothing.f k a0_0 a0_1 l0_2 l0_3).bind fun t302 => (gramaryeref11_Next.l0 k a1 a2 t302 (([] : List Int)) 0 a0_0 a0_1 l0_2 l0_3)) = some r := h
 clear h
 replace H := Option.bind_eq_some_iff.mp H
 obtain ⟨t302, A40, H⟩ := H
 replace H : (gramaryeref11_Next.l0 k a1 a2 t302 (([] : List Int)) 0 a0_0 a0_1 l0_2 l0_3) = some r := H
 have A4 := Aside0.mk A40
 clear A40
 obtain ⟨y305, hy305⟩ : ∃ y_ : List Int, y_ = (([] : List Int)) := ⟨_, rfl⟩
 replace H : (gramaryeref11_Next.l0 k a1 a2 t302 y305 0 a0_0 a0_1 l0_2 l0_3) = some r := by first | (rw [hy305]; with_reducible exact H) | (have H2_ := (Option.bind_some _ _).symm.trans H; rw [hy305]; with_reducible exact H2_) | (have H2_ := (Option.bind_some _ _).symm.trans H; with_reducible exact H2_) | with_reducible exact H | (rw [hy305]; exact H) | exact H
 have Ny305 := Aside0.mk hy305
 clear hy305
 have H' := Aside0.mk H
 clear H
 go_enter Try.func79, Try.ntmps79
 go_wp2_with (first | ((with_reducible refine gate_dst (N := 3) rfl ?_); refine box_event ?hg (N := 3) ?hd (cs := #[.int .i64 a0_0, .int .i64 a0_1, .slice A0_2 l0_2.length c0_2, .slice A0_3 l0_3.length c0_3]) (t := 25) ?hr ?_; (case hd => rfl); (case hg => rfl); (case hr => first | (go_simp; done) | (go_simp; rfl)); intro gb301 hg w5 hbox hb; have n0_ := Aside0.mk (below_step (by repeat (first | (with_reducible first | exact HB.out | apply below_alloc | apply pw_below_drewN | apply below_drew1) | exact HB.out)) hb); have n1_ := Aside0.mk (hbox); have n2_ := Aside0.mk ((by rw [hg]; exact (below_size (by repeat (first | (with_reducible first | exact HB.out | apply below_alloc | apply pw_below_drewN | apply below_drew1) | exact HB.out))) : w.heap.size ≤ gb301)); have n3_ := Aside0.mk ((by rw [hg]; exact (below_size (by repeat (first | (with_reducible first | exact HB.out | apply below_alloc | apply pw_below_drewN | apply below_drew1) | exact HB.out))) : w.heap.size ≤ gb301)); clear HB; have HB := n0_; have BK301 := n1_; have GW301 := n2_; have GE301 := n3_; clear n0_ n1_ n2_ n3_; clear hb hbox hg; have hcz6_0 : w5.cell? ⟨gb301, 0, none⟩ = some (.int .i64 a0_0) := (blk_cell BK301.out 0).trans rfl; have hcz6_1 : w5.cell? ⟨gb301, 1, none⟩ = some (.int .i64 a0_1) := (blk_cell BK301.out 1).trans rfl; have hcz6_2 : w5.cell? ⟨gb301, 2, none⟩ = some (.slice A0_2 l0_2.length c0_2) := (blk_cell BK301.out 2).trans rfl; have hcz6_3 : w5.cell? ⟨gb301, 3, none⟩ = some (.slice A0_3 l0_3.length c0_3) := (blk_cell BK301.out 3).trans rfl; have hfz6_0 := blk_frozen BK301.out 0; have hfz6_1 := blk_frozen BK301.out 1; have hfz6_2 := blk_frozen BK301.out 2; have hfz6_3 := blk_frozen BK301.out 3) | ((with_reducible refine gate_callee (f := 103) rfl ?_); refine goesL_ (some 15) rfl rfl Try.func103 (by kernel_rfl) rfl #[.agg #[.int .i64 a0_0, .int .i64 a0_1, .slice A0_2 l0_2.length c0_2, .slice A0_3 l0_3.length c0_3]] rfl (by (try simp only [List.map_toArray, List.map_cons, List.map_nil]); first | done | rfl | (simp only [List.length_drop, List.length_take]; rfl)) ?_; (with_reducible refine (gramaryeref10_Nothing.calls k a0_0 a0_1 _ _ l0_2 _ _ l0_3 t302 _ ?side1 ?side2 ?side3 ?side4 A4.out).mono ?_); (case side1 => repeat (first | exact (Kd.C_below HR0_2.out HB.out) | (with_reducible refine Kd.C_alloc ?_ _) | (with_reducible refine Kd.C_drewN ?_ _) | (with_reducible refine Kd.C_drew ?_))); (case side2 => exact HC0_2.out); (case side3 => repeat (first | exact (Kd.C_below HR0_3.out HB.out) | (with_reducible refine Kd.C_alloc ?_ _) | (with_reducible refine Kd.C_drewN ?_ _) | (with_reducible refine Kd.C_drew ?_))); (case side4 => exact HC0_3.out); rintro e w7 ⟨v303, rfl, ho0, hb⟩; refine ⟨_, rfl, ?_⟩; have n0_ := Aside0.mk (Kd.R_lower ho0 (below_size (by repeat (first | (with_reducible first | exact HB.out | apply below_alloc | apply pw_below_drewN | apply below_drew1 | refine below_set ?_ GE301.out) | exact HB.out)))); have n1_ := Aside0.mk (blk_below (g := gb301) (o := .cells #[.int .i64 a0_0, .int .i64 a0_1, .slice A0_2 l0_2.length c0_2, .slice A0_3 l0_3.length c0_3] 25 (0, 0)) (by (with_reducible repeat (first | refine blk_drewN ?_ _ | refine blk_drew ?_ | refine blk_alloc ?_ _)); exact BK301.out) hb); have n2_ := Aside0.mk (below_step (by repeat (first | (with_reducible first | exact HB.out | apply below_alloc | apply pw_below_drewN | apply below_drew1 | refine below_set ?_ GE301.out) | exact HB.out)) hb); clear BK301; clear HB; have HO304 := n0_; have BK301 := n1_; have HB := n2_; clear n0_ n1_ n2_; (try clear hb); (try clear hb2); (try clear hk); (try clear hi); (try clear ho0)) | ((with_reducible refine gate_dst (N := 16) rfl ?_); refine Kd.R_lit (Kd.int .i64) _ 3 ?hg (N := 16) ?hd (xs := ([] : List Int)) (inner := []) (ok := fun _ => True) (okp := fun _ => True) ?hr ?hp (fun _ hk => hk) trivial (Below.refl _ _) (Nat.le_refl _) (by simp) ?_; (case hd => rfl); (case hg => rfl); (case hr => first | (go_simp; done) | (go_simp; rfl)); (case hp => exact (Reps.none _ _)); intro v306 w8 ho9 hb hg_ hnew_; clear hg_ hnew_; (first | rw [← Ny305.out] at ho9 | (simp only [Int.reduceToNat] at ho9; rw [← Ny305.out] at ho9)); have n0_ := Aside0.mk (Kd.R_below (by (with_reducible repeat (first | apply Kd.R_alloc | apply Kd.R_drewN | apply Kd.R_drew)); exact HO304.out) hb); have n1_ := Aside0.mk (Kd.R_lower ho9 (below_size (by repeat (first | (with_reducible first | exact HB.out | apply below_alloc | apply pw_below_drewN | apply below_drew1 | refine below_set ?_ GE301.out) | exact HB.out)))); have n2_ := Aside0.mk (blk_below (g := gb301) (o := .cells #[.int .i64 a0_0, .int .i64 a0_1, .slice A0_2 l0_2.length c0_2, .slice A0_3 l0_3.length c0_3] 25 (0, 0)) (by (with_reducible repeat (first | refine blk_drewN ?_ _ | refine blk_drew ?_ | refine blk_alloc ?_ _)); exact BK301.out) hb); have n3_ := Aside0.mk (below_step (by repeat (first | (with_reducible first | exact HB.out | apply below_alloc | apply pw_below_drewN | apply below_drew1 | refine below_set ?_ GE301.out) | exact HB.out)) hb); clear HO304; clear BK301; clear HB; have HO304 := n0_; have HO307 := n1_; have BK301 := n2_; have HB := n3_; clear n0_ n1_ n2_ n3_; clear hb ho9))
 go_loopg [8, 9] k (fun kq v8 v9 w' => ∃ (x8_1 : List Int) (x9_1 : Int), v9 = .int .i64 x9_1 ∧ Aside0 (gramaryeref11_Next.l0 kq a1 a2 t302 x8_1 x9_1 a0_0 a0_1 l0_2 l0_3 = some r) ∧ Aside0 (kq ≤ k) ∧ Aside0 (Kd.R Kd.bool 4 w' w.heap.size (fun _ => True) v303 t302) ∧ Aside0 (Kd.R (Kd.int .i64) 3 w' w.heap.size (fun _ => True) v8 x8_1) ∧ Aside0 (w'.heap[gb301]? = some (.cells #[.int .i64 a0_0, .int .i64 a0_1, (.slice A0_2 l0_2.length c0_2), (.slice A0_3 l0_3.length c0_3)] 25 (0, 0))) ∧ Aside0 (Below w.heap.size w w'))
 case atStart => exact ⟨(y305), (0), (by first | rfl | (simp; done) | (simp [*]; done)), H', ⟨Nat.le_refl _⟩, ⟨by (with_reducible repeat (first | apply Kd.R_alloc | apply Kd.R_drewN | apply Kd.R_drew)); exact HO304.out⟩, ⟨by (with_reducible repeat (first | apply Kd.R_alloc | apply Kd.R_drewN | apply Kd.R_drew)); exact HO307.out⟩, ⟨by (with_reducible repeat (first | refine blk_drewN ?_ _ | refine blk_drew ?_ | refine blk_alloc ?_ _)); exact BK301.out⟩, ⟨by repeat (first | (with_reducible first | exact HB.out | apply below_alloc | apply pw_below_drewN | apply below_drew1 | refine below_set ?_ GE301.out) | exact HB.out)⟩⟩
 case round =>
  clear H'
  try clear c1
  try clear p2
  try clear c7
  try clear hcz6_0
  try clear hcz6_1
  try clear hcz6_2
  try clear hcz6_3
  try clear hfz6_0
  try clear hfz6_1
  try clear hfz6_2
  try clear hfz6_3
  obtain ⟨x8_1, x9_1, rfl, HA, HK1, HO_7, HO_8, BK301, HB⟩ := hrel
  cases gk with
  | zero => exact absurd HA.out (by simp [gramaryeref11_Next.l0])
  | succ k1 =>
   have H := HA.out
   clear HA
   simp only [gramaryeref11_Next.l0] at H
   by_cases c10 : x9_1 < (l0_2.length : Int)
   ·rw [if_pos c10] at H
    have c10b0 : decide (x9_1 < (l0_2.length : Int)) = true := decide_eq_true c10
    clear c10
    have H' := Aside0.mk H
    clear H
    have hcz11_0 : wr.cell? ⟨gb301, 0, none⟩ = some (.int .i64 a0_0) := (blk_cell BK301.out 0).trans rfl
    have hcz11_1 : wr.cell? ⟨gb301, 1, none⟩ = some (.int .i64 a0_1) := (blk_cell BK301.out 1).trans rfl
    have hcz11_2 : wr.cell? ⟨gb301, 2, none⟩ = some (.slice A0_2 l0_2.length c0_2) := (blk_cell BK301.out 2).trans rfl
    have hcz11_3 : wr.cell? ⟨gb301, 3, none⟩ = some (.slice A0_3 l0_3.length c0_3) := (blk_cell BK301.out 3).trans rfl
    have hfz11_0 := blk_frozen BK301.out 0
    have hfz11_1 := blk_frozen BK301.out 1
    have hfz11_2 := blk_frozen BK301.out 2
    have hfz11_3 := blk_frozen BK301.out 3
    go_wp2
    go_loopg [10, 11] k1 (fun kq v10 v11 w' => ∃ (x10_2 : Bool) (x11_2 : Int), v10 = .bool x10_2 ∧ v11 = .int .i64 x11_2 ∧ Aside0 (gramaryeref11_Next.l1 kq a1 a2 t302 x8_1 x9_1 x10_2 x11_2 a0_0 a0_1 l0_2 l0_3 = some r) ∧ Aside0 (kq ≤ k1) ∧ Aside0 (Kd.R Kd.bool 4 w' w.heap.size (fun _ => True) v303 t302) ∧ Aside0 (Kd.R (Kd.int .i64) 3 w' w.heap.size (fun _ => True) u8 x8_1) ∧ Aside0 (w'.heap[gb301]? = some (.cells #[.int .i64 a0_0, .int .i64 a0_1, (.slice A0_2 l0_2.length c0_2), (.slice A0_3 l0_3.length c0_3)] 25 (0, 0))) ∧ Aside0 (Below w.heap.size w w'))
    case atStart => exact ⟨(false), (0), (by first | rfl | (simp; done) | (simp [*]; done)), (by first | rfl | (simp; done) | (simp [*]; done)), H', ⟨Nat.le_refl _⟩, ⟨by (with_reducible repeat (first | apply Kd.R_alloc | apply Kd.R_drewN | apply Kd.R_drew)); exact HO_7.out⟩, ⟨by (with_reducible repeat (first | apply Kd.R_alloc | apply Kd.R_drewN | apply Kd.R_drew)); exact HO_8.out⟩, ⟨by (with_reducible repeat (first | refine blk_drewN ?_ _ | refine blk_drew ?_ | refine blk_alloc ?_ _)); exact BK301.out⟩, ⟨by repeat (first | (with_reducible first | exact HB.out | apply below_alloc | apply pw_below_drewN | apply below_drew1 | refine below_set ?_ GE301.out) | exact HB.out)⟩⟩
    case round =>
     clear H'
     try clear c1
     try clear p2
     try clear c7
     try clear c10
     try clear c10b0
     try clear hcz11_0
     try clear hcz11_1
     try clear hcz11_2
     try clear hcz11_3
     try clear hcz6_0
     try clear hcz6_1
     try clear hcz6_2
     try clear hcz6_3
     try clear hfz11_0
     try clear hfz11_1
     try clear hfz11_2
     try clear hfz11_3
     try clear hfz6_0
     try clear hfz6_1
     try clear hfz6_2
     try clear hfz6_3
     try clear p2
     obtain ⟨x10_2, x11_2, rfl, rfl, HA, HK2, HO_7, HO_8, BK301, HB⟩ := hrel
     cases gk with
     | zero => exact absurd HA.out (by simp [gramaryeref11_Next.l1])
     | succ k2 =>
      have H := HA.out
      clear HA
      simp only [gramaryeref11_Next.l1] at H
      by_cases c12 : x11_2 < (l0_3.length : Int)
      ·rw [if_pos c12] at H
       have c12b0 : decide (x11_2 < (l0_3.length : Int)) = true := decide_eq_true c12
       clear c12
       by_cases c13 : 0 ≤ x11_2
       ·rw [if_pos c13] at H
        have c13b0 : decide (0 ≤ x11_2) = true := decide_eq_true c13
        clear c13
        by_cases c14 : ((rd_T61 l0_3 x11_2).f0) = a1
        ·rw [if_pos c14] at H
         have c14b0 : (((rd_T61 l0_3 x11_2).f0) == a1) = true := beq_iff_eq.mpr c14
         have c14b1 : (((rd_T61 l0_3 x11_2).f0) != a1) = false := bne_eq_false_iff_eq.mpr c14
         clear c14
         have H' := Aside0.mk H
         clear H
         have hcz15_0 : wr.cell? ⟨gb301, 0, none⟩ = some (.int .i64 a0_0) := (blk_cell BK301.out 0).trans rfl
         have hcz15_1 : wr.cell? ⟨gb301, 1, none⟩ = some (.int .i64 a0_1) := (blk_cell BK301.out 1).trans rfl
         have hcz15_2 : wr.cell? ⟨gb301, 2, none⟩ = some (.slice A0_2 l0_2.length c0_2) := (blk_cell BK301.out 2).trans rfl
         have hcz15_3 : wr.cell? ⟨gb301, 3, none⟩ = some (.slice A0_3 l0_3.length c0_3) := (blk_cell BK301.out 3).trans rfl
         have hfz15_0 := blk_frozen BK301.out 0
         have hfz15_1 := blk_frozen BK301.out 1
         have hfz15_2 := blk_frozen BK301.out 2
         have hfz15_3 := blk_frozen BK301.out 3
         have p311 : 0 ≤ (x11_2 : Int) := of_decide_eq_true (by first | (with_reducible assumption) | assumption)
         have q311 : x11_2 < (l0_3.length : Int) := of_decide_eq_true (by first | (with_reducible assumption) | assumption)
         obtain ⟨ad311, A311_1, c311_1, e311, hx311_0, hx311_1, hl311_1, hi311_1⟩ := at_T61 HR0_3.out x11_2 p311 q311
         cases e311
         replace hx311_0 := (HB.out.cell (World.block_lt_of_cell? w _ hx311_0)).trans hx311_0
         replace hx311_1 := (HB.out.cell (World.block_lt_of_cell? w _ hx311_1)).trans hx311_1
         have HR311_1 := Aside0.mk hi311_1
         have HC311_1 := Aside0.mk hl311_1
         clear hi311_1 hl311_1
         replace p311 := eq_true p311
         replace q311 := eq_true q311
         go_wp2
         go_loopg [10, 12] k2 (fun kq v10 v12 w' => ∃ (x10_3 : Bool) (x12_3 : Int), v10 = .bool x10_3 ∧ v12 = .int .i64 x12_3 ∧ Aside0 (gramaryeref11_Next.l2 kq a1 a2 t302 x8_1 x9_1 x10_3 x11_2 x12_3 a0_0 a0_1 l0_2 l0_3 = some r) ∧ Aside0 (kq ≤ k2) ∧ Aside0 (Kd.R Kd.bool 4 w' w.heap.size (fun _ => True) v303 t302) ∧ Aside0 (Kd.R (Kd.int .i64) 3 w' w.heap.size (fun _ => True) u8 x8_1) ∧ Aside0 (w'.heap[gb301]? = some (.cells #[.int .i64 a0_0, .int .i64 a0_1, (.slice A0_2 l0_2.length c0_2), (.slice (some ad311) l0_3.length c0_3)] 25 (0, 0))) ∧ Aside0 (Below w.heap.size w w'))
         case atStart => exact ⟨(x10_2), (0), (by first | rfl | (simp; done) | (simp [*]; done)), (by first | rfl | (simp; done) | (simp [*]; done)), H', ⟨Nat.le_refl _⟩, ⟨by (with_reducible repeat (first | apply Kd.R_alloc | apply Kd.R_drewN | apply Kd.R_drew)); exact HO_7.out⟩, ⟨by (with_reducible repeat (first | apply Kd.R_alloc | apply Kd.R_drewN | apply Kd.R_drew)); exact HO_8.out⟩, ⟨by (with_reducible repeat (first | refine blk_drewN ?_ _ | refine blk_drew ?_ | refine blk_alloc ?_ _)); exact BK301.out⟩, ⟨by repeat (first | (with_reducible first | exact HB.out | apply below_alloc | apply pw_below_drewN | apply below_drew1 | refine below_set ?_ GE301.out) | exact HB.out)⟩⟩
         case round =>
          clear H'
          try clear c1
          try clear p2
          try clear c3
          try clear p3
          try clear q3
          try clear hx3
          try clear c7
          try clear c10
          try clear c10b0
          try clear c12
          try clear c12b0
          try clear c13
          try clear c13b0
          try clear c14
          try clear c14b0
          try clear c14b1
          try clear hcz11_0
          try clear hcz11_1
          try clear hcz11_2
          try clear hcz11_3
          try clear hcz15_0
          try clear hcz15_1
          try clear hcz15_2
          try clear hcz15_3
          try clear hcz6_0
          try clear hcz6_1
          try clear hcz6_2
          try clear hcz6_3
          try clear hfz11_0
          try clear hfz11_1
          try clear hfz11_2
          try clear hfz11_3
          try clear hfz15_0
          try clear hfz15_1
          try clear hfz15_2
          try clear hfz15_3
          try clear hfz6_0
          try clear hfz6_1
          try clear hfz6_2
          try clear hfz6_3
          try clear hx311_0
          try clear hx311_1
          try clear p2
          try clear p311
          try clear q311
          obtain ⟨x10_3, x12_3, rfl, rfl, HA, HK3, HO_7, HO_8, BK301, HB⟩ := hrel
          cases gk with
          | zero => exact absurd HA.out (by simp [gramaryeref11_Next.l2])
          | succ k3 =>
           have H := HA.out
           clear HA
           simp only [gramaryeref11_Next.l2] at H
           by_cases c16 : 0 ≤ x11_2
           ·rw [if_pos c16] at H
            have c16b0 : decide (0 ≤ x11_2) = true := decide_eq_true c16
            clear c16
            by_cases c17 : x11_2 < (l0_3.length : Int)
            ·rw [if_pos c17] at H
             have c17b0 : decide (x11_2 < (l0_3.length : Int)) = true := decide_eq_true c17
             clear c17
             by_cases c18 : x12_3 < (((rd_T61 l0_3 x11_2).f1).length : Int)
             ·rw [if_pos c18] at H
              have c18b0 : decide (x12_3 < (((rd_T61 l0_3 x11_2).f1).length : Int)) = true := decide_eq_true c18
              clear c18
              by_cases c19 : 0 ≤ x12_3
              ·rw [if_pos c19] at H
               have c19b0 : decide (0 ≤ x12_3) = true := decide_eq_true c19
               clear c19
               have HC20 := Aside0.mk H
               clear H
               have hcz21_0 : wr.cell? ⟨gb301, 0, none⟩ = some (.int .i64 a0_0) := (blk_cell BK301.out 0).trans rfl
               have hcz21_1 : wr.cell? ⟨gb301, 1, none⟩ = some (.int .i64 a0_1) := (blk_cell BK301.out 1).trans rfl
               have hcz21_2 : wr.cell? ⟨gb301, 2, none⟩ = some (.slice A0_2 l0_2.length c0_2) := (blk_cell BK301.out 2).trans rfl
               have hcz21_3 : wr.cell? ⟨gb301, 3, none⟩ = some (.slice (some ad311) l0_3.length c0_3) := (blk_cell BK301.out 3).trans rfl
               have hfz21_0 := blk_frozen BK301.out 0
               have hfz21_1 := blk_frozen BK301.out 1
               have hfz21_2 := blk_frozen BK301.out 2
               have hfz21_3 := blk_frozen BK301.out 3
               have p312 : 0 ≤ (x11_2 : Int) := of_decide_eq_true (by first | (with_reducible assumption) | assumption)
               have q312 : x11_2 < (l0_3.length : Int) := of_decide_eq_true (by first | (with_reducible assumption) | assumption)
               obtain ⟨ad312, A312_1, c312_1, e312, hx312_0, hx312_1, hl312_1, hi312_1⟩ := at_T61 HR0_3.out x11_2 p312 q312
               obtain rfl : ad311 = ad312 := (by injection e312)
               replace hx312_0 := (HB.out.cell (World.block_lt_of_cell? w _ hx312_0)).trans hx312_0
               replace hx312_1 := (HB.out.cell (World.block_lt_of_cell? w _ hx312_1)).trans hx312_1
               have HR312_1 := Aside0.mk hi312_1
               have HC312_1 := Aside0.mk hl312_1
               clear hi312_1 hl312_1
               replace p312 := eq_true p312
               replace q312 := eq_true q312
               have p313 : 0 ≤ (x11_2 : Int) := of_decide_eq_true (by first | (with_reducible assumption) | assumption)
               have q313 : x11_2 < (l0_3.length : Int) := of_decide_eq_true (by first | (with_reducible assumption) | assumption)
               obtain ⟨ad313, A313_1, c313_1, e313, hx313_0, hx313_1, hl313_1, hi313_1⟩ := at_T61 HR0_3.out x11_2 p313 q313
               obtain rfl : ad311 = ad313 := (by injection e313)
               replace hx313_0 := (HB.out.cell (World.block_lt_of_cell? w _ hx313_0)).trans hx313_0
               replace hx313_1 := (HB.out.cell (World.block_lt_of_cell? w _ hx313_1)).trans hx313_1
               have HR313_1 := Aside0.mk hi313_1
               have HC313_1 := Aside0.mk hl313_1
               clear hi313_1 hl313_1
               replace p313 := eq_true p313
               replace q313 := eq_true q313
               have ea_ := Option.some.inj (hx312_1.symm.trans hx313_1)
               injection ea_ with ea_ en_ ec_
               subst ea_
               subst ec_
               clear en_
               have p314 : 0 ≤ (x12_3 : Int) := of_decide_eq_true (by first | (with_reducible assumption) | assumption)
               have q314 : x12_3 < (((rd_T61 l0_3 x11_2).f1).length : Int) := of_decide_eq_true (by first | (with_reducible assumption) | assumption)
               obtain ⟨ad314, e314, hx314_0, hx314_1⟩ := at_T71 HR313_1.out x12_3 p314 q314
               cases e314
               replace hx314_0 := (HB.out.cell (World.block_lt_of_cell? w _ hx314_0)).trans hx314_0
               replace hx314_1 := (HB.out.cell (World.block_lt_of_cell? w _ hx314_1)).trans hx314_1
               replace p314 := eq_true p314
               replace q314 := eq_true q314
               go_upto_region 14 with (first | ((with_reducible refine gate_dst (N := 13) rfl ?_); refine box_event ?hg (N := 13) ?hd (cs := #[.bool false, .int .i64 0]) (t := 71) ?hr ?_; (case hd => rfl); (case hg => rfl); (case hr => first | (go_simp; done) | (go_simp; rfl)); intro gb315 hg w22 hbox hb; have n0_ := Aside0.mk (Kd.R_below (by (with_reducible repeat (first | apply Kd.R_alloc | apply Kd.R_drewN | apply Kd.R_drew)); exact HO_7.out) hb); have n1_ := Aside0.mk (Kd.R_below (by (with_reducible repeat (first | apply Kd.R_alloc | apply Kd.R_drewN | apply Kd.R_drew)); exact HO_8.out) hb); have n2_ := Aside0.mk (blk_below (g := gb301) (o := .cells #[.int .i64 a0_0, .int .i64 a0_1, .slice A0_2 l0_2.length c0_2, .slice (some ad311) l0_3.length c0_3] 25 (0, 0)) (by (with_reducible repeat (first | refine blk_drewN ?_ _ | refine blk_drew ?_ | refine blk_alloc ?_ _)); exact BK301.out) hb); have n3_ := Aside0.mk (below_step (by repeat (first | (with_reducible first | exact HB.out | apply below_alloc | apply pw_below_drewN | apply below_drew1 | refine below_set ?_ GE301.out) | exact HB.out)) hb); have n4_ := Aside0.mk (hbox); have n5_ := Aside0.mk ((by rw [hg]; exact (below_size (by repeat (first | (with_reducible first | exact HB.out | apply below_alloc | apply pw_below_drewN | apply below_drew1 | refine below_set ?_ GE301.out) | exact HB.out))) : w.heap.size ≤ gb315)); have n6_ := Aside0.mk ((by rw [hg]; exact (below_size (by repeat (first | (with_reducible first | exact HB.out | apply below_alloc | apply pw_below_drewN | apply below_drew1 | refine below_set ?_ GE301.out) | exact HB.out))) : w.heap.size ≤ gb315)); have n7_ := Aside0.mk ((by rw [hg]; exact Nat.ne_of_lt (blk_lt (g := gb301) (o := .cells #[.int .i64 a0_0, .int .i64 a0_1, .slice A0_2 l0_2.length c0_2, .slice (some ad311) l0_3.length c0_3] 25 (0, 0)) (by (with_reducible repeat (first | refine blk_drewN ?_ _ | refine blk_drew ?_ | refine blk_alloc ?_ _)); exact BK301.out)) : gb301 ≠ gb315)); have n8_ := Aside0.mk ((by rw [hg]; exact Nat.ne_of_gt (blk_lt (g := gb301) (o := .cells #[.int .i64 a0_0, .int .i64 a0_1, .slice A0_2 l0_2.length c0_2, .slice (some ad311) l0_3.length c0_3] 25 (0, 0)) (by (with_reducible repeat (first | refine blk_drewN ?_ _ | refine blk_drew ?_ | refine blk_alloc ?_ _)); exact BK301.out)) : gb315 ≠ gb301)); clear HO_7; clear HO_8; clear BK301; clear HB; have HO_7 := n0_; have HO_8 := n1_; have BK301 := n2_; have HB := n3_; have BK315 := n4_; have GW315 := n5_; have GE315 := n6_; have NB301_315 := n7_; have NB315_301 := n8_; clear n0_ n1_ n2_ n3_ n4_ n5_ n6_ n7_ n8_; clear hb hbox hg; have hnb23 := NB315_301.out; have hnc23 := NB301_315.out; have hcz24_0 : w22.cell? ⟨gb315, 0, none⟩ = some (.bool false) := (blk_cell BK315.out 0).trans rfl; have hcz24_1 : w22.cell? ⟨gb315, 1, none⟩ = some (.int .i64 0) := (blk_cell BK315.out 1).trans rfl; have hfz24_0 := blk_frozen BK315.out 0; have hfz24_1 := blk_frozen BK315.out 1))
               (try simp only [Act.put, List.setIfInBounds_toArray, List.set_cons_zero, List.set_cons_succ])
               go_cut [67] (fun v67 wc => ∃ (kq : Nat) (x67_19 : Bool), v67 = .bool x67_19 ∧ Aside0 (gramaryeref11_Next.j3 kq a1 a2 t302 x8_1 x9_1 x10_3 x11_2 x12_3 x67_19 a0_0 a0_1 l0_2 l0_3 ((rd_T71 ((rd_T61 l0_3 x11_2).f1) x12_3).f0) ((rd_T71 ((rd_T61 l0_3 x11_2).f1) x12_3).f1) = some r) ∧ Aside0 (kq ≤ k3) ∧ Aside0 (Kd.R Kd.bool 4 wc w.heap.size (fun _ => True) v303 t302) ∧ Aside0 (Kd.R (Kd.int .i64) 3 wc w.heap.size (fun _ => True) u8 x8_1) ∧ Aside0 (wc.heap[gb301]? = some (.cells #[.int .i64 a0_0, .int .i64 a0_1, (.slice A0_2 l0_2.length c0_2), (.slice (some ad311) l0_3.length c0_3)] 25 (0, 0))) ∧ Aside0 (wc.heap[gb315]? = some (.cells #[.bool ((rd_T71 ((rd_T61 l0_3 x11_2).f1) x12_3).f0), .int .i64 ((rd_T71 ((rd_T61 l0_3 x11_2).f1) x12_3).f1)] 71 (0, 0))) ∧ Aside0 (Below w.heap.size w wc))
               case first =>
                have H := HC20.out
                clear HC20
                obtain ⟨bq25, hbq25⟩ : ∃ b_ : Bool, b_ = ((rd_T71 ((rd_T61 l0_3 x11_2).f1) x12_3).f0) := ⟨_, rfl⟩
                replace H : (if bq25 = true then (gramaryeref11_Next.j3 k3 a1 a2 t302 x8_1 x9_1 x10_3 x11_2 x12_3 false a0_0 a0_1 l0_2 l0_3 bq25 ((rd_T71 ((rd_T61 l0_3 x11_2).f1) x12_3).f1)) else (gramaryeref11_Next.j3 k3 a1 a2 t302 x8_1 x9_1 x10_3 x11_2 x12_3 (((rd_T71 ((rd_T61 l0_3 x11_2).f1) x12_3).f1) == x9_1) a0_0 a0_1 l0_2 l0_3 bq25 ((rd_T71 ((rd_T61 l0_3 x11_2).f1) x12_3).f1))) = some r := by rw [← hbq25] at H; exact H
                have Nbq25 := Aside0.mk hbq25
                clear hbq25
                (try rw [← Nbq25.out])
                by_cases c26 : bq25 = true
                ·subst c26
                 have H1 : (gramaryeref11_Next.j3 k3 a1 a2 t302 x8_1 x9_1 x10_3 x11_2 x12_3 false a0_0 a0_1 l0_2 l0_3 true ((rd_T71 ((rd_T61 l0_3 x11_2).f1) x12_3).f1)) = some r := by rw [if_pos rfl] at H; exact H
                 clear H
                 have H := H1
                 clear H1
                 have H' := Aside0.mk H
                 clear H
                 have hnb27 := NB315_301.out
                 have hnc27 := NB301_315.out
                 have hcz28_0 : w22.cell? ⟨gb315, 0, none⟩ = some (.bool false) := (blk_cell BK315.out 0).trans rfl
                 have hcz28_1 : w22.cell? ⟨gb315, 1, none⟩ = some (.int .i64 0) := (blk_cell BK315.out 1).trans rfl
                 have hfz28_0 := blk_frozen BK315.out 0
                 have hfz28_1 := blk_frozen BK315.out 1
                 go_wp2
                 go_meet
                 case rel => (try rw [← Nbq25.out]); exact ⟨_, (false), (by first | rfl | (simp; done) | (simp [*]; done)), H', ⟨by have := HK1.out; have := HK2.out; have := HK3.out; first | omega | exact Nat.le_refl _⟩, ⟨by (with_reducible repeat (first | apply Kd.R_alloc | apply Kd.R_drewN | apply Kd.R_drew)); exact Kd.R_mono (Kd.R_far (p := ⟨gb315, 1, none⟩) (Kd.R_far (p := ⟨gb315, 0, none⟩) (Kd.R_types HO_7.out BK315.out (by decide)) (fun _ hk => hk.2) (.bool (true))) (fun _ hk => hk.2) (.int .i64 ((rd_T71 ((rd_T61 l0_3 x11_2).f1) x12_3).f1))) (fun _ hk => trivial)⟩, ⟨by (with_reducible repeat (first | apply Kd.R_alloc | apply Kd.R_drewN | apply Kd.R_drew)); exact Kd.R_mono (Kd.R_far (p := ⟨gb315, 1, none⟩) (Kd.R_far (p := ⟨gb315, 0, none⟩) (Kd.R_types HO_8.out BK315.out (by decide)) (fun _ hk => hk.2) (.bool (true))) (fun _ hk => hk.2) (.int .i64 ((rd_T71 ((rd_T61 l0_3 x11_2).f1) x12_3).f1))) (fun _ hk => trivial)⟩, ⟨by (with_reducible repeat (first | refine blk_drewN ?_ _ | refine blk_drew ?_ | refine blk_alloc ?_ _)); refine blk_far ?_ NB301_315.out _; (with_reducible repeat (first | refine blk_drewN ?_ _ | refine blk_drew ?_ | refine blk_alloc ?_ _)); refine blk_far ?_ NB301_315.out _; (with_reducible repeat (first | refine blk_drewN ?_ _ | refine blk_drew ?_ | refine blk_alloc ?_ _)); exact BK301.out⟩, ⟨by (with_reducible repeat (first | refine blk_drewN ?_ _ | refine blk_drew ?_ | refine blk_alloc ?_ _)); refine blk_put (cs := #[.bool (true), .int .i64 0]) ?_ 1 _ rfl; (with_reducible repeat (first | refine blk_drewN ?_ _ | refine blk_drew ?_ | refine blk_alloc ?_ _)); refine blk_put (cs := #[.bool false, .int .i64 0]) ?_ 0 _ rfl; (with_reducible repeat (first | refine blk_drewN ?_ _ | refine blk_drew ?_ | refine blk_alloc ?_ _)); exact BK315.out⟩, ⟨by repeat (first | (with_reducible first | exact HB.out | apply below_alloc | apply pw_below_drewN | apply below_drew1 | refine below_set ?_ GE301.out | refine below_set ?_ GE315.out) | exact HB.out)⟩⟩
                ·replace c26 := Bool.eq_false_iff.mpr c26
                 subst c26
                 have H1 : (gramaryeref11_Next.j3 k3 a1 a2 t302 x8_1 x9_1 x10_3 x11_2 x12_3 (((rd_T71 ((rd_T61 l0_3 x11_2).f1) x12_3).f1) == x9_1) a0_0 a0_1 l0_2 l0_3 false ((rd_T71 ((rd_T61 l0_3 x11_2).f1) x12_3).f1)) = some r := by rw [if_neg (show ¬ (false = true) by decide)] at H; exact H
                 clear H
                 have H := H1
                 clear H1
                 have H' := Aside0.mk H
                 clear H
                 have hnb29 := NB315_301.out
                 have hnc29 := NB301_315.out
                 have hcz30_0 : w22.cell? ⟨gb315, 0, none⟩ = some (.bool false) := (blk_cell BK315.out 0).trans rfl
                 have hcz30_1 : w22.cell? ⟨gb315, 1, none⟩ = some (.int .i64 0) := (blk_cell BK315.out 1).trans rfl
                 have hfz30_0 := blk_frozen BK315.out 0
                 have hfz30_1 := blk_frozen BK315.out 1
                 go_wp2
                 go_meet
                 case rel => (try rw [← Nbq25.out]); exact ⟨_, ((((rd_T71 ((rd_T61 l0_3 x11_2).f1) x12_3).f1) == x9_1)), (by first | rfl | (simp; done) | (simp [*]; done)), H', ⟨by have := HK1.out; have := HK2.out; have := HK3.out; first | omega | exact Nat.le_refl _⟩, ⟨by (with_reducible repeat (first | apply Kd.R_alloc | apply Kd.R_drewN | apply Kd.R_drew)); exact Kd.R_mono (Kd.R_far (p := ⟨gb315, 1, none⟩) (Kd.R_far (p := ⟨gb315, 0, none⟩) (Kd.R_types HO_7.out BK315.out (by decide)) (fun _ hk => hk.2) (.bool (false))) (fun _ hk => hk.2) (.int .i64 ((rd_T71 ((rd_T61 l0_3 x11_2).f1) x12_3).f1))) (fun _ hk => trivial)⟩, ⟨by (with_reducible repeat (first | apply Kd.R_alloc | apply Kd.R_drewN | apply Kd.R_drew)); exact Kd.R_mono (Kd.R_far (p := ⟨gb315, 1, none⟩) (Kd.R_far (p := ⟨gb315, 0, none⟩) (Kd.R_types HO_8.out BK315.out (by decide)) (fun _ hk => hk.2) (.bool (false))) (fun _ hk => hk.2) (.int .i64 ((rd_T71 ((rd_T61 l0_3 x11_2).f1) x12_3).f1))) (fun _ hk => trivial)⟩, ⟨by (with_reducible repeat (first | refine blk_drewN ?_ _ | refine blk_drew ?_ | refine blk_alloc ?_ _)); refine blk_far ?_ NB301_315.out _; (with_reducible repeat (first | refine blk_drewN ?_ _ | refine blk_drew ?_ | refine blk_alloc ?_ _)); refine blk_far ?_ NB301_315.out _; (with_reducible repeat (first | refine blk_drewN ?_ _ | refine blk_drew ?_ | refine blk_alloc ?_ _)); exact BK301.out⟩, ⟨by (with_reducible repeat (first | refine blk_drewN ?_ _ | refine blk_drew ?_ | refine blk_alloc ?_ _)); refine blk_put (cs := #[.bool (false), .int .i64 0]) ?_ 1 _ rfl; (with_reducible repeat (first | refine blk_drewN ?_ _ | refine blk_drew ?_ | refine blk_alloc ?_ _)); refine blk_put (cs := #[.bool false, .int .i64 0]) ?_ 0 _ rfl; (with_reducible repeat (first | refine blk_drewN ?_ _ | refine blk_drew ?_ | refine blk_alloc ?_ _)); exact BK315.out⟩, ⟨by repeat (first | (with_reducible first | exact HB.out | apply below_alloc | apply pw_below_drewN | apply below_drew1 | refine below_set ?_ GE301.out | refine below_set ?_ GE315.out) | exact HB.out)⟩⟩
               case rest =>
                clear HC20
                try clear c1
                try clear c2
                try clear p2
                try clear q2
                try clear c3
                try clear p3
                try clear q3
                try clear hx3
                try clear c7
                try clear c10
                try clear c10b0
                try clear c12
                try clear c12b0
                try clear c13
                try clear c13b0
                try clear c14
                try clear c14b0
                try clear c14b1
                try clear c16
                try clear c16b0
                try clear c17
                try clear c17b0
                try clear c18
                try clear c18b0
                try clear c19
                try clear c19b0
                try clear c23
                try clear q25
                try clear c26
                try clear c27
                try clear c29
                try clear hcz11_0
                try clear hcz11_1
                try clear hcz11_2
                try clear hcz11_3
                try clear hcz15_0
                try clear hcz15_1
                try clear hcz15_2
                try clear hcz15_3
                try clear hcz21_0
                try clear hcz21_1
                try clear hcz21_2
                try clear hcz21_3
                try clear hcz24_0
                try clear hcz24_1
                try clear hcz28_0
                try clear hcz28_1
                try clear hcz30_0
                try clear hcz30_1
                try clear hcz6_0
                try clear hcz6_1
                try clear hcz6_2
                try clear hcz6_3
                try clear hfz11_0
                try clear hfz11_1
                try clear hfz11_2
                try clear hfz11_3
                try clear hfz15_0
                try clear hfz15_1
                try clear hfz15_2
                try clear hfz15_3
                try clear hfz21_0
                try clear hfz21_1
                try clear hfz21_2
                try clear hfz21_3
                try clear hfz24_0
                try clear hfz24_1
                try clear hfz28_0
                try clear hfz28_1
                try clear hfz30_0
                try clear hfz30_1
                try clear hfz6_0
                try clear hfz6_1
                try clear hfz6_2
                try clear hfz6_3
                try clear hx311_0
                try clear hx311_1
                try clear hx312_0
                try clear hx312_1
                try clear hx313_0
                try clear hx313_1
                try clear hx314_0
                try clear hx314_1
                try clear p2
                try clear p3
                try clear p311
                try clear p312
                try clear p313
                try clear p314
                try clear q3
                try clear q311
                try clear q312
                try clear q313
                try clear q314
                obtain ⟨kq, x67_19, rfl, HA, HJ19, HO_7, HO_8, BK301, BK315, HB⟩ := hcut
                cases kq with
                | zero => exact absurd HA.out (by simp [gramaryeref11_Next.j3])
                | succ kj19 =>
                 have H := HA.out
                 clear HA
                 simp only [gramaryeref11_Next.j3] at H
                 by_cases c31 : x67_19 = true
                 ·subst c31
                  have H1 : (if a2 = true then (gramaryeref11_Next.l2 kj19 a1 a2 t302 x8_1 x9_1 true x11_2 (wrap64 (x12_3 + 1)) a0_0 a0_1 l0_2 l0_3) else (if ((rd_T71 ((rd_T61 l0_3 x11_2).f1) x12_3).f0) = true then (gramaryeref11_Next.l1 kj19 a1 a2 t302 x8_1 x9_1 true (wrap64 (x11_2 + 1)) a0_0 a0_1 l0_2 l0_3) else (if 0 ≤ ((rd_T71 ((rd_T61 l0_3 x11_2).f1) x12_3).f1) then (if ((rd_T71 ((rd_T61 l0_3 x11_2).f1) x12_3).f1) < (t302.length : Int) then (if rdOf false t302 ((rd_T71 ((rd_T61 l0_3 x11_2).f1) x12_3).f1) = true then (gramaryeref11_Next.l2 kj19 a1 a2 t302 x8_1 x9_1 true x11_2 (wrap64 (x12_3 + 1)) a0_0 a0_1 l0_2 l0_3) else (gramaryeref11_Next.l1 kj19 a1 a2 t302 x8_1 x9_1 true (wrap64 (x11_2 + 1)) a0_0 a0_1 l0_2 l0_3)) else (none)) else (none)))) = some r := by rw [if_pos rfl] at H; exact H
                  clear H
                  have H := H1
                  clear H1
                  by_cases c32 : a2 = true
                  ·subst c32
                   have H1 : (gramaryeref11_Next.l2 kj19 a1 true t302 x8_1 x9_1 true x11_2 (wrap64 (x12_3 + 1)) a0_0 a0_1 l0_2 l0_3) = some r := by rw [if_pos rfl] at H; exact H
                   clear H
                   have H := H1
                   clear H1
                   have H' := Aside0.mk H
                   clear H
                   go_wp2
                   go_roundg kj19
                   case measure => have := HK1.out; have := HK2.out; have := HK3.out; have := HJ19.out; omega
                   case rel => exact ⟨(true), (wrap64 (x12_3 + 1)), (by first | rfl | (simp; done) | (simp [*]; done)), (by first | rfl | (simp; done) | (simp [*]; done)), H', ⟨by have := HK1.out; have := HK2.out; have := HK3.out; have := HJ19.out; omega⟩, ⟨by (with_reducible repeat (first | apply Kd.R_alloc | apply Kd.R_drewN | apply Kd.R_drew)); exact HO_7.out⟩, ⟨by (with_reducible repeat (first | apply Kd.R_alloc | apply Kd.R_drewN | apply Kd.R_drew)); exact HO_8.out⟩, ⟨by (with_reducible repeat (first | refine blk_drewN ?_ _ | refine blk_drew ?_ | refine blk_alloc ?_ _)); exact BK301.out⟩, ⟨by repeat (first | (with_reducible first | exact HB.out | apply below_alloc | apply pw_below_drewN | apply below_drew1 | refine below_set ?_ GE301.out | refine below_set ?_ GE315.out) | exact HB.out)⟩⟩
                  ·replace c32 := Bool.eq_false_iff.mpr c32
                   subst c32
                   have H1 : (if ((rd_T71 ((rd_T61 l0_3 x11_2).f1) x12_3).f0) = true then (gramaryeref11_Next.l1 kj19 a1 false t302 x8_1 x9_1 true (wrap64 (x11_2 + 1)) a0_0 a0_1 l0_2 l0_3) else (if 0 ≤ ((rd_T71 ((rd_T61 l0_3 x11_2).f1) x12_3).f1) then (if ((rd_T71 ((rd_T61 l0_3 x11_2).f1) x12_3).f1) < (t302.length : Int) then (if rdOf false t302 ((rd_T71 ((rd_T61 l0_3 x11_2).f1) x12_3).f1) = true then (gramaryeref11_Next.l2 kj19 a1 false t302 x8_1 x9_1 true x11_2 (wrap64 (x12_3 + 1)) a0_0 a0_1 l0_2 l0_3) else (gramaryeref11_Next.l1 kj19 a1 false t302 x8_1 x9_1 true (wrap64 (x11_2 + 1)) a0_0 a0_1 l0_2 l0_3)) else (none)) else (none))) = some r := by rw [if_neg (show ¬ (false = true) by decide)] at H; exact H
                   clear H
                   have H := H1
                   clear H1
                   by_cases c33 : ((rd_T71 ((rd_T61 l0_3 x11_2).f1) x12_3).f0) = true
                   ·rw [if_pos c33] at H
                    have c33b0 : ((rd_T71 ((rd_T61 l0_3 x11_2).f1) x12_3).f0) = true := c33
                    clear c33
                    have H' := Aside0.mk H
                    clear H
                    have hnb34 := NB315_301.out
                    have hnc34 := NB301_315.out
                    have hcz35_0 : wc.cell? ⟨gb315, 0, none⟩ = some (.bool ((rd_T71 ((rd_T61 l0_3 x11_2).f1) x12_3).f0)) := (blk_cell BK315.out 0).trans rfl
                    have hcz35_1 : wc.cell? ⟨gb315, 1, none⟩ = some (.int .i64 ((rd_T71 ((rd_T61 l0_3 x11_2).f1) x12_3).f1)) := (blk_cell BK315.out 1).trans rfl
                    have hfz35_0 := blk_frozen BK315.out 0
                    have hfz35_1 := blk_frozen BK315.out 1
                    go_wp2
                    go_roundg kj19
                    case measure => have := HK1.out; have := HK2.out; have := HK3.out; have := HJ19.out; omega
                    case rel => exact ⟨(true), (wrap64 (x11_2 + 1)), (by first | rfl | (simp; done) | (simp [*]; done)), (by first | rfl | (simp; done) | (simp [*]; done)), H', ⟨by have := HK1.out; have := HK2.out; have := HK3.out; have := HJ19.out; omega⟩, ⟨by (with_reducible repeat (first | apply Kd.R_alloc | apply Kd.R_drewN | apply Kd.R_drew)); exact HO_7.out⟩, ⟨by (with_reducible repeat (first | apply Kd.R_alloc | apply Kd.R_drewN | apply Kd.R_drew)); exact HO_8.out⟩, ⟨by (with_reducible repeat (first | refine blk_drewN ?_ _ | refine blk_drew ?_ | refine blk_alloc ?_ _)); exact BK301.out⟩, ⟨by repeat (first | (with_reducible first | exact HB.out | apply below_alloc | apply pw_below_drewN | apply below_drew1 | refine below_set ?_ GE301.out | refine below_set ?_ GE315.out) | exact HB.out)⟩⟩
                   ·rw [if_neg c33] at H
                    have c33b0 : ((rd_T71 ((rd_T61 l0_3 x11_2).f1) x12_3).f0) = false := by simpa using c33
                    clear c33
                    by_cases c36 : 0 ≤ ((rd_T71 ((rd_T61 l0_3 x11_2).f1) x12_3).f1)
                    ·rw [if_pos c36] at H
                     have c36b0 : decide (0 ≤ ((rd_T71 ((rd_T61 l0_3 x11_2).f1) x12_3).f1)) = true := decide_eq_true c36
                     clear c36
                     by_cases c37 : ((rd_T71 ((rd_T61 l0_3 x11_2).f1) x12_3).f1) < (t302.length : Int)
                     ·rw [if_pos c37] at H
                      have c37b0 : decide (((rd_T71 ((rd_T61 l0_3 x11_2).f1) x12_3).f1) < (t302.length : Int)) = true := decide_eq_true c37
                      clear c37
                      obtain ⟨bq38, hbq38⟩ : ∃ b_ : Bool, b_ = (rdOf false t302 ((rd_T71 ((rd_T61 l0_3 x11_2).f1) x12_3).f1)) := ⟨_, rfl⟩
                      replace H : (if bq38 = true then (gramaryeref11_Next.l2 kj19 a1 false t302 x8_1 x9_1 true x11_2 (wrap64 (x12_3 + 1)) a0_0 a0_1 l0_2 l0_3) else (gramaryeref11_Next.l1 kj19 a1 false t302 x8_1 x9_1 true (wrap64 (x11_2 + 1)) a0_0 a0_1 l0_2 l0_3)) = some r := by rw [← hbq38] at H; exact H
                      have Nbq38 := Aside0.mk hbq38
                      clear hbq38
                      by_cases c39 : bq38 = true
                      ·subst c39
                       have H1 : (gramaryeref11_Next.l2 kj19 a1 false t302 x8_1 x9_1 true x11_2 (wrap64 (x12_3 + 1)) a0_0 a0_1 l0_2 l0_3) = some r := by rw [if_pos rfl] at H; exact H
                       clear H
                       have H := H1
                       clear H1
                       have H' := Aside0.mk H
                       clear H
                       have hnb40 := NB315_301.out
                       have hnc40 := NB301_315.out
                       have hcz41_0 : wc.cell? ⟨gb315, 0, none⟩ = some (.bool ((rd_T71 ((rd_T61 l0_3 x11_2).f1) x12_3).f0)) := (blk_cell BK315.out 0).trans rfl
                       have hcz41_1 : wc.cell? ⟨gb315, 1, none⟩ = some (.int .i64 ((rd_T71 ((rd_T61 l0_3 x11_2).f1) x12_3).f1)) := (blk_cell BK315.out 1).trans rfl
                       have hfz41_0 := blk_frozen BK315.out 0
                       have hfz41_1 := blk_frozen BK315.out 1
                       obtain ⟨Ao42, co42, eo42⟩ := Kd.R_slice HO_7.out
                       subst eo42
                       have p316 : 0 ≤ (((rd_T71 ((rd_T61 l0_3 x11_2).f1) x12_3).f1) : Int) := of_decide_eq_true (by first | (with_reducible assumption) | assumption)
                       have q316 : ((rd_T71 ((rd_T61 l0_3 x11_2).f1) x12_3).f1) < (t302.length : Int) := of_decide_eq_true (by first | (with_reducible assumption) | assumption)
                       obtain ⟨ad316, e316, hx316_0⟩ := Kd.at_bool (Kd.R_reads' HO_7.out).2.2 ((rd_T71 ((rd_T61 l0_3 x11_2).f1) x12_3).f1) p316 q316
                       (try rw [← Nbq38.out] at hx316_0)
                       cases e316
                       replace p316 := eq_true p316
                       replace q316 := eq_true q316
                       go_wp2
                       go_roundg kj19
                       case measure => have := HK1.out; have := HK2.out; have := HK3.out; have := HJ19.out; omega
                       case rel => exact ⟨(true), (wrap64 (x12_3 + 1)), (by first | rfl | (simp; done) | (simp [*]; done)), (by first | rfl | (simp; done) | (simp [*]; done)), H', ⟨by have := HK1.out; have := HK2.out; have := HK3.out; have := HJ19.out; omega⟩, ⟨by (with_reducible repeat (first | apply Kd.R_alloc | apply Kd.R_drewN | apply Kd.R_drew)); exact HO_7.out⟩, ⟨by (with_reducible repeat (first | apply Kd.R_alloc | apply Kd.R_drewN | apply Kd.R_drew)); exact HO_8.out⟩, ⟨by (with_reducible repeat (first | refine blk_drewN ?_ _ | refine blk_drew ?_ | refine blk_alloc ?_ _)); exact BK301.out⟩, ⟨by repeat (first | (with_reducible first | exact HB.out | apply below_alloc | apply pw_below_drewN | apply below_drew1 | refine below_set ?_ GE301.out | refine below_set ?_ GE315.out) | exact HB.out)⟩⟩
                      ·replace c39 := Bool.eq_false_iff.mpr c39
                       subst c39
                       have H1 : (gramaryeref11_Next.l1 kj19 a1 false t302 x8_1 x9_1 true (wrap64 (x11_2 + 1)) a0_0 a0_1 l0_2 l0_3) = some r := by rw [if_neg (show ¬ (false = true) by decide)] at H; exact H
                       clear H
                       have H := H1
                       clear H1
                       have H' := Aside0.mk H
                       clear H
                       have hnb43 := NB315_301.out
                       have hnc43 := NB301_315.out
                       have hcz44_0 : wc.cell? ⟨gb315, 0, none⟩ = some (.bool ((rd_T71 ((rd_T61 l0_3 x11_2).f1) x12_3).f0)) := (blk_cell BK315.out 0).trans rfl
                       have hcz44_1 : wc.cell? ⟨gb315, 1, none⟩ = some (.int .i64 ((rd_T71 ((rd_T61 l0_3 x11_2).f1) x12_3).f1)) := (blk_cell BK315.out 1).trans rfl
                       have hfz44_0 := blk_frozen BK315.out 0
                       have hfz44_1 := blk_frozen BK315.out 1
                       obtain ⟨Ao45, co45, eo45⟩ := Kd.R_slice HO_7.out
                       subst eo45
                       have p316 : 0 ≤ (((rd_T71 ((rd_T61 l0_3 x11_2).f1) x12_3).f1) : Int) := of_decide_eq_true (by first | (with_reducible assumption) | assumption)
                       have q316 : ((rd_T71 ((rd_T61 l0_3 x11_2).f1) x12_3).f1) < (t302.length : Int) := of_decide_eq_true (by first | (with_reducible assumption) | assumption)
                       obtain ⟨ad316, e316, hx316_0⟩ := Kd.at_bool (Kd.R_reads' HO_7.out).2.2 ((rd_T71 ((rd_T61 l0_3 x11_2).f1) x12_3).f1) p316 q316
                       (try rw [← Nbq38.out] at hx316_0)
                       cases e316
                       replace p316 := eq_true p316
                       replace q316 := eq_true q316
                       go_wp2
                       go_roundg kj19
                       case measure => have := HK1.out; have := HK2.out; have := HK3.out; have := HJ19.out; omega
                       case rel => exact ⟨(true), (wrap64 (x11_2 + 1)), (by first | rfl | (simp; done) | (simp [*]; done)), (by first | rfl | (simp; done) | (simp [*]; done)), H', ⟨by have := HK1.out; have := HK2.out; have := HK3.out; have := HJ19.out; omega⟩, ⟨by (with_reducible repeat (first | apply Kd.R_alloc | apply Kd.R_drewN | apply Kd.R_drew)); exact HO_7.out⟩, ⟨by (with_reducible repeat (first | apply Kd.R_alloc | apply Kd.R_drewN | apply Kd.R_drew)); exact HO_8.out⟩, ⟨by (with_reducible repeat (first | refine blk_drewN ?_ _ | refine blk_drew ?_ | refine blk_alloc ?_ _)); exact BK301.out⟩, ⟨by repeat (first | (with_reducible first | exact HB.out | apply below_alloc | apply pw_below_drewN | apply below_drew1 | refine below_set ?_ GE301.out | refine below_set ?_ GE315.out) | exact HB.out)⟩⟩
                     ·rw [if_neg c37] at H
                      exact absurd H (by simp)
                    ·rw [if_neg c36] at H
                     exact absurd H (by simp)
                 ·replace c31 := Bool.eq_false_iff.mpr c31
                  subst c31
                  have H1 : (if a2 = true then (gramaryeref11_Next.l2 kj19 a1 a2 t302 x8_1 x9_1 x10_3 x11_2 (wrap64 (x12_3 + 1)) a0_0 a0_1 l0_2 l0_3) else (if ((rd_T71 ((rd_T61 l0_3 x11_2).f1) x12_3).f0) = true then (gramaryeref11_Next.l1 kj19 a1 a2 t302 x8_1 x9_1 x10_3 (wrap64 (x11_2 + 1)) a0_0 a0_1 l0_2 l0_3) else (if 0 ≤ ((rd_T71 ((rd_T61 l0_3 x11_2).f1) x12_3).f1) then (if ((rd_T71 ((rd_T61 l0_3 x11_2).f1) x12_3).f1) < (t302.length : Int) then (if rdOf false t302 ((rd_T71 ((rd_T61 l0_3 x11_2).f1) x12_3).f1) = true then (gramaryeref11_Next.l2 kj19 a1 a2 t302 x8_1 x9_1 x10_3 x11_2 (wrap64 (x12_3 + 1)) a0_0 a0_1 l0_2 l0_3) else (gramaryeref11_Next.l1 kj19 a1 a2 t302 x8_1 x9_1 x10_3 (wrap64 (x11_2 + 1)) a0_0 a0_1 l0_2 l0_3)) else (none)) else (none)))) = some r := by rw [if_neg (show ¬ (false = true) by decide)] at H; exact H
                  clear H
                  have H := H1
                  clear H1
                  by_cases c46 : a2 = true
                  ·subst c46
                   have H1 : (gramaryeref11_Next.l2 kj19 a1 true t302 x8_1 x9_1 x10_3 x11_2 (wrap64 (x12_3 + 1)) a0_0 a0_1 l0_2 l0_3) = some r := by rw [if_pos rfl] at H; exact H
                   clear H
                   have H := H1
                   clear H1
                   have H' := Aside0.mk H
                   clear H
                   go_wp2
                   go_roundg kj19
                   case measure => have := HK1.out; have := HK2.out; have := HK3.out; have := HJ19.out; omega
                   case rel => exact ⟨(x10_3), (wrap64 (x12_3 + 1)), (by first | rfl | (simp; done) | (simp [*]; done)), (by first | rfl | (simp; done) | (simp [*]; done)), H', ⟨by have := HK1.out; have := HK2.out; have := HK3.out; have := HJ19.out; omega⟩, ⟨by (with_reducible repeat (first | apply Kd.R_alloc | apply Kd.R_drewN | apply Kd.R_drew)); exact HO_7.out⟩, ⟨by (with_reducible repeat (first | apply Kd.R_alloc | apply Kd.R_drewN | apply Kd.R_drew)); exact HO_8.out⟩, ⟨by (with_reducible repeat (first | refine blk_drewN ?_ _ | refine blk_drew ?_ | refine blk_alloc ?_ _)); exact BK301.out⟩, ⟨by repeat (first | (with_reducible first | exact HB.out | apply below_alloc | apply pw_below_drewN | apply below_drew1 | refine below_set ?_ GE301.out | refine below_set ?_ GE315.out) | exact HB.out)⟩⟩
                  ·replace c46 := Bool.eq_false_iff.mpr c46
                   subst c46
                   have H1 : (if ((rd_T71 ((rd_T61 l0_3 x11_2).f1) x12_3).f0) = true then (gramaryeref11_Next.l1 kj19 a1 false t302 x8_1 x9_1 x10_3 (wrap64 (x11_2 + 1)) a0_0 a0_1 l0_2 l0_3) else (if 0 ≤ ((rd_T71 ((rd_T61 l0_3 x11_2).f1) x12_3).f1) then (if ((rd_T71 ((rd_T61 l0_3 x11_2).f1) x12_3).f1) < (t302.length : Int) then (if rdOf false t302 ((rd_T71 ((rd_T61 l0_3 x11_2).f1) x12_3).f1) = true then (gramaryeref11_Next.l2 kj19 a1 false t302 x8_1 x9_1 x10_3 x11_2 (wrap64 (x12_3 + 1)) a0_0 a0_1 l0_2 l0_3) else (gramaryeref11_Next.l1 kj19 a1 false t302 x8_1 x9_1 x10_3 (wrap64 (x11_2 + 1)) a0_0 a0_1 l0_2 l0_3)) else (none)) else (none))) = some r := by rw [if_neg (show ¬ (false = true) by decide)] at H; exact H
                   clear H
                   have H := H1
                   clear H1
                   by_cases c47 : ((rd_T71 ((rd_T61 l0_3 x11_2).f1) x12_3).f0) = true
                   ·rw [if_pos c47] at H
                    have c47b0 : ((rd_T71 ((rd_T61 l0_3 x11_2).f1) x12_3).f0) = true := c47
                    clear c47
                    have H' := Aside0.mk H
                    clear H
                    have hnb48 := NB315_301.out
                    have hnc48 := NB301_315.out
                    have hcz49_0 : wc.cell? ⟨gb315, 0, none⟩ = some (.bool ((rd_T71 ((rd_T61 l0_3 x11_2).f1) x12_3).f0)) := (blk_cell BK315.out 0).trans rfl
                    have hcz49_1 : wc.cell? ⟨gb315, 1, none⟩ = some (.int .i64 ((rd_T71 ((rd_T61 l0_3 x11_2).f1) x12_3).f1)) := (blk_cell BK315.out 1).trans rfl
                    have hfz49_0 := blk_frozen BK315.out 0
                    have hfz49_1 := blk_frozen BK315.out 1
                    go_wp2
                    go_roundg kj19
                    case measure => have := HK1.out; have := HK2.out; have := HK3.out; have := HJ19.out; omega
                    case rel => exact ⟨(x10_3), (wrap64 (x11_2 + 1)), (by first | rfl | (simp; done) | (simp [*]; done)), (by first | rfl | (simp; done) | (simp [*]; done)), H', ⟨by have := HK1.out; have := HK2.out; have := HK3.out; have := HJ19.out; omega⟩, ⟨by (with_reducible repeat (first | apply Kd.R_alloc | apply Kd.R_drewN | apply Kd.R_drew)); exact HO_7.out⟩, ⟨by (with_reducible repeat (first | apply Kd.R_alloc | apply Kd.R_drewN | apply Kd.R_drew)); exact HO_8.out⟩, ⟨by (with_reducible repeat (first | refine blk_drewN ?_ _ | refine blk_drew ?_ | refine blk_alloc ?_ _)); exact BK301.out⟩, ⟨by repeat (first | (with_reducible first | exact HB.out | apply below_alloc | apply pw_below_drewN | apply below_drew1 | refine below_set ?_ GE301.out | refine below_set ?_ GE315.out) | exact HB.out)⟩⟩
                   ·rw [if_neg c47] at H
                    have c47b0 : ((rd_T71 ((rd_T61 l0_3 x11_2).f1) x12_3).f0) = false := by simpa using c47
                    clear c47
                    by_cases c50 : 0 ≤ ((rd_T71 ((rd_T61 l0_3 x11_2).f1) x12_3).f1)
                    ·rw [if_pos c50] at H
                     have c50b0 : decide (0 ≤ ((rd_T71 ((rd_T61 l0_3 x11_2).f1) x12_3).f1)) = true := decide_eq_true c50
                     clear c50
                     by_cases c51 : ((rd_T71 ((rd_T61 l0_3 x11_2).f1) x12_3).f1) < (t302.length : Int)
                     ·rw [if_pos c51] at H
                      have c51b0 : decide (((rd_T71 ((rd_T61 l0_3 x11_2).f1) x12_3).f1) < (t302.length : Int)) = true := decide_eq_true c51
                      clear c51
                      obtain ⟨bq52, hbq52⟩ : ∃ b_ : Bool, b_ = (rdOf false t302 ((rd_T71 ((rd_T61 l0_3 x11_2).f1) x12_3).f1)) := ⟨_, rfl⟩
                      replace H : (if bq52 = true then (gramaryeref11_Next.l2 kj19 a1 false t302 x8_1 x9_1 x10_3 x11_2 (wrap64 (x12_3 + 1)) a0_0 a0_1 l0_2 l0_3) else (gramaryeref11_Next.l1 kj19 a1 false t302 x8_1 x9_1 x10_3 (wrap64 (x11_2 + 1)) a0_0 a0_1 l0_2 l0_3)) = some r := by rw [← hbq52] at H; exact H
                      have Nbq52 := Aside0.mk hbq52
                      clear hbq52
                      by_cases c53 : bq52 = true
                      ·subst c53
                       have H1 : (gramaryeref11_Next.l2 kj19 a1 false t302 x8_1 x9_1 x10_3 x11_2 (wrap64 (x12_3 + 1)) a0_0 a0_1 l0_2 l0_3) = some r := by rw [if_pos rfl] at H; exact H
                       clear H
                       have H := H1
                       clear H1
                       have H' := Aside0.mk H
                       clear H
                       have hnb54 := NB315_301.out
                       have hnc54 := NB301_315.out
                       have hcz55_0 : wc.cell? ⟨gb315, 0, none⟩ = some (.bool ((rd_T71 ((rd_T61 l0_3 x11_2).f1) x12_3).f0)) := (blk_cell BK315.out 0).trans rfl
                       have hcz55_1 : wc.cell? ⟨gb315, 1, none⟩ = some (.int .i64 ((rd_T71 ((rd_T61 l0_3 x11_2).f1) x12_3).f1)) := (blk_cell BK315.out 1).trans rfl
                       have hfz55_0 := blk_frozen BK315.out 0
                       have hfz55_1 := blk_frozen BK315.out 1
                       obtain ⟨Ao56, co56, eo56⟩ := Kd.R_slice HO_7.out
                       subst eo56
                       have p317 : 0 ≤ (((rd_T71 ((rd_T61 l0_3 x11_2).f1) x12_3).f1) : Int) := of_decide_eq_true (by first | (with_reducible assumption) | assumption)
                       have q317 : ((rd_T71 ((rd_T61 l0_3 x11_2).f1) x12_3).f1) < (t302.length : Int) := of_decide_eq_true (by first | (with_reducible assumption) | assumption)
                       obtain ⟨ad317, e317, hx317_0⟩ := Kd.at_bool (Kd.R_reads' HO_7.out).2.2 ((rd_T71 ((rd_T61 l0_3 x11_2).f1) x12_3).f1) p317 q317
                       (try rw [← Nbq52.out] at hx317_0)
                       cases e317
                       replace p317 := eq_true p317
                       replace q317 := eq_true q317
                       go_wp2
                       go_roundg kj19
                       case measure => have := HK1.out; have := HK2.out; have := HK3.out; have := HJ19.out; omega
                       case rel => exact ⟨(x10_3), (wrap64 (x12_3 + 1)), (by first | rfl | (simp; done) | (simp [*]; done)), (by first | rfl | (simp; done) | (simp [*]; done)), H', ⟨by have := HK1.out; have := HK2.out; have := HK3.out; have := HJ19.out; omega⟩, ⟨by (with_reducible repeat (first | apply Kd.R_alloc | apply Kd.R_drewN | apply Kd.R_drew)); exact HO_7.out⟩, ⟨by (with_reducible repeat (first | apply Kd.R_alloc | apply Kd.R_drewN | apply Kd.R_drew)); exact HO_8.out⟩, ⟨by (with_reducible repeat (first | refine blk_drewN ?_ _ | refine blk_drew ?_ | refine blk_alloc ?_ _)); exact BK301.out⟩, ⟨by repeat (first | (with_reducible first | exact HB.out | apply below_alloc | apply pw_below_drewN | apply below_drew1 | refine below_set ?_ GE301.out | refine below_set ?_ GE315.out) | exact HB.out)⟩⟩
                      ·replace c53 := Bool.eq_false_iff.mpr c53
                       subst c53
                       have H1 : (gramaryeref11_Next.l1 kj19 a1 false t302 x8_1 x9_1 x10_3 (wrap64 (x11_2 + 1)) a0_0 a0_1 l0_2 l0_3) = some r := by rw [if_neg (show ¬ (false = true) by decide)] at H; exact H
                       clear H
                       have H := H1
                       clear H1
                       have H' := Aside0.mk H
                       clear H
                       have hnb57 := NB315_301.out
                       have hnc57 := NB301_315.out
                       have hcz58_0 : wc.cell? ⟨gb315, 0, none⟩ = some (.bool ((rd_T71 ((rd_T61 l0_3 x11_2).f1) x12_3).f0)) := (blk_cell BK315.out 0).trans rfl
                       have hcz58_1 : wc.cell? ⟨gb315, 1, none⟩ = some (.int .i64 ((rd_T71 ((rd_T61 l0_3 x11_2).f1) x12_3).f1)) := (blk_cell BK315.out 1).trans rfl
                       have hfz58_0 := blk_frozen BK315.out 0
                       have hfz58_1 := blk_frozen BK315.out 1
                       obtain ⟨Ao59, co59, eo59⟩ := Kd.R_slice HO_7.out
                       subst eo59
                       have p317 : 0 ≤ (((rd_T71 ((rd_T61 l0_3 x11_2).f1) x12_3).f1) : Int) := of_decide_eq_true (by first | (with_reducible assumption) | assumption)
                       have q317 : ((rd_T71 ((rd_T61 l0_3 x11_2).f1) x12_3).f1) < (t302.length : Int) := of_decide_eq_true (by first | (with_reducible assumption) | assumption)
                       obtain ⟨ad317, e317, hx317_0⟩ := Kd.at_bool (Kd.R_reads' HO_7.out).2.2 ((rd_T71 ((rd_T61 l0_3 x11_2).f1) x12_3).f1) p317 q317
                       (try rw [← Nbq52.out] at hx317_0)
                       cases e317
                       replace p317 := eq_true p317
                       replace q317 := eq_true q317
                       go_wp2
                       go_roundg kj19
                       case measure => have := HK1.out; have := HK2.out; have := HK3.out; have := HJ19.out; omega
                       case rel => exact ⟨(x10_3), (wrap64 (x11_2 + 1)), (by first | rfl | (simp; done) | (simp [*]; done)), (by first | rfl | (simp; done) | (simp [*]; done)), H', ⟨by have := HK1.out; have := HK2.out; have := HK3.out; have := HJ19.out; omega⟩, ⟨by (with_reducible repeat (first | apply Kd.R_alloc | apply Kd.R_drewN | apply Kd.R_drew)); exact HO_7.out⟩, ⟨by (with_reducible repeat (first | apply Kd.R_alloc | apply Kd.R_drewN | apply Kd.R_drew)); exact HO_8.out⟩, ⟨by (with_reducible repeat (first | refine blk_drewN ?_ _ | refine blk_drew ?_ | refine blk_alloc ?_ _)); exact BK301.out⟩, ⟨by repeat (first | (with_reducible first | exact HB.out | apply below_alloc | apply pw_below_drewN | apply below_drew1 | refine below_set ?_ GE301.out | refine below_set ?_ GE315.out) | exact HB.out)⟩⟩
                     ·rw [if_neg c51] at H
                      exact absurd H (by simp)
                    ·rw [if_neg c50] at H
                     exact absurd H (by simp)
              ·rw [if_neg c19] at H
               exact absurd H (by simp)
             ·rw [if_neg c18] at H
              have c18b0 : decide (x12_3 < (((rd_T61 l0_3 x11_2).f1).length : Int)) = false := decide_eq_false c18
              clear c18
              have H' := Aside0.mk H
              clear H
              have hcz60_0 : wr.cell? ⟨gb301, 0, none⟩ = some (.int .i64 a0_0) := (blk_cell BK301.out 0).trans rfl
              have hcz60_1 : wr.cell? ⟨gb301, 1, none⟩ = some (.int .i64 a0_1) := (blk_cell BK301.out 1).trans rfl
              have hcz60_2 : wr.cell? ⟨gb301, 2, none⟩ = some (.slice A0_2 l0_2.length c0_2) := (blk_cell BK301.out 2).trans rfl
              have hcz60_3 : wr.cell? ⟨gb301, 3, none⟩ = some (.slice (some ad311) l0_3.length c0_3) := (blk_cell BK301.out 3).trans rfl
              have hfz60_0 := blk_frozen BK301.out 0
              have hfz60_1 := blk_frozen BK301.out 1
              have hfz60_2 := blk_frozen BK301.out 2
              have hfz60_3 := blk_frozen BK301.out 3
              have p312 : 0 ≤ (x11_2 : Int) := of_decide_eq_true (by first | (with_reducible assumption) | assumption)
              have q312 : x11_2 < (l0_3.length : Int) := of_decide_eq_true (by first | (with_reducible assumption) | assumption)
              obtain ⟨ad312, A312_1, c312_1, e312, hx312_0, hx312_1, hl312_1, hi312_1⟩ := at_T61 HR0_3.out x11_2 p312 q312
              obtain rfl : ad311 = ad312 := (by injection e312)
              replace hx312_0 := (HB.out.cell (World.block_lt_of_cell? w _ hx312_0)).trans hx312_0
              replace hx312_1 := (HB.out.cell (World.block_lt_of_cell? w _ hx312_1)).trans hx312_1
              have HR312_1 := Aside0.mk hi312_1
              have HC312_1 := Aside0.mk hl312_1
              clear hi312_1 hl312_1
              replace p312 := eq_true p312
              replace q312 := eq_true q312
              go_wp2
              go_roundg k3
              case measure => have := HK1.out; have := HK2.out; have := HK3.out; omega
              case rel => exact ⟨(x10_3), (wrap64 (x11_2 + 1)), (by first | rfl | (simp; done) | (simp [*]; done)), (by first | rfl | (simp; done) | (simp [*]; done)), H', ⟨by have := HK1.out; have := HK2.out; have := HK3.out; omega⟩, ⟨by (with_reducible repeat (first | apply Kd.R_alloc | apply Kd.R_drewN | apply Kd.R_drew)); exact HO_7.out⟩, ⟨by (with_reducible repeat (first | apply Kd.R_alloc | apply Kd.R_drewN | apply Kd.R_drew)); exact HO_8.out⟩, ⟨by (with_reducible repeat (first | refine blk_drewN ?_ _ | refine blk_drew ?_ | refine blk_alloc ?_ _)); exact BK301.out⟩, ⟨by repeat (first | (with_reducible first | exact HB.out | apply below_alloc | apply pw_below_drewN | apply below_drew1 | refine below_set ?_ GE301.out) | exact HB.out)⟩⟩
            ·rw [if_neg c17] at H
             exact absurd H (by simp)
           ·rw [if_neg c16] at H
            exact absurd H (by simp)
        ·rw [if_neg c14] at H
         have c14b0 : (((rd_T61 l0_3 x11_2).f0) == a1) = false := beq_eq_false_iff_ne.mpr c14
         have c14b1 : (((rd_T61 l0_3 x11_2).f0) != a1) = true := bne_iff_ne.mpr c14
         have H' := Aside0.mk H
         clear H
         have hcz61_0 : wr.cell? ⟨gb301, 0, none⟩ = some (.int .i64 a0_0) := (blk_cell BK301.out 0).trans rfl
         have hcz61_1 : wr.cell? ⟨gb301, 1, none⟩ = some (.int .i64 a0_1) := (blk_cell BK301.out 1).trans rfl
         have hcz61_2 : wr.cell? ⟨gb301, 2, none⟩ = some (.slice A0_2 l0_2.length c0_2) := (blk_cell BK301.out 2).trans rfl
         have hcz61_3 : wr.cell? ⟨gb301, 3, none⟩ = some (.slice A0_3 l0_3.length c0_3) := (blk_cell BK301.out 3).trans rfl
         have hfz61_0 := blk_frozen BK301.out 0
         have hfz61_1 := blk_frozen BK301.out 1
         have hfz61_2 := blk_frozen BK301.out 2
         have hfz61_3 := blk_frozen BK301.out 3
         have p311 : 0 ≤ (x11_2 : Int) := of_decide_eq_true (by first | (with_reducible assumption) | assumption)
         have q311 : x11_2 < (l0_3.length : Int) := of_decide_eq_true (by first | (with_reducible assumption) | assumption)
         obtain ⟨ad311, A311_1, c311_1, e311, hx311_0, hx311_1, hl311_1, hi311_1⟩ := at_T61 HR0_3.out x11_2 p311 q311
         cases e311
         replace hx311_0 := (HB.out.cell (World.block_lt_of_cell? w _ hx311_0)).trans hx311_0
         replace hx311_1 := (HB.out.cell (World.block_lt_of_cell? w _ hx311_1)).trans hx311_1
         have HR311_1 := Aside0.mk hi311_1
         have HC311_1 := Aside0.mk hl311_1
         clear hi311_1 hl311_1
         replace p311 := eq_true p311
         replace q311 := eq_true q311
         go_wp2
         go_roundg k2
         case measure => have := HK1.out; have := HK2.out; omega
         case rel => exact ⟨(x10_2), (wrap64 (x11_2 + 1)), (by first | rfl | (simp; done) | (simp [*]; done)), (by first | rfl | (simp; done) | (simp [*]; done)), H', ⟨by have := HK1.out; have := HK2.out; omega⟩, ⟨by (with_reducible repeat (first | apply Kd.R_alloc | apply Kd.R_drewN | apply Kd.R_drew)); exact HO_7.out⟩, ⟨by (with_reducible repeat (first | apply Kd.R_alloc | apply Kd.R_drewN | apply Kd.R_drew)); exact HO_8.out⟩, ⟨by (with_reducible repeat (first | refine blk_drewN ?_ _ | refine blk_drew ?_ | refine blk_alloc ?_ _)); exact BK301.out⟩, ⟨by repeat (first | (with_reducible first | exact HB.out | apply below_alloc | apply pw_below_drewN | apply below_drew1 | refine below_set ?_ GE301.out) | exact HB.out)⟩⟩
       ·rw [if_neg c13] at H
        exact absurd H (by simp)
      ·rw [if_neg c12] at H
       have c12b0 : decide (x11_2 < (l0_3.length : Int)) = false := decide_eq_false c12
       clear c12
       by_cases c62 : x10_2 = true
       ·subst c62
        have H1 : (if x8_1.length < 17592186044416 then (gramaryeref11_Next.l0 k2 a1 a2 t302 (x8_1 ++ [x9_1]) (wrap64 (x9_1 + 1)) a0_0 a0_1 l0_2 l0_3) else (none)) = some r := by rw [if_pos rfl] at H; exact H
        clear H
        have H := H1
        clear H1
        by_cases c63 : x8_1.length < 17592186044416
        ·rw [if_pos c63] at H
         have LMc63 := Aside0.mk c63
         clear c63
         obtain ⟨y308, hy308⟩ : ∃ y_ : List Int, y_ = (x8_1 ++ [x9_1]) := ⟨_, rfl⟩
         replace H : (gramaryeref11_Next.l0 k2 a1 a2 t302 y308 (wrap64 (x9_1 + 1)) a0_0 a0_1 l0_2 l0_3) = some r := by first | (rw [hy308]; with_reducible exact H) | (have H2_ := (Option.bind_some _ _).symm.trans H; rw [hy308]; with_reducible exact H2_) | (have H2_ := (Option.bind_some _ _).symm.trans H; with_reducible exact H2_) | with_reducible exact H | (rw [hy308]; exact H) | exact H
         have Ny308 := Aside0.mk hy308
         clear hy308
         have H' := Aside0.mk H
         clear H
         have hcz64_0 : wr.cell? ⟨gb301, 0, none⟩ = some (.int .i64 a0_0) := (blk_cell BK301.out 0).trans rfl
         have hcz64_1 : wr.cell? ⟨gb301, 1, none⟩ = some (.int .i64 a0_1) := (blk_cell BK301.out 1).trans rfl
         have hcz64_2 : wr.cell? ⟨gb301, 2, none⟩ = some (.slice A0_2 l0_2.length c0_2) := (blk_cell BK301.out 2).trans rfl
         have hcz64_3 : wr.cell? ⟨gb301, 3, none⟩ = some (.slice A0_3 l0_3.length c0_3) := (blk_cell BK301.out 3).trans rfl
         have hfz64_0 := blk_frozen BK301.out 0
         have hfz64_1 := blk_frozen BK301.out 1
         have hfz64_2 := blk_frozen BK301.out 2
         have hfz64_3 := blk_frozen BK301.out 3
         go_wp2_with (first | ((with_reducible refine gate_builtin (b := .append) (xs := #[.tmp 83, .tmp 85]) rfl ?_); at_builtin; refine Kd.R_append (Kd.int .i64) (w0 := w) w.heap.size rfl (.tmp 83) (.tmp 85) 22 3 (.int .i64 0) 8 rfl Try.underlying22 info3 rfl (by decide) (by omega) u8 x8_1 x9_1 [.int .i64 x9_1] (fun _ => True) (fun _ => False) rfl rfl ?aP (fun _ hk => hk.elim) ?aF ?aO ?aB ?aS ?aL ?_; (case aP => exact rfl); (case aB => exact (by repeat (first | (with_reducible first | exact HB.out | apply below_alloc | apply pw_below_drewN | apply below_drew1 | refine below_set ?_ GE301.out) | exact HB.out))); (case aF => exact (fun _ _ => trivial)); (case aO => exact (by (with_reducible repeat (first | apply Kd.R_alloc | apply Kd.R_drewN | apply Kd.R_drew)); exact HO_8.out)); (case aS => exact (below_size (by repeat (first | (with_reducible first | exact HB.out | apply below_alloc | apply pw_below_drewN | apply below_drew1 | refine below_set ?_ GE301.out) | exact HB.out)))); (case aL => have := LMc63.out; omega); intro v309 w65 ho hb hg hat; rw [← Ny308.out] at ho; have n0_ := Aside0.mk (Kd.R_over' (by (with_reducible repeat (first | apply Kd.R_alloc | apply Kd.R_drewN | apply Kd.R_drew)); exact HO_7.out) (Kd.R_typed (by (with_reducible repeat (first | apply Kd.R_alloc | apply Kd.R_drewN | apply Kd.R_drew)); exact HO_8.out)) (by decide) hg); have n1_ := Aside0.mk (blk_grown (g := gb301) (o := .cells #[.int .i64 a0_0, .int .i64 a0_1, .slice A0_2 l0_2.length c0_2, .slice A0_3 l0_3.length c0_3] 25 (0, 0)) (by (with_reducible repeat (first | refine blk_drewN ?_ _ | refine blk_drew ?_ | refine blk_alloc ?_ _)); exact BK301.out) hg (Kd.R_ne HO_8.out BK301.out (by decide))); have n2_ := Aside0.mk (hb); have n3_ := Aside0.mk (ho); clear HO_7; clear BK301; clear HB; clear HO_8; have HO_7 := n0_; have BK301 := n1_; have HB := n2_; have HO310 := n3_; clear n0_ n1_ n2_ n3_; clear ho hb hg hat))
         go_roundg k2
         case measure => have := HK1.out; have := HK2.out; omega
         case rel => exact ⟨(y308), (wrap64 (x9_1 + 1)), (by first | rfl | (simp; done) | (simp [*]; done)), H', ⟨by have := HK1.out; have := HK2.out; omega⟩, ⟨by (with_reducible repeat (first | apply Kd.R_alloc | apply Kd.R_drewN | apply Kd.R_drew)); exact HO_7.out⟩, ⟨by (with_reducible repeat (first | apply Kd.R_alloc | apply Kd.R_drewN | apply Kd.R_drew)); exact HO310.out⟩, ⟨by (with_reducible repeat (first | refine blk_drewN ?_ _ | refine blk_drew ?_ | refine blk_alloc ?_ _)); exact BK301.out⟩, ⟨by repeat (first | (with_reducible first | exact HB.out | apply below_alloc | apply pw_below_drewN | apply below_drew1 | refine below_set ?_ GE301.out) | exact HB.out)⟩⟩
        ·rw [if_neg c63] at H
         exact absurd H (by simp)
       ·replace c62 := Bool.eq_false_iff.mpr c62
        subst c62
        have H1 : (gramaryeref11_Next.l0 k2 a1 a2 t302 x8_1 (wrap64 (x9_1 + 1)) a0_0 a0_1 l0_2 l0_3) = some r := by rw [if_neg (show ¬ (false = true) by decide)] at H; exact H
        clear H
        have H := H1
        clear H1
        have H' := Aside0.mk H
        clear H
        have hcz66_0 : wr.cell? ⟨gb301, 0, none⟩ = some (.int .i64 a0_0) := (blk_cell BK301.out 0).trans rfl
        have hcz66_1 : wr.cell? ⟨gb301, 1, none⟩ = some (.int .i64 a0_1) := (blk_cell BK301.out 1).trans rfl
        have hcz66_2 : wr.cell? ⟨gb301, 2, none⟩ = some (.slice A0_2 l0_2.length c0_2) := (blk_cell BK301.out 2).trans rfl
        have hcz66_3 : wr.cell? ⟨gb301, 3, none⟩ = some (.slice A0_3 l0_3.length c0_3) := (blk_cell BK301.out 3).trans rfl
        have hfz66_0 := blk_frozen BK301.out 0
        have hfz66_1 := blk_frozen BK301.out 1
        have hfz66_2 := blk_frozen BK301.out 2
        have hfz66_3 := blk_frozen BK301.out 3
        go_wp2
        go_roundg k2
        case measure => have := HK1.out; have := HK2.out; omega
        case rel => exact ⟨(x8_1), (wrap64 (x9_1 + 1)), (by first | rfl | (simp; done) | (simp [*]; done)), H', ⟨by have := HK1.out; have := HK2.out; omega⟩, ⟨by (with_reducible repeat (first | apply Kd.R_alloc | apply Kd.R_drewN | apply Kd.R_drew)); exact HO_7.out⟩, ⟨by (with_reducible repeat (first | apply Kd.R_alloc | apply Kd.R_drewN | apply Kd.R_drew)); exact HO_8.out⟩, ⟨by (with_reducible repeat (first | refine blk_drewN ?_ _ | refine blk_drew ?_ | refine blk_alloc ?_ _)); exact BK301.out⟩, ⟨by repeat (first | (with_reducible first | exact HB.out | apply below_alloc | apply pw_below_drewN | apply below_drew1 | refine below_set ?_ GE301.out) | exact HB.out)⟩⟩
   ·rw [if_neg c10] at H
    have c10b0 : decide (x9_1 < (l0_2.length : Int)) = false := decide_eq_false c10
    clear c10
    obtain rfl := Option.some.inj H
    have hcz67_0 : wr.cell? ⟨gb301, 0, none⟩ = some (.int .i64 a0_0) := (blk_cell BK301.out 0).trans rfl
    have hcz67_1 : wr.cell? ⟨gb301, 1, none⟩ = some (.int .i64 a0_1) := (blk_cell BK301.out 1).trans rfl
    have hcz67_2 : wr.cell? ⟨gb301, 2, none⟩ = some (.slice A0_2 l0_2.length c0_2) := (blk_cell BK301.out 2).trans rfl
    have hcz67_3 : wr.cell? ⟨gb301, 3, none⟩ = some (.slice A0_3 l0_3.length c0_3) := (blk_cell BK301.out 3).trans rfl
    have hfz67_0 := blk_frozen BK301.out 0
    have hfz67_1 := blk_frozen BK301.out 1
    have hfz67_2 := blk_frozen BK301.out 2
    have hfz67_3 := blk_frozen BK301.out 3
    go_wp2
    go_ret
    exact ⟨_, by first | rfl | (simp [errW_none, errW_some] <;> rfl) | (simp [*, errW_none, errW_some] <;> rfl), by (with_reducible repeat (first | apply Kd.R_alloc | apply Kd.R_drewN | apply Kd.R_drew)); exact HO_8.out, by repeat (first | (with_reducible first | exact HB.out | apply below_alloc | apply pw_below_drewN | apply below_drew1 | refine below_set ?_ GE301.out) | exact HB.out)⟩
end Go.Proofs.Ytnihlieggknpaaa.HFollowWhole
