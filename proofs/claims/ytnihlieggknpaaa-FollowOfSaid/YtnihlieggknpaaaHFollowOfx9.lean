-- Written by plus.py for this claim.
import Derived.Test.YtnihlieggknpaaaHFollowOfx0
import Derived.Test.YtnihlieggknpaaaHFollowOfx2
import Derived.Test.YtnihlieggknpaaaHFollowOfx7
import Derived.Test.YtnihlieggknpaaaHFollowOfx8
namespace Go.Proofs.Ytnihlieggknpaaa.HFollowOf
open Go.RowKit Go.Proofs.YtnihlieggknpaaaW.PrintWords Go.Proofs.YtnihlieggknpaaaW.PrintLast Go.Proofs.YtnihlieggknpaaaW.PrintMore
attribute [local go_sem] yj yk yw yx ya yb yl ym   -- for this text's walks alone
set_option linter.unusedVariables false
set_option linter.unusedSimpArgs false
def zg.l0 : Nat → Int → Int → Int → List Int → List (S61) → Option (Int × Int × List Int × (List (S61)))
 | 0, _, _, _, _, _ => none
 | k + 1, x4, x274000, x274001, x274002, x274003 => if x4 < (x274003.length : Int) then (if 0 ≤ x4 then (if 0 ≤ (mn (((zM x274003 x4).f1).length : Int) 4) then (if (mn (((zM x274003 x4).f1).length : Int) 4) ≤ (((zM x274003 x4).f1).length : Int) then (zg.l0 k (wrap64 (x4 + 1)) x274000 x274001 x274002 (x274003.set (x4 : Int).toNat (⟨(zM x274003 x4).f0, (((zM x274003 x4).f1).take ((mn (((zM x274003 x4).f1).length : Int) 4) : Int).toNat)⟩ : S61))) else (none)) else (none)) else (none)) else (some (x274000, x274001, x274002, x274003))
def zg.f (k : Nat) (a0_0 : Int) (a0_1 : Int) (l0_2 : List Int) (l0_3 : List (S61)) : Option (Int × Int × List Int × (List (S61))) := (ze.f k a0_0 a0_1 l0_2 l0_3 8 14).bind fun bt265 => (zg.l0 k 0 bt265.1 bt265.2.1 bt265.2.2.1 bt265.2.2.2)
theorem zg.mono_l : ∀ k, (∀ y0 y1 y2 y3 y4, LeO (zg.l0 k y0 y1 y2 y3 y4) (zg.l0 (k + 1) y0 y1 y2 y3 y4))
 | 0 => fun _ _ _ _ _ r h => by simp [zg.l0] at h
 | k + 1 => by
  have ih0 := zg.mono_l k
  ·intro y0 y1 y2 y3 y4
   unfold zg.l0
   repeat' first
   | (with_reducible exact ih0 _ _ _ _ _)
   | (with_reducible exact ze.mono _ _ _ _ _ _ _)
   | (with_reducible exact LeO.refl _)
   | (with_reducible exact LeO.none _)
   | (with_reducible refine LeO.ite ?_ ?_)
   | (with_reducible refine LeO.bind ?_ (fun _ => ?_))
   | exact ih0 _ _ _ _ _
   | exact ze.mono _ _ _ _ _ _ _
   | exact LeO.none _
   | refine LeO.ite ?_ ?_
   | refine LeO.bind ?_ (fun _ => ?_)
theorem zg.mono : ∀ a0 a1 a2 a3 k, LeO (zg.f k a0 a1 a2 a3) (zg.f (k + 1) a0 a1 a2 a3) := by
 intro a0 a1 a2 a3 k
 have ih0 := zg.mono_l k
 unfold zg.f
 repeat' first
   | (with_reducible exact ih0 _ _ _ _ _)
   | (with_reducible exact ze.mono _ _ _ _ _ _ _)
   | (with_reducible exact LeO.refl _)
   | (with_reducible exact LeO.none _)
   | (with_reducible refine LeO.ite ?_ ?_)
   | (with_reducible refine LeO.bind ?_ (fun _ => ?_))
   | exact ih0 _ _ _ _ _
   | exact ze.mono _ _ _ _ _ _ _
   | exact LeO.none _
   | refine LeO.ite ?_ ?_
   | refine LeO.bind ?_ (fun _ => ?_)
def zg.T6 : Bool × List (List Nat × List Nat) := (true, [([], []), ([0], [0]), ([], []), ([], []), ([], []), ([4], [4]), ([5], [5]), ([3, 6], [3, 6]), ([1, 2, 0, 1, 2, 3, 4, 5, 6, 7], [1, 2]), ([8, 0, 1, 2, 3, 4, 5, 6, 7], [8]), ([9, 7, 0, 1, 2, 3, 4, 5, 6, 7], [7, 9])])
def zg.B6 : List Nat := [0, 1, 0, 0, 0, 16, 48, 120, 255, 511, 1023]
theorem zg.tab6 : rtab .any (opsOf Try.f17 6) = zg.T6 := by kernel_rfl
theorem zg.bits6 : ZS zg.T6.2 zg.B6 = true := by kernel_rfl
set_option maxHeartbeats 8000000 in
set_option maxRecDepth 100000 in
theorem zg.calls (k : Nat) (a0_0 : Int) (a0_1 : Int) (A0_2 : Option Addr) (c0_2 : Nat) (l0_2 : List Int) (A0_3 : Option Addr) (c0_3 : Nat) (l0_3 : List (S61)) (r1 : Int) (r2 : Int) (r3 : List Int) (r4 : List (S61)) (w : World) (hr0_2 : Kd.C (Kd.int .i64) w A0_2 l0_2.length l0_2) (hc0_2 : l0_2.length ≤ c0_2) (hr0_3 : Kd.C k61 w A0_3 l0_3.length l0_3) (hc0_3 : l0_3.length ≤ c0_3) (h : zg.f k a0_0 a0_1 l0_2 l0_3 = some (r1, r2, r3, r4)) :
  Calls Try.prog 17 #[.agg #[.int .i64 a0_0, .int .i64 a0_1, .slice A0_2 l0_2.length c0_2, .slice A0_3 l0_3.length c0_3]] w fun e w' => ∃ v2_ v3_ : Value, e = .returned (.agg #[.int .i64 r1, .int .i64 r2, v2_, v3_]) ∧ Kd.R (Kd.int .i64) 3 w' w.heap.size (fun k_ => (w.heap.size ≤ k_)) v2_ r3 ∧ Kd.N k61 61 w' w.heap.size (fun k_ => (w.heap.size ≤ k_) ∧ some k_ ≠ (v2_ : Value).ownBlock) v3_ r4 ∧ Below w.heap.size w w' := by
 have hu25 := Try.underlying25
 have HR0_2 := zA.mk hr0_2
 have HC0_2 := zA.mk hc0_2
 clear hr0_2 hc0_2
 have HR0_3 := zA.mk hr0_3
 have HC0_3 := zA.mk hc0_3
 clear hr0_3 hc0_3
 have HB := zA.mk (Below.refl w.heap.size w)
 have H : ((ze.f k a0_0 a0_1 l0_2 l0_3 8 14).bind fun bt265 => (zg.l0 k 0 bt265.1 bt265.2.1 bt265.2.2.1 bt265.2.2.2)) = some (r1, r2, r3, r4) := h
 clear h
 replace H := Option.bind_eq_some_iff.mp H
 obtain ⟨⟨t265, t266, t267, t270⟩, A20, H⟩ := H
 replace H : (zg.l0 k 0 t265 t266 t267 t270) = some (r1, r2, r3, r4) := H
 have A2 := zA.mk A20
 clear A20
 have H' := zA.mk H
 clear H
 go_enter Try.func17, Try.ntmps17
 go_wp2_with (first | ((with_reducible refine zr (N := 1) rfl ?_); refine zz ?hg (N := 1) ?hd (cs := #[.int .i64 a0_0, .int .i64 a0_1, .slice A0_2 l0_2.length c0_2, .slice A0_3 l0_3.length c0_3]) (t := 25) ?hr ?_; (case hd => rfl); (case hg => rfl); (case hr => first | (go_simp; done) | (go_simp; rfl)); intro gb263 hg w3 hbox hb; have n0_ := zA.mk (zL (by repeat (first | (with_reducible first | exact HB.out | apply zD | apply zB | apply zC) | exact HB.out)) hb); have n1_ := zA.mk (hbox); have n2_ := zA.mk ((by rw [hg]; exact (zN (by repeat (first | (with_reducible first | exact HB.out | apply zD | apply zB | apply zC) | exact HB.out))) : w.heap.size ≤ gb263)); have n3_ := zA.mk ((by rw [hg]; exact (zN (by repeat (first | (with_reducible first | exact HB.out | apply zD | apply zB | apply zC) | exact HB.out))) : w.heap.size ≤ gb263)); clear HB; have HB := n0_; have BK263 := n1_; have GW263 := n2_; have GE263 := n3_; clear n0_ n1_ n2_ n3_; clear hb hbox hg) | ((with_reducible refine zr (N := 2) rfl ?_); refine zz ?hg (N := 2) ?hd (cs := #[.int .i64 0, .int .i64 0, .slice none 0 0, .slice none 0 0]) (t := 25) ?hr ?_; (case hd => rfl); (case hg => rfl); (case hr => first | (go_simp; done) | (go_simp; rfl)); intro gb264 hg w4 hbox hb; have n0_ := zA.mk (zn (g := gb263) (o := .cells #[.int .i64 a0_0, .int .i64 a0_1, .slice A0_2 l0_2.length c0_2, .slice A0_3 l0_3.length c0_3] 25 (0, 0)) (by (with_reducible repeat (first | refine zI ?_ _ | refine zJ ?_ | refine zH ?_ _)); exact BK263.out) hb); have n1_ := zA.mk (zL (by repeat (first | (with_reducible first | exact HB.out | apply zD | apply zB | apply zC | refine zE ?_ GE263.out) | exact HB.out)) hb); have n2_ := zA.mk (hbox); have n3_ := zA.mk ((by rw [hg]; exact (zN (by repeat (first | (with_reducible first | exact HB.out | apply zD | apply zB | apply zC | refine zE ?_ GE263.out) | exact HB.out))) : w.heap.size ≤ gb264)); have n4_ := zA.mk ((by rw [hg]; exact (zN (by repeat (first | (with_reducible first | exact HB.out | apply zD | apply zB | apply zC | refine zE ?_ GE263.out) | exact HB.out))) : w.heap.size ≤ gb264)); have n5_ := zA.mk ((by rw [hg]; exact Nat.ne_of_lt (yA (g := gb263) (o := .cells #[.int .i64 a0_0, .int .i64 a0_1, .slice A0_2 l0_2.length c0_2, .slice A0_3 l0_3.length c0_3] 25 (0, 0)) (by (with_reducible repeat (first | refine zI ?_ _ | refine zJ ?_ | refine zH ?_ _)); exact BK263.out)) : gb263 ≠ gb264)); have n6_ := zA.mk ((by rw [hg]; exact Nat.ne_of_gt (yA (g := gb263) (o := .cells #[.int .i64 a0_0, .int .i64 a0_1, .slice A0_2 l0_2.length c0_2, .slice A0_3 l0_3.length c0_3] 25 (0, 0)) (by (with_reducible repeat (first | refine zI ?_ _ | refine zJ ?_ | refine zH ?_ _)); exact BK263.out)) : gb264 ≠ gb263)); clear BK263; clear HB; have BK263 := n0_; have HB := n1_; have BK264 := n2_; have GW264 := n3_; have GE264 := n4_; have NB263_264 := n5_; have NB264_263 := n6_; clear n0_ n1_ n2_ n3_ n4_ n5_ n6_; clear hb hbox hg; have hnb5 := NB263_264.out; have hnc5 := NB264_263.out; have hcz6_0 : w4.cell? ⟨gb263, 0, none⟩ = some (.int .i64 a0_0) := (zG BK263.out 0).trans rfl; have hcz6_1 : w4.cell? ⟨gb263, 1, none⟩ = some (.int .i64 a0_1) := (zG BK263.out 1).trans rfl; have hcz6_2 : w4.cell? ⟨gb263, 2, none⟩ = some (.slice A0_2 l0_2.length c0_2) := (zG BK263.out 2).trans rfl; have hcz6_3 : w4.cell? ⟨gb263, 3, none⟩ = some (.slice A0_3 l0_3.length c0_3) := (zG BK263.out 3).trans rfl; have hfz6_0 := zF BK263.out 0; have hfz6_1 := zF BK263.out 1; have hfz6_2 := zF BK263.out 2; have hfz6_3 := zF BK263.out 3) | ((with_reducible refine zt (f := 31) rfl ?_); refine yM (some 7) rfl rfl Try.func31 (by kernel_rfl) rfl #[.agg #[.int .i64 a0_0, .int .i64 a0_1, .slice A0_2 l0_2.length c0_2, .slice A0_3 l0_3.length c0_3], .int .i64 8, .int .i64 14] rfl (by (try simp only [List.map_toArray, List.map_cons, List.map_nil]); first | done | rfl | (simp only [List.length_drop, List.length_take]; rfl)) ?_; (with_reducible refine (ze.calls k a0_0 a0_1 _ _ l0_2 _ _ l0_3 8 14 t265 t266 t267 t270 _ ?side1 ?side2 ?side3 ?side4 A2.out).mono ?_); (case side1 => repeat (first | exact (Kd.C_below HR0_2.out HB.out) | (with_reducible refine Kd.C_alloc ?_ _) | (with_reducible refine Kd.C_drewN ?_ _) | (with_reducible refine Kd.C_drew ?_))); (case side2 => exact HC0_2.out); (case side3 => repeat (first | exact (Kd.C_below HR0_3.out HB.out) | (with_reducible refine Kd.C_alloc ?_ _) | (with_reducible refine Kd.C_drewN ?_ _) | (with_reducible refine Kd.C_drew ?_))); (case side4 => exact HC0_3.out); rintro e w7 ⟨v268, v271, rfl, ho0, ho1, hb⟩; refine ⟨_, rfl, ?_⟩; have n0_ := zA.mk (Kd.R_lower (Kd.R_newM (M := fun k_ => (w.heap.size ≤ k_)) ho0 (zN (by repeat (first | (with_reducible first | exact HB.out | apply zD | apply zB | apply zC | refine zE ?_ GE263.out | refine zE ?_ GE264.out) | exact HB.out))) (fun k_ h_ => h_)) (zN (by repeat (first | (with_reducible first | exact HB.out | apply zD | apply zB | apply zC | refine zE ?_ GE263.out | refine zE ?_ GE264.out) | exact HB.out)))); have n1_ := zA.mk (Kd.N_lower (Kd.N_mono (ok' := fun k_ => (w.heap.size ≤ k_) ∧ some k_ ≠ (v268 : Value).ownBlock ∧ k_ ≠ gb263 ∧ k_ ≠ gb264) (Kd.S_N (Kd.S_bound (Kd.S_apart' ho1 (Kd.R_typed ho0) (by decide)))) (fun k_ hk_ => ⟨(Nat.le_trans (zN (by repeat (first | (with_reducible first | exact HB.out | apply zD | apply zB | apply zC | refine zE ?_ GE263.out | refine zE ?_ GE264.out) | exact HB.out))) hk_.2.1), hk_.1.2, (Kd.freshB (g := gb263) (o := .cells #[.int .i64 a0_0, .int .i64 a0_1, .slice A0_2 l0_2.length c0_2, .slice A0_3 l0_3.length c0_3] 25 (0, 0)) (by (with_reducible repeat (first | refine zI ?_ _ | refine zJ ?_ | refine zH ?_ _)); exact BK263.out) k_ hk_.2.1), (Kd.freshB (g := gb264) (o := .cells #[.int .i64 0, .int .i64 0, .slice none 0 0, .slice none 0 0] 25 (0, 0)) (by (with_reducible repeat (first | refine zI ?_ _ | refine zJ ?_ | refine zH ?_ _)); exact BK264.out) k_ hk_.2.1)⟩)) (zN (by repeat (first | (with_reducible first | exact HB.out | apply zD | apply zB | apply zC | refine zE ?_ GE263.out | refine zE ?_ GE264.out) | exact HB.out)))); have n2_ := zA.mk (zn (g := gb263) (o := .cells #[.int .i64 a0_0, .int .i64 a0_1, .slice A0_2 l0_2.length c0_2, .slice A0_3 l0_3.length c0_3] 25 (0, 0)) (by (with_reducible repeat (first | refine zI ?_ _ | refine zJ ?_ | refine zH ?_ _)); exact BK263.out) hb); have n3_ := zA.mk (zn (g := gb264) (o := .cells #[.int .i64 0, .int .i64 0, .slice none 0 0, .slice none 0 0] 25 (0, 0)) (by (with_reducible repeat (first | refine zI ?_ _ | refine zJ ?_ | refine zH ?_ _)); exact BK264.out) hb); have n4_ := zA.mk (zL (by repeat (first | (with_reducible first | exact HB.out | apply zD | apply zB | apply zC | refine zE ?_ GE263.out | refine zE ?_ GE264.out) | exact HB.out)) hb); clear BK263; clear BK264; clear HB; have HO269 := n0_; have HO272 := n1_; have BK263 := n2_; have BK264 := n3_; have HB := n4_; clear n0_ n1_ n2_ n3_ n4_; (try clear hb); (try clear hb2); (try clear hk); (try clear hi); (try clear ho0); (try clear ho1)) | ((with_reducible refine zr (N := 3) rfl ?_); refine zz ?hg (N := 3) ?hd (cs := #[.int .i64 0, .int .i64 0, .slice none 0 0, .slice none 0 0]) (t := 25) ?hr ?_; (case hd => rfl); (case hg => rfl); (case hr => first | (go_simp; done) | (go_simp; rfl)); intro gb273 hg w8 hbox hb; have n0_ := zA.mk (Kd.R_below (by (with_reducible repeat (first | apply Kd.R_alloc | apply Kd.R_drewN | apply Kd.R_drew)); exact HO269.out) hb); have n1_ := zA.mk (Kd.N_below (Kd.N_elderB (by (with_reducible repeat (first | apply Kd.N_alloc | apply Kd.N_drewN | apply Kd.N_drew)); exact HO272.out) gb273 (Nat.le_of_eq hg.symm)) hb); have n2_ := zA.mk (zn (g := gb263) (o := .cells #[.int .i64 a0_0, .int .i64 a0_1, .slice A0_2 l0_2.length c0_2, .slice A0_3 l0_3.length c0_3] 25 (0, 0)) (by (with_reducible repeat (first | refine zI ?_ _ | refine zJ ?_ | refine zH ?_ _)); exact BK263.out) hb); have n3_ := zA.mk (zn (g := gb264) (o := .cells #[.int .i64 0, .int .i64 0, .slice none 0 0, .slice none 0 0] 25 (0, 0)) (by (with_reducible repeat (first | refine zI ?_ _ | refine zJ ?_ | refine zH ?_ _)); exact BK264.out) hb); have n4_ := zA.mk (zL (by repeat (first | (with_reducible first | exact HB.out | apply zD | apply zB | apply zC | refine zE ?_ GE263.out | refine zE ?_ GE264.out) | exact HB.out)) hb); have n5_ := zA.mk (hbox); have n6_ := zA.mk ((by rw [hg]; exact (zN (by repeat (first | (with_reducible first | exact HB.out | apply zD | apply zB | apply zC | refine zE ?_ GE263.out | refine zE ?_ GE264.out) | exact HB.out))) : w.heap.size ≤ gb273)); have n7_ := zA.mk ((by rw [hg]; exact (zN (by repeat (first | (with_reducible first | exact HB.out | apply zD | apply zB | apply zC | refine zE ?_ GE263.out | refine zE ?_ GE264.out) | exact HB.out))) : w.heap.size ≤ gb273)); have n8_ := zA.mk ((by rw [hg]; exact Nat.ne_of_lt (yA (g := gb263) (o := .cells #[.int .i64 a0_0, .int .i64 a0_1, .slice A0_2 l0_2.length c0_2, .slice A0_3 l0_3.length c0_3] 25 (0, 0)) (by (with_reducible repeat (first | refine zI ?_ _ | refine zJ ?_ | refine zH ?_ _)); exact BK263.out)) : gb263 ≠ gb273)); have n9_ := zA.mk ((by rw [hg]; exact Nat.ne_of_gt (yA (g := gb263) (o := .cells #[.int .i64 a0_0, .int .i64 a0_1, .slice A0_2 l0_2.length c0_2, .slice A0_3 l0_3.length c0_3] 25 (0, 0)) (by (with_reducible repeat (first | refine zI ?_ _ | refine zJ ?_ | refine zH ?_ _)); exact BK263.out)) : gb273 ≠ gb263)); have n10_ := zA.mk ((by rw [hg]; exact Nat.ne_of_lt (yA (g := gb264) (o := .cells #[.int .i64 0, .int .i64 0, .slice none 0 0, .slice none 0 0] 25 (0, 0)) (by (with_reducible repeat (first | refine zI ?_ _ | refine zJ ?_ | refine zH ?_ _)); exact BK264.out)) : gb264 ≠ gb273)); have n11_ := zA.mk ((by rw [hg]; exact Nat.ne_of_gt (yA (g := gb264) (o := .cells #[.int .i64 0, .int .i64 0, .slice none 0 0, .slice none 0 0] 25 (0, 0)) (by (with_reducible repeat (first | refine zI ?_ _ | refine zJ ?_ | refine zH ?_ _)); exact BK264.out)) : gb273 ≠ gb264)); clear HO269; clear HO272; clear BK263; clear BK264; clear HB; have HO269 := n0_; have HO272 := n1_; have BK263 := n2_; have BK264 := n3_; have HB := n4_; have BK273 := n5_; have GW273 := n6_; have GE273 := n7_; have NB263_273 := n8_; have NB273_263 := n9_; have NB264_273 := n10_; have NB273_264 := n11_; clear n0_ n1_ n2_ n3_ n4_ n5_ n6_ n7_ n8_ n9_ n10_ n11_; clear hb hbox hg; have hnb9 := NB273_263.out; have hnc9 := NB263_273.out; have hnb10 := NB273_264.out; have hnc10 := NB264_273.out; have hcz11_0 : w8.cell? ⟨gb273, 0, none⟩ = some (.int .i64 0) := (zG BK273.out 0).trans rfl; have hcz11_1 : w8.cell? ⟨gb273, 1, none⟩ = some (.int .i64 0) := (zG BK273.out 1).trans rfl; have hcz11_2 : w8.cell? ⟨gb273, 2, none⟩ = some (.slice none 0 0) := (zG BK273.out 2).trans rfl; have hcz11_3 : w8.cell? ⟨gb273, 3, none⟩ = some (.slice none 0 0) := (zG BK273.out 3).trans rfl; have hfz11_0 := zF BK273.out 0; have hfz11_1 := zF BK273.out 1; have hfz11_2 := zF BK273.out 2; have hfz11_3 := zF BK273.out 3; obtain ⟨Ao12, co12, eo12⟩ := Kd.R_slice HO269.out; subst eo12; obtain ⟨Ao13, co13, eo13⟩ := Kd.N_slice HO272.out; subst eo13))
 go_loopg [4] k (fun kq v4 w' => ∃ (x4_1 : Int) (x274003_1 : List (S61)) (u274003 : Value), v4 = .int .i64 x4_1 ∧ zA (zg.l0 kq x4_1 t265 t266 t267 x274003_1 = some (r1, r2, r3, r4)) ∧ zA (kq ≤ k) ∧ zA (Kd.R (Kd.int .i64) 3 w' w.heap.size (fun k_ => (w.heap.size ≤ k_)) (.slice Ao12 t267.length co12) t267) ∧ zA (Kd.N k61 61 w' w.heap.size (fun k_ => (w.heap.size ≤ k_) ∧ some k_ ≠ ((.slice Ao12 t267.length co12) : Value).ownBlock ∧ k_ ≠ gb263 ∧ k_ ≠ gb264 ∧ k_ ≠ gb273) u274003 x274003_1) ∧ zA (w'.heap[gb263]? = some (.cells #[.int .i64 a0_0, .int .i64 a0_1, (.slice A0_2 l0_2.length c0_2), (.slice A0_3 l0_3.length c0_3)] 25 (0, 0))) ∧ zA (w'.heap[gb264]? = some (.cells #[.int .i64 0, .int .i64 0, (.slice none 0 0), (.slice none 0 0)] 25 (0, 0))) ∧ zA (w'.heap[gb273]? = some (.cells #[.int .i64 t265, .int .i64 t266, (.slice Ao12 t267.length co12), u274003] 25 (0, 0))) ∧ zA (Below w.heap.size w w'))
 case atStart => exact ⟨(0), (t270), (.slice Ao13 t270.length co13), (by first | rfl | (simp; done) | (simp [*]; done)), H', ⟨Nat.le_refl _⟩, ⟨by (with_reducible repeat (first | apply Kd.R_alloc | apply Kd.R_drewN | apply Kd.R_drew)); exact Kd.R_mono (Kd.R_far (p := ⟨gb273, 3, none⟩) (Kd.R_far (p := ⟨gb273, 2, none⟩) (Kd.R_far (p := ⟨gb273, 1, none⟩) (Kd.R_far (p := ⟨gb273, 0, none⟩) (Kd.R_types HO269.out BK273.out (by decide)) (fun _ hk => hk.2) (.int .i64 t265)) (fun _ hk => hk.2) (.int .i64 t266)) (fun _ hk => hk.2) (.slice Ao12 t267.length co12)) (fun _ hk => hk.2) (.slice Ao13 t270.length co13)) (fun _ hk => hk.1.1)⟩, ⟨by (with_reducible repeat (first | apply Kd.N_alloc | apply Kd.N_drewN | apply Kd.N_drew)); exact Kd.N_mono (Kd.N_far (p := ⟨gb273, 3, none⟩) (Kd.N_far (p := ⟨gb273, 2, none⟩) (Kd.N_far (p := ⟨gb273, 1, none⟩) (Kd.N_far (p := ⟨gb273, 0, none⟩) (Kd.N_mono HO272.out (fun k_ hk => (⟨hk, hk.2⟩ : _ ∧ k_ ≠ gb273))) (fun _ hk => hk.2) (.int .i64 t265)) (fun _ hk => hk.2) (.int .i64 t266)) (fun _ hk => hk.2) (.slice Ao12 t267.length co12)) (fun _ hk => hk.2) (.slice Ao13 t270.length co13)) (fun _ hk => ⟨hk.1.1.1, ⟨hk.1.1.2.1, ⟨hk.1.1.2.2.1, ⟨hk.1.1.2.2.2, hk.1.2⟩⟩⟩⟩)⟩, ⟨by (with_reducible repeat (first | refine zI ?_ _ | refine zJ ?_ | refine zH ?_ _)); refine yC ?_ NB263_273.out _; (with_reducible repeat (first | refine zI ?_ _ | refine zJ ?_ | refine zH ?_ _)); refine yC ?_ NB263_273.out _; (with_reducible repeat (first | refine zI ?_ _ | refine zJ ?_ | refine zH ?_ _)); refine yC ?_ NB263_273.out _; (with_reducible repeat (first | refine zI ?_ _ | refine zJ ?_ | refine zH ?_ _)); refine yC ?_ NB263_273.out _; (with_reducible repeat (first | refine zI ?_ _ | refine zJ ?_ | refine zH ?_ _)); exact BK263.out⟩, ⟨by (with_reducible repeat (first | refine zI ?_ _ | refine zJ ?_ | refine zH ?_ _)); refine yC ?_ NB264_273.out _; (with_reducible repeat (first | refine zI ?_ _ | refine zJ ?_ | refine zH ?_ _)); refine yC ?_ NB264_273.out _; (with_reducible repeat (first | refine zI ?_ _ | refine zJ ?_ | refine zH ?_ _)); refine yC ?_ NB264_273.out _; (with_reducible repeat (first | refine zI ?_ _ | refine zJ ?_ | refine zH ?_ _)); refine yC ?_ NB264_273.out _; (with_reducible repeat (first | refine zI ?_ _ | refine zJ ?_ | refine zH ?_ _)); exact BK264.out⟩, ⟨by (with_reducible repeat (first | refine zI ?_ _ | refine zJ ?_ | refine zH ?_ _)); refine yL (cs := #[.int .i64 t265, .int .i64 t266, .slice Ao12 t267.length co12, .slice none 0 0]) ?_ 3 _ rfl; (with_reducible repeat (first | refine zI ?_ _ | refine zJ ?_ | refine zH ?_ _)); refine yL (cs := #[.int .i64 t265, .int .i64 t266, .slice none 0 0, .slice none 0 0]) ?_ 2 _ rfl; (with_reducible repeat (first | refine zI ?_ _ | refine zJ ?_ | refine zH ?_ _)); refine yL (cs := #[.int .i64 t265, .int .i64 0, .slice none 0 0, .slice none 0 0]) ?_ 1 _ rfl; (with_reducible repeat (first | refine zI ?_ _ | refine zJ ?_ | refine zH ?_ _)); refine yL (cs := #[.int .i64 0, .int .i64 0, .slice none 0 0, .slice none 0 0]) ?_ 0 _ rfl; (with_reducible repeat (first | refine zI ?_ _ | refine zJ ?_ | refine zH ?_ _)); exact BK273.out⟩, ⟨by repeat (first | (with_reducible first | exact HB.out | apply zD | apply zB | apply zC | refine zE ?_ GE263.out | refine zE ?_ GE264.out | refine zE ?_ GE273.out) | exact HB.out)⟩⟩
 case round =>
  clear H'
  try clear c1
  try clear p2
  try clear c3
  try clear c5
  try clear c9
  try clear c10
  try clear hcz11_0
  try clear hcz11_1
  try clear hcz11_2
  try clear hcz11_3
  try clear hcz6_0
  try clear hcz6_1
  try clear hcz6_2
  try clear hcz6_3
  try clear hfz11_0
  try clear hfz11_1
  try clear hfz11_2
  try clear hfz11_3
  try clear hfz6_0
  try clear hfz6_1
  try clear hfz6_2
  try clear hfz6_3
  obtain ⟨x4_1, x274003_1, u274003, rfl, HA, HK1, HO_274002, HO_274003, BK263, BK264, BK273, HB⟩ := hrel
  cases gk with
  | zero => exact absurd HA.out (by simp [zg.l0])
  | succ k1 =>
   have H := HA.out
   clear HA
   simp only [zg.l0] at H
   by_cases c14 : x4_1 < (x274003_1.length : Int)
   ·rw [if_pos c14] at H
    have c14b0 : decide (x4_1 < (x274003_1.length : Int)) = true := decide_eq_true c14
    clear c14
    by_cases c15 : 0 ≤ x4_1
    ·rw [if_pos c15] at H
     have c15b0 : decide (0 ≤ x4_1) = true := decide_eq_true c15
     clear c15
     obtain ⟨ji16, hji16⟩ : ∃ j_ : Int, (mn (((zM x274003_1 x4_1).f1).length : Int) 4) = j_ := ⟨_, rfl⟩
     replace H : (if 0 ≤ (ji16) then (if (ji16) ≤ (((zM x274003_1 x4_1).f1).length : Int) then (zg.l0 k1 (wrap64 (x4_1 + 1)) t265 t266 t267 (x274003_1.set (x4_1 : Int).toNat (⟨(zM x274003_1 x4_1).f0, (((zM x274003_1 x4_1).f1).take ((ji16) : Int).toNat)⟩ : S61))) else (none)) else (none)) = some (r1, r2, r3, r4) := by first | (rw [hji16] at H; exact H) | (simp only [hji16] at H ⊢; exact H)
     have hji16_ : (if 4 < (((zM x274003_1 x4_1).f1).length : Int) then 4 else (((zM x274003_1 x4_1).f1).length : Int)) = ji16 := hji16
     by_cases c17 : 0 ≤ (ji16)
     ·rw [if_pos c17] at H
      have c17b0 := eq_true c17
      have c17b1 : decide (0 ≤ (ji16)) = true := decide_eq_true c17
      clear c17
      by_cases c18 : (ji16) ≤ (((zM x274003_1 x4_1).f1).length : Int)
      ·rw [if_pos c18] at H
       have c18b0 := eq_true c18
       have c18b1 : decide ((ji16) ≤ (((zM x274003_1 x4_1).f1).length : Int)) = true := decide_eq_true c18
       clear c18
       obtain ⟨y275, hy275⟩ : ∃ y_ : List (S71), y_ = (((zM x274003_1 x4_1).f1).take ((ji16) : Int).toNat) := ⟨_, rfl⟩
       replace H : (zg.l0 k1 (wrap64 (x4_1 + 1)) t265 t266 t267 (x274003_1.set (x4_1 : Int).toNat (⟨(zM x274003_1 x4_1).f0, y275⟩ : S61))) = some (r1, r2, r3, r4) := by first | (rw [hy275]; with_reducible exact H) | (have H2_ := (Option.bind_some _ _).symm.trans H; rw [hy275]; with_reducible exact H2_) | (have H2_ := (Option.bind_some _ _).symm.trans H; with_reducible exact H2_) | with_reducible exact H | (rw [hy275]; exact H) | exact H
       have Ny275 := zA.mk hy275
       clear hy275
       obtain ⟨y280, hy280⟩ : ∃ y_ : List (S61), y_ = (x274003_1.set (x4_1 : Int).toNat (⟨(zM x274003_1 x4_1).f0, y275⟩ : S61)) := ⟨_, rfl⟩
       replace H : (zg.l0 k1 (wrap64 (x4_1 + 1)) t265 t266 t267 y280) = some (r1, r2, r3, r4) := by first | (rw [hy280]; with_reducible exact H) | (have H2_ := (Option.bind_some _ _).symm.trans H; rw [hy280]; with_reducible exact H2_) | (have H2_ := (Option.bind_some _ _).symm.trans H; with_reducible exact H2_) | with_reducible exact H | (rw [hy280]; exact H) | exact H
       have Ny280 := zA.mk hy280
       clear hy280
       have H' := zA.mk H
       clear H
       have hnb20 := NB273_263.out
       have hnc20 := NB263_273.out
       have hnb21 := NB273_264.out
       have hnc21 := NB264_273.out
       have hcz22_0 : wr.cell? ⟨gb273, 0, none⟩ = some (.int .i64 t265) := (zG BK273.out 0).trans rfl
       have hcz22_1 : wr.cell? ⟨gb273, 1, none⟩ = some (.int .i64 t266) := (zG BK273.out 1).trans rfl
       have hcz22_2 : wr.cell? ⟨gb273, 2, none⟩ = some (.slice Ao12 t267.length co12) := (zG BK273.out 2).trans rfl
       have hcz22_3 : wr.cell? ⟨gb273, 3, none⟩ = some (u274003) := (zG BK273.out 3).trans rfl
       have hfz22_0 := zF BK273.out 0
       have hfz22_1 := zF BK273.out 1
       have hfz22_2 := zF BK273.out 2
       have hfz22_3 := zF BK273.out 3
       obtain ⟨Ao23, co23, eo23⟩ := Kd.N_slice HO_274003.out
       subst eo23
       have p274 : 0 ≤ (x4_1 : Int) := of_decide_eq_true (by first | (with_reducible assumption) | assumption)
       have q274 : x4_1 < (x274003_1.length : Int) := of_decide_eq_true (by first | (with_reducible assumption) | assumption)
       obtain ⟨ad274, A274_1, c274_1, e274, hx274_0, hx274_1, hl274_1, hi274_1⟩ := yy (Kd.N_reads' HO_274003.out).2.2 x4_1 p274 q274
       cases e274
       obtain ⟨ce274, hce274, hMe274, hcc274⟩ := Kd.N_get HO_274003.out z61 x4_1 p274 (by first | exact q274 | exact of_decide_eq_true (by first | (with_reducible assumption) | assumption) | (have e_ := (Kd.N_reads' HO_274003.out).1; omega))
       obtain ⟨ua274_1, uc274_1, rfl, ul274_1, ge274_1⟩ := k61_openF hMe274
       have hv274_1 := hcc274 1 _ rfl
       rw [YF _ _ 1 (by omega)] at hv274_1
       replace hv274_1 := Option.some.inj (hv274_1.symm.trans hx274_1)
       injection hv274_1 with hva_ hvn_ hvc_
       rw [hva_] at ge274_1
       rw [hvc_] at ul274_1
       have HL274_1 := zA.mk (show Kd.V k71 71 _ w.heap.size _ _ ((zM x274003_1 x4_1).f1) from Kd.V_mk ul274_1 ge274_1)
       clear hva_ hvn_ hvc_ ge274_1 ul274_1
       clear hcc274 hce274
       have HR274_1 := zA.mk hi274_1
       have HC274_1 := zA.mk hl274_1
       clear hi274_1 hl274_1
       replace p274 := eq_true p274
       replace q274 := eq_true q274
       try go_wp2
       have n0_ := zA.mk (Kd.R_drew HO_274002.out)
       have n1_ := zA.mk (Kd.N_drew HO_274003.out)
       have n2_ := zA.mk (Kd.V_drew HL274_1.out)
       have n3_ := zA.mk (zJ BK263.out)
       have n4_ := zA.mk (zJ BK264.out)
       have n5_ := zA.mk (zJ BK273.out)
       have n6_ := zA.mk (Kd.C_drew HR274_1.out)
       have n7_ := zA.mk (zC HB.out)
       clear HO_274002
       clear HO_274003
       clear HL274_1
       clear BK263
       clear BK264
       clear BK273
       clear HR274_1
       clear HB
       have HO_274002 := n0_
       have HO_274003 := n1_
       have HL274_1 := n2_
       have BK263 := n3_
       have BK264 := n4_
       have BK273 := n5_
       have HR274_1 := n6_
       have HB := n7_
       clear n0_ n1_ n2_ n3_ n4_ n5_ n6_ n7_
       have q25 : ((ji16) : Int) ≤ ((((zM x274003_1 x4_1).f1).length : Int) : Int) := of_decide_eq_true (by first | (with_reducible assumption) | assumption)
       obtain ⟨i025, hi025, _, hsz25, _⟩ := info_parts info71
       have hroom25 : ((zM x274003_1 x4_1).f1).length ≤ c274_1 := HC274_1.out
       have hC25 : Kd.F k71 _ _ A274_1 ((zM x274003_1 x4_1).f1).length ((zM x274003_1 x4_1).f1) := (Kd.V_at (base := w.heap.size) HL274_1.out).2.2
       have hcut25 := cut_to (P := Try.prog) 59 71 .i64 Try.underlying59 hi025 A274_1 ((zM x274003_1 x4_1).f1).length c274_1 (ji16) (of_decide_eq_true (by first | (with_reducible assumption) | assumption)) q25 hroom25
       have hr25 := Kd.F_take (m := ((ji16) : Int).toNat) hC25 (by omega)
       have hy25 : y275.length = ((ji16) : Int).toNat := (by rw [Ny275.out, List.length_take]; omega)
       rw [← Ny275.out] at hr25
       rw [← hy25] at hcut25
       have HO279 := zA.mk (show Kd.V k71 71 _ w.heap.size _ (.slice A274_1 y275.length c274_1) y275 from Kd.V_mk (by omega) hr25)
       have HC279 := zA.mk (show y275.length ≤ c274_1 from by omega)
       clear hr25 hC25 hroom25 hi025 hsz25
       have KY25 := zA.mk hy25
       clear hy25
       replace q25 := eq_true q25
       have p19 : 0 ≤ (x4_1 : Int) := of_decide_eq_true (by first | (with_reducible assumption) | assumption)
       have q19 : (x4_1 : Int) < ((x274003_1.length : Int) : Int) := of_decide_eq_true (by first | (with_reducible assumption) | assumption)
       obtain ⟨go19, co19, eo19, gb19, gl19, cl19, HG19⟩ := Kd.N_form HO_274003.out (by omega)
       (first | cases eo19 | (injection eo19 with ea_ en_ ec_; (first | subst ea_ | (injection ea_ with ea_; subst ea_)); subst ec_; clear en_))
       have GB19 := zA.mk gb19
       have GG19 := zA.mk HG19
       clear gb19 gl19 HG19
       (first | simp only [ZD] at hx274_0 | skip)
       (first | simp only [ZD] at hx274_1 | skip)
       obtain ⟨ce19, hcl19, hM19, hcc19, hfr19⟩ := Kd.N_elem HO_274003.out z61 (x4_1 : Int) p19 q19
       obtain ⟨ua19_1, uc19_1, rfl, ul19_1, ge19_1⟩ := k61_openF hM19
       have hx19_0 : World.cell? _ ⟨go19, (x4_1 : Int).toNat * 2, none⟩ = some (.int .i64 ((zM x274003_1 x4_1).f0)) := hcc19 0 _ rfl
       have hx19_1 : World.cell? _ ⟨go19, (x4_1 : Int).toNat * 2 + 1, none⟩ = some (.slice ua19_1 ((zM x274003_1 x4_1).f1).length uc19_1) := hcc19 1 _ rfl
       have hf19_0 : World.frozen? _ ⟨go19, (x4_1 : Int).toNat * 2, none⟩ = false := hfr19 0
       have hf19_1 : World.frozen? _ ⟨go19, (x4_1 : Int).toNat * 2 + 1, none⟩ = false := hfr19 1
       clear hcl19 hcc19 hfr19 hM19
       replace p19 := eq_true p19
       replace q19 := eq_true q19
       have HX26 := zA.mk (show Kd.N k61 61 _ w.heap.size (fun k_ => (w.heap.size ≤ k_) ∧ some k_ ≠ (.slice Ao12 t267.length co12 : Value).ownBlock ∧ k_ ≠ gb263 ∧ k_ ≠ gb264 ∧ k_ ≠ gb273) (.slice (some ⟨go19, 0, none⟩) x274003_1.length co23) x274003_1 from (Kd.N_mono (HO_274003.out) (fun k_ hk => ⟨hk.1, ⟨hk.2.1, ⟨hk.2.2.1, ⟨hk.2.2.2.1, hk.2.2.2.2⟩⟩⟩⟩)))
       obtain ⟨ce26, hcl26, hM26, hcc26, hfr26⟩ := Kd.N_elem HX26.out z61 (x4_1 : Int) (of_decide_eq_true (by first | (with_reducible assumption) | assumption)) (by have h_ : (x4_1 : Int) < ((x274003_1.length : Int) : Int) := of_decide_eq_true (by first | (with_reducible assumption) | assumption); first | exact h_ | (have e_ := (Kd.N_reads' HO_274003.out).1; omega) | simpa using h_)
       obtain ⟨ua26_1, uc26_1, rfl, ul26_1, ge26_1⟩ := k61_openF hM26
       have HP26 := (Kd.N_seg HX26.out (x4_1 : Int) (of_decide_eq_true (by first | (with_reducible assumption) | assumption)) (by have h_ : (x4_1 : Int) < ((x274003_1.length : Int) : Int) := of_decide_eq_true (by first | (with_reducible assumption) | assumption); first | exact h_ | (have e_ := (Kd.N_reads' HO_274003.out).1; omega) | simpa using h_) (seg := [.slice A274_1 y275.length c274_1]) (j := 1) hcl26 hcc26 (show 2 ≤ 2 from by decide) (x' := (⟨(zM x274003_1 x4_1).f0, y275⟩ : S61)) (k61_mkF _ _ (⟨(zM x274003_1 x4_1).f0, y275⟩ : S61) (Kd.V_reads' (Kd.V_mono (ok' := (fun k_ => ((fun k_ => (w.heap.size ≤ k_) ∧ some k_ ≠ (.slice Ao12 t267.length co12 : Value).ownBlock ∧ k_ ≠ gb263 ∧ k_ ≠ gb264 ∧ k_ ≠ gb273)) k_ ∧ k_ ≠ go19)) (HO279.out) (fun k_ hk => ⟨⟨hk.1.1, ⟨hk.1.2.1, ⟨hk.1.2.2.1, ⟨hk.1.2.2.2.1, hk.1.2.2.2.2⟩⟩⟩⟩, fun e_ => (hk.2) (by rw [e_]; rfl)⟩))).2.1 (Kd.V_F (Kd.V_mono (ok' := (fun k_ => ((fun k_ => (w.heap.size ≤ k_) ∧ some k_ ≠ (.slice Ao12 t267.length co12 : Value).ownBlock ∧ k_ ≠ gb263 ∧ k_ ≠ gb264 ∧ k_ ≠ gb273)) k_ ∧ k_ ≠ go19)) (HO279.out) (fun k_ hk => ⟨⟨hk.1.1, ⟨hk.1.2.1, ⟨hk.1.2.2.1, ⟨hk.1.2.2.2.1, hk.1.2.2.2.2⟩⟩⟩⟩, fun e_ => (hk.2) (by rw [e_]; rfl)⟩)))) (fun _ hk => hk)).1
       rw [← Ny280.out] at HP26
       have HQ26 := zA.mk HP26
       clear hcl26 hcc26 hfr26 hM26 HP26
       refine Zr (n := 11) (S := fun w' => w'.cell? ⟨gb273, 0, none⟩ = some (.int .i64 t265) ∧ w'.cell? ⟨gb273, 1, none⟩ = some (.int .i64 t266) ∧ w'.cell? ⟨gb273, 2, none⟩ = some (.slice Ao12 t267.length co12) ∧ w'.cell? ⟨gb273, 3, none⟩ = some (.slice (some ⟨go19, 0, none⟩) x274003_1.length co23)) (ds := [10]) #[false, false, false, false, false, false, false, false, false, false, false] (by kernel_rfl) rfl rfl ⟨(zG BK273.out 0).trans rfl, (zG BK273.out 1).trans rfl, (zG BK273.out 2).trans rfl, (zG BK273.out 3).trans rfl⟩ (fun hHeld => ?_); refine ZC zg.tab6 zg.bits6 (fun HT_ HW_ => ?_)
       generalize wr.drew = w24 at HO_274002 HO_274003 HL274_1 BK263 BK264 BK273 HR274_1 HB GG19 HO279 HQ26 hf19_0 hf19_1 hx19_0 hx19_1 hx274_0 hx274_1 hHeld ⊢
       refine yF (i := 0) (N := some 21) (v := ?_) (a' := ?_) #[true, false, false, false, false, false, false, false, false, false, false] rfl rfl (zy HT_.out (by kernel_rfl)) (fun _ _ _ h => h) (Or.inl ⟨by rfl, ?_⟩) ?_ ?_
       rotate_left
       ·intro w'
        go_simp
        with_reducible rfl
       rotate_left
       ·simp only [Act.put, List.setIfInBounds_toArray, List.set_cons_zero, List.set_cons_succ, zv, zw]
        rfl
       refine yF (i := 2) (N := some 23) (v := ?_) (a' := ?_) #[true, false, true, false, false, false, false, false, false, false, false] rfl rfl (zy HT_.out (by kernel_rfl)) (fun _ _ _ h => h) (Or.inl ⟨by rfl, ?_⟩) ?_ ?_
       rotate_left
       ·intro w'
        go_simp
        with_reducible rfl
       rotate_left
       ·simp only [Act.put, List.setIfInBounds_toArray, List.set_cons_zero, List.set_cons_succ, zv, zw]
        rfl
       refine yF (i := 3) (N := some 24) (v := ?_) (a' := ?_) #[true, false, true, true, false, false, false, false, false, false, false] rfl rfl (zy HT_.out (by kernel_rfl)) (fun _ _ _ h => h) (Or.inl ⟨by rfl, ?_⟩) ?_ ?_
       rotate_left
       ·intro w'
        go_simp
        with_reducible rfl
       rotate_left
       ·simp only [Act.put, List.setIfInBounds_toArray, List.set_cons_zero, List.set_cons_succ, zv, zw]
        rfl
       refine yF (i := 4) (N := some 25) (v := ?_) (a' := ?_) #[true, false, true, true, true, false, false, false, false, false, false] rfl rfl (zy HT_.out (by kernel_rfl)) (fun _ _ _ h => h) (Or.inl ⟨by rfl, ?_⟩) ?_ ?_
       rotate_left
       ·intro w'
        go_simp
        with_reducible rfl
       rotate_left
       ·simp only [Act.put, List.setIfInBounds_toArray, List.set_cons_zero, List.set_cons_succ, zv, zw]
        rfl
       refine yF (i := 5) (N := some 26) (v := ?_) (a' := ?_) #[true, false, true, true, true, true, false, false, false, false, false] rfl rfl (zy HT_.out (by kernel_rfl)) (fun _ _ _ h => h) (Or.inl ⟨by rfl, ?_⟩) ?_ ?_
       rotate_left
       ·intro w'
        go_simp
        with_reducible rfl
       rotate_left
       ·simp only [Act.put, List.setIfInBounds_toArray, List.set_cons_zero, List.set_cons_succ, zv, zw]
        rfl
       refine yF (i := 6) (N := some 27) (v := ?_) (a' := ?_) #[true, false, true, true, true, true, true, false, false, false, false] rfl rfl (zy HT_.out (by kernel_rfl)) (fun _ _ _ h => h) (Or.inl ⟨by rfl, ?_⟩) ?_ ?_
       rotate_left
       ·intro w'
        go_simp
        with_reducible rfl
       rotate_left
       ·simp only [Act.put, List.setIfInBounds_toArray, List.set_cons_zero, List.set_cons_succ, zv, zw]
        rfl
       refine yF (i := 7) (N := some 28) (v := ?_) (a' := ?_) #[true, false, true, true, true, true, true, true, false, false, false] rfl rfl (zy HT_.out (by kernel_rfl)) (fun _ _ _ h => h) (Or.inl ⟨by rfl, ?_⟩) ?_ ?_
       rotate_left
       ·intro w'
        go_simp
        with_reducible rfl
       rotate_left
       ·simp only [Act.put, List.setIfInBounds_toArray, List.set_cons_zero, List.set_cons_succ, zv, zw]
        rfl
       refine take_ (i := 1) (N := some 22) (v := ?_) (a' := ?_) #[true, true, true, true, true, true, true, true, false, false, false] rfl rfl (ye HT_.out HW_.out (by kernel_rfl)) (fun _ _ _ h => h) (Or.inl ⟨by rfl, ?_⟩) hHeld ?_ ?_
       rotate_left
       ·rintro w' ⟨s0, s1, s2, s3⟩
        go_simp
        with_reducible rfl
       rotate_left
       ·simp only [Act.put, List.setIfInBounds_toArray, List.set_cons_zero, List.set_cons_succ, zv, zw]
        rfl
       refine yF (i := 8) (N := some 29) (v := ?_) (a' := ?_) #[true, true, true, true, true, true, true, true, true, false, false] rfl rfl (zy HT_.out (by kernel_rfl)) (fun _ _ _ h => h) (Or.inl ⟨by rfl, ?_⟩) ?_ ?_
       rotate_left
       ·intro w'
        go_simp
        with_reducible rfl
       rotate_left
       ·simp only [Act.put, List.setIfInBounds_toArray, List.set_cons_zero, List.set_cons_succ, zv, zw]
        rfl
       refine yF (i := 9) (N := some 30) (v := ?_) (a' := ?_) #[true, true, true, true, true, true, true, true, true, true, false] rfl rfl (zy HT_.out (by kernel_rfl)) (fun _ _ _ h => h) (Or.inl ⟨by rfl, ?_⟩) ?_ ?_
       rotate_left
       ·intro w'
        go_simp
        with_reducible rfl
       rotate_left
       ·simp only [Act.put, List.setIfInBounds_toArray, List.set_cons_zero, List.set_cons_succ, zv, zw]
        rfl
       refine last_ (i := 10) (N := none) #[true, true, true, true, true, true, true, true, true, true, true] rfl rfl (yf HT_.out (by kernel_rfl)) (by decide) (fun K hK => ?_)
       refine skip_ (w1 := ?_) (by rfl) rfl ?_ ?_
       rotate_left
       ·go_simp
        rfl
       refine hK.out _ _ ?_
       clear hK K
       refine done_ (ZZ HT_.out (by kernel_rfl)) ?_
       try go_wp2
       go_roundg k1
       case measure => have := HK1.out; omega
       case rel => exact ⟨(wrap64 (x4_1 + 1)), (y280), (.slice (some ⟨go19, 0, none⟩) x274003_1.length co23), (by first | rfl | (simp; done) | (simp [*]; done)), H', ⟨by have := HK1.out; omega⟩, ⟨by (with_reducible repeat (first | apply Kd.R_alloc | apply Kd.R_drewN | apply Kd.R_drew)); exact Kd.R_mono (Kd.R_far (p := ⟨go19, (x4_1 : Int).toNat * 2 + 1, none⟩) (Kd.R_types HO_274002.out GG19.out (by decide)) (fun _ hk => hk.2) (.slice A274_1 y275.length c274_1)) (fun _ hk => hk.1)⟩, ⟨by (with_reducible repeat (first | apply Kd.N_alloc | apply Kd.N_drewN | apply Kd.N_drew)); exact HQ26.out⟩, ⟨by (with_reducible repeat (first | refine zI ?_ _ | refine zJ ?_ | refine zH ?_ _)); refine yC ?_ (by have h_ := Kd.N_away HO_274003.out (fun _ hk => hk.2.2.1); intro e_; exact h_ (by rw [e_]; rfl)) _; (with_reducible repeat (first | refine zI ?_ _ | refine zJ ?_ | refine zH ?_ _)); exact BK263.out⟩, ⟨by (with_reducible repeat (first | refine zI ?_ _ | refine zJ ?_ | refine zH ?_ _)); refine yC ?_ (by have h_ := Kd.N_away HO_274003.out (fun _ hk => hk.2.2.2.1); intro e_; exact h_ (by rw [e_]; rfl)) _; (with_reducible repeat (first | refine zI ?_ _ | refine zJ ?_ | refine zH ?_ _)); exact BK264.out⟩, ⟨by (with_reducible repeat (first | refine zI ?_ _ | refine zJ ?_ | refine zH ?_ _)); refine yC ?_ (by have h_ := Kd.N_away HO_274003.out (fun _ hk => hk.2.2.2.2); intro e_; exact h_ (by rw [e_]; rfl)) _; (with_reducible repeat (first | refine zI ?_ _ | refine zJ ?_ | refine zH ?_ _)); exact BK273.out⟩, ⟨by repeat (first | (with_reducible first | exact HB.out | apply zD | apply zB | apply zC | refine zE ?_ GB19.out | refine zE ?_ GE263.out | refine zE ?_ GE264.out | refine zE ?_ GE273.out) | exact HB.out)⟩⟩
      ·rw [if_neg c18] at H
       exact absurd H (by simp)
     ·rw [if_neg c17] at H
      exact absurd H (by simp)
    ·rw [if_neg c15] at H
     exact absurd H (by simp)
   ·rw [if_neg c14] at H
    have c14b0 : decide (x4_1 < (x274003_1.length : Int)) = false := decide_eq_false c14
    clear c14
    simp only [Option.some.injEq, Prod.mk.injEq] at H
    obtain ⟨rfl, rfl, rfl, rfl⟩ := H
    have hnb27 := NB273_263.out
    have hnc27 := NB263_273.out
    have hnb28 := NB273_264.out
    have hnc28 := NB264_273.out
    have hcz29_0 : wr.cell? ⟨gb273, 0, none⟩ = some (.int .i64 t265) := (zG BK273.out 0).trans rfl
    have hcz29_1 : wr.cell? ⟨gb273, 1, none⟩ = some (.int .i64 t266) := (zG BK273.out 1).trans rfl
    have hcz29_2 : wr.cell? ⟨gb273, 2, none⟩ = some (.slice Ao12 t267.length co12) := (zG BK273.out 2).trans rfl
    have hcz29_3 : wr.cell? ⟨gb273, 3, none⟩ = some (u274003) := (zG BK273.out 3).trans rfl
    have hfz29_0 := zF BK273.out 0
    have hfz29_1 := zF BK273.out 1
    have hfz29_2 := zF BK273.out 2
    have hfz29_3 := zF BK273.out 3
    obtain ⟨Ao30, co30, eo30⟩ := Kd.N_slice HO_274003.out
    subst eo30
    have hnb31 := NB264_263.out
    have hnc31 := NB263_264.out
    have hcz32_0 : wr.cell? ⟨gb264, 0, none⟩ = some (.int .i64 0) := (zG BK264.out 0).trans rfl
    have hcz32_1 : wr.cell? ⟨gb264, 1, none⟩ = some (.int .i64 0) := (zG BK264.out 1).trans rfl
    have hcz32_2 : wr.cell? ⟨gb264, 2, none⟩ = some (.slice none 0 0) := (zG BK264.out 2).trans rfl
    have hcz32_3 : wr.cell? ⟨gb264, 3, none⟩ = some (.slice none 0 0) := (zG BK264.out 3).trans rfl
    have hfz32_0 := zF BK264.out 0
    have hfz32_1 := zF BK264.out 1
    have hfz32_2 := zF BK264.out 2
    have hfz32_3 := zF BK264.out 3
    go_wp2
    refine bodyPost_ret (results_cell_row rfl _ _ gb264 25 #[.int .i64 t265, .int .i64 t266, .slice Ao12 t267.length co12, .slice Ao30 x274003_1.length co30] (0, 0) _ rfl (by (with_reducible repeat (first | refine zI ?_ _ | refine zJ ?_ | refine zH ?_ _)); refine yL (cs := #[.int .i64 t265, .int .i64 t266, .slice Ao12 t267.length co12, .slice none 0 0]) ?_ 3 _ rfl; (with_reducible repeat (first | refine zI ?_ _ | refine zJ ?_ | refine zH ?_ _)); refine yL (cs := #[.int .i64 t265, .int .i64 t266, .slice none 0 0, .slice none 0 0]) ?_ 2 _ rfl; (with_reducible repeat (first | refine zI ?_ _ | refine zJ ?_ | refine zH ?_ _)); refine yL (cs := #[.int .i64 t265, .int .i64 0, .slice none 0 0, .slice none 0 0]) ?_ 1 _ rfl; (with_reducible repeat (first | refine zI ?_ _ | refine zJ ?_ | refine zH ?_ _)); refine yL (cs := #[.int .i64 0, .int .i64 0, .slice none 0 0, .slice none 0 0]) ?_ 0 _ rfl; (with_reducible repeat (first | refine zI ?_ _ | refine zJ ?_ | refine zH ?_ _)); exact BK264.out) Try.underlying25 rfl (by kernel_rfl)) rfl ?_
    exact ⟨_, _, by first | rfl | (simp [zX, zY] <;> rfl) | (simp [*, zX, zY] <;> rfl), by (with_reducible repeat (first | apply Kd.R_alloc | apply Kd.R_drewN | apply Kd.R_drew)); exact Kd.R_mono (Kd.R_far (p := ⟨gb264, 3, none⟩) (Kd.R_far (p := ⟨gb264, 2, none⟩) (Kd.R_far (p := ⟨gb264, 1, none⟩) (Kd.R_far (p := ⟨gb264, 0, none⟩) (Kd.R_types HO_274002.out BK264.out (by decide)) (fun _ hk => hk.2) (.int .i64 t265)) (fun _ hk => hk.2) (.int .i64 t266)) (fun _ hk => hk.2) (.slice Ao12 t267.length co12)) (fun _ hk => hk.2) (.slice Ao30 x274003_1.length co30)) (fun _ hk => hk.1), by (with_reducible repeat (first | apply Kd.N_alloc | apply Kd.N_drewN | apply Kd.N_drew)); exact Kd.N_mono (Kd.N_far (p := ⟨gb264, 3, none⟩) (Kd.N_far (p := ⟨gb264, 2, none⟩) (Kd.N_far (p := ⟨gb264, 1, none⟩) (Kd.N_far (p := ⟨gb264, 0, none⟩) (Kd.N_mono HO_274003.out (fun k_ hk => (⟨hk, hk.2.2.2.1⟩ : _ ∧ k_ ≠ gb264))) (fun _ hk => hk.2) (.int .i64 t265)) (fun _ hk => hk.2) (.int .i64 t266)) (fun _ hk => hk.2) (.slice Ao12 t267.length co12)) (fun _ hk => hk.2) (.slice Ao30 x274003_1.length co30)) (fun _ hk => ⟨hk.1.1, hk.1.2.1⟩), by repeat (first | (with_reducible first | exact HB.out | apply zD | apply zB | apply zC | refine zE ?_ GE263.out | refine zE ?_ GE264.out | refine zE ?_ GE273.out) | exact HB.out)⟩
def yD.f (k : Nat) (a0_0 : Int) (a0_1 : Int) (l0_2 : List Int) (l0_3 : List (S61)) (a1 : Int) : Option (List ByteArray × Int) := (zo.f k a0_0 a0_1 l0_2 l0_3).bind fun bt282 => (if bt282.2 = 0 then (if a1 < 0 then (some (([] : List ByteArray), 3)) else (if a1 ≥ (l0_2.length : Int) then (some (([] : List ByteArray), 3)) else (if 0 ≤ a1 then (if a1 < (bt282.1.length : Int) then ((yE.f k a0_0 a0_1 l0_2 l0_3).bind fun t287 => (some (zm bt282.1 a1, t287))) else (none)) else (none)))) else (some (([] : List ByteArray), bt282.2)))
theorem yD.mono : ∀ a0 a1 a2 a3 a4 k, LeO (yD.f k a0 a1 a2 a3 a4) (yD.f (k + 1) a0 a1 a2 a3 a4) := by
 intro a0 a1 a2 a3 a4 k
 unfold yD.f
 repeat' first
   | (with_reducible exact yE.mono _ _ _ _ _)
   | (with_reducible exact zo.mono _ _ _ _ _)
   | (with_reducible exact LeO.refl _)
   | (with_reducible exact LeO.none _)
   | (with_reducible refine LeO.ite ?_ ?_)
   | (with_reducible refine LeO.bind ?_ (fun _ => ?_))
   | exact yE.mono _ _ _ _ _
   | exact zo.mono _ _ _ _ _
   | exact LeO.none _
   | refine LeO.ite ?_ ?_
   | refine LeO.bind ?_ (fun _ => ?_)
def yD.T6 : Bool × List (List Nat × List Nat) := (true, [([], []), ([], []), ([0, 1], [0, 1]), ([2], [2]), ([], []), ([4], [4]), ([3, 5, 0, 1, 2, 3], [3]), ([5, 6, 0, 1, 2, 3, 4, 5, 6], [5])])
def yD.B6 : List Nat := [0, 0, 3, 7, 0, 16, 63, 127]
theorem yD.tab6 : rtab .any (opsOf Try.f22 6) = yD.T6 := by kernel_rfl
theorem yD.bits6 : ZS yD.T6.2 yD.B6 = true := by kernel_rfl
set_option maxHeartbeats 8000000 in
set_option maxRecDepth 100000 in
theorem yD.calls (k : Nat) (a0_0 : Int) (a0_1 : Int) (A0_2 : Option Addr) (c0_2 : Nat) (l0_2 : List Int) (A0_3 : Option Addr) (c0_3 : Nat) (l0_3 : List (S61)) (a1 : Int) (r1 : List ByteArray) (r2 : Int) (w : World) (hr0_2 : Kd.C (Kd.int .i64) w A0_2 l0_2.length l0_2) (hc0_2 : l0_2.length ≤ c0_2) (hr0_3 : Kd.C k61 w A0_3 l0_3.length l0_3) (hc0_3 : l0_3.length ≤ c0_3) (h : yD.f k a0_0 a0_1 l0_2 l0_3 a1 = some (r1, r2)) :
  Calls Try.prog 22 #[.agg #[.int .i64 a0_0, .int .i64 a0_1, .slice A0_2 l0_2.length c0_2, .slice A0_3 l0_3.length c0_3], .int .i64 a1] w fun e w' => ∃ v0_ : Value, e = .returned (.tuple #[v0_, .int .i64 r2]) ∧ Kd.R Kd.string 9 w' w.heap.size (fun _ => True) v0_ r1 ∧ Below w.heap.size w w' := by
 have hu25 := Try.underlying25
 have HR0_2 := zA.mk hr0_2
 have HC0_2 := zA.mk hc0_2
 clear hr0_2 hc0_2
 have HR0_3 := zA.mk hr0_3
 have HC0_3 := zA.mk hc0_3
 clear hr0_3 hc0_3
 have HB := zA.mk (Below.refl w.heap.size w)
 have H : ((zo.f k a0_0 a0_1 l0_2 l0_3).bind fun bt282 => (if bt282.2 = 0 then (if a1 < 0 then (some (([] : List ByteArray), 3)) else (if a1 ≥ (l0_2.length : Int) then (some (([] : List ByteArray), 3)) else (if 0 ≤ a1 then (if a1 < (bt282.1.length : Int) then ((yE.f k a0_0 a0_1 l0_2 l0_3).bind fun t287 => (some (zm bt282.1 a1, t287))) else (none)) else (none)))) else (some (([] : List ByteArray), bt282.2)))) = some (r1, r2) := h
 clear h
 replace H := Option.bind_eq_some_iff.mp H
 obtain ⟨⟨t282, t285⟩, A30, H⟩ := H
 replace H : (if t285 = 0 then (if a1 < 0 then (some (([] : List ByteArray), 3)) else (if a1 ≥ (l0_2.length : Int) then (some (([] : List ByteArray), 3)) else (if 0 ≤ a1 then (if a1 < (t282.length : Int) then ((yE.f k a0_0 a0_1 l0_2 l0_3).bind fun t287 => (some (zm t282 a1, t287))) else (none)) else (none)))) else (some (([] : List ByteArray), t285))) = some (r1, r2) := H
 have A3 := zA.mk A30
 clear A30
 by_cases c4 : t285 = 0
 ·rw [if_pos c4] at H
  have c4b0 : (t285 == 0) = true := beq_iff_eq.mpr c4
  have c4b1 : (t285 != 0) = false := bne_eq_false_iff_eq.mpr c4
  clear c4
  by_cases c5 : a1 < 0
  ·rw [if_pos c5] at H
   have c5b0 : decide (a1 < 0) = true := decide_eq_true c5
   clear c5
   simp only [Option.some.injEq, Prod.mk.injEq] at H
   obtain ⟨rfl, rfl⟩ := H
   go_enter Try.func22, Try.ntmps22
   go_wp2_with (first | ((with_reducible refine zr (N := 2) rfl ?_); (try (refine yK (by rfl) ?_; dsimp only)); refine zz ?hg (N := 2) ?hd (cs := #[.int .i64 a0_0, .int .i64 a0_1, .slice A0_2 l0_2.length c0_2, .slice A0_3 l0_3.length c0_3]) (t := 25) ?hr ?_; (case hd => rfl); (case hg => rfl); (case hr => first | (go_simp; done) | (go_simp; rfl)); intro gb281 hg w6 hbox hb; have n0_ := zA.mk (zL (by repeat (first | (with_reducible first | exact HB.out | apply zD | apply zB | apply zC) | exact HB.out)) hb); have n1_ := zA.mk (hbox); have n2_ := zA.mk ((by rw [hg]; exact (zN (by repeat (first | (with_reducible first | exact HB.out | apply zD | apply zB | apply zC) | exact HB.out))) : w.heap.size ≤ gb281)); have n3_ := zA.mk ((by rw [hg]; exact (zN (by repeat (first | (with_reducible first | exact HB.out | apply zD | apply zB | apply zC) | exact HB.out))) : w.heap.size ≤ gb281)); clear HB; have HB := n0_; have BK281 := n1_; have GW281 := n2_; have GE281 := n3_; clear n0_ n1_ n2_ n3_; clear hb hbox hg; have hcz7_0 : w6.cell? ⟨gb281, 0, none⟩ = some (.int .i64 a0_0) := (zG BK281.out 0).trans rfl; have hcz7_1 : w6.cell? ⟨gb281, 1, none⟩ = some (.int .i64 a0_1) := (zG BK281.out 1).trans rfl; have hcz7_2 : w6.cell? ⟨gb281, 2, none⟩ = some (.slice A0_2 l0_2.length c0_2) := (zG BK281.out 2).trans rfl; have hcz7_3 : w6.cell? ⟨gb281, 3, none⟩ = some (.slice A0_3 l0_3.length c0_3) := (zG BK281.out 3).trans rfl; have hfz7_0 := zF BK281.out 0; have hfz7_1 := zF BK281.out 1; have hfz7_2 := zF BK281.out 2; have hfz7_3 := zF BK281.out 3) | ((with_reducible refine zt (f := 18) rfl ?_); refine yM (some 10) rfl rfl Try.func18 (by kernel_rfl) rfl #[.agg #[.int .i64 a0_0, .int .i64 a0_1, .slice A0_2 l0_2.length c0_2, .slice A0_3 l0_3.length c0_3]] rfl (by (try simp only [List.map_toArray, List.map_cons, List.map_nil]); first | done | rfl | (simp only [List.length_drop, List.length_take]; rfl)) ?_; (with_reducible refine (zo.calls k a0_0 a0_1 _ _ l0_2 _ _ l0_3 t282 t285 _ ?side1 ?side2 ?side3 ?side4 A3.out).mono ?_); (case side1 => repeat (first | exact (Kd.C_below HR0_2.out HB.out) | (with_reducible refine Kd.C_alloc ?_ _) | (with_reducible refine Kd.C_drewN ?_ _) | (with_reducible refine Kd.C_drew ?_))); (case side2 => exact HC0_2.out); (case side3 => repeat (first | exact (Kd.C_below HR0_3.out HB.out) | (with_reducible refine Kd.C_alloc ?_ _) | (with_reducible refine Kd.C_drewN ?_ _) | (with_reducible refine Kd.C_drew ?_))); (case side4 => exact HC0_3.out); rintro e w8 ⟨v283, rfl, ho0, hb⟩; refine ⟨_, rfl, ?_⟩; have n2_ := zA.mk (zL (by repeat (first | (with_reducible first | exact HB.out | apply zD | apply zB | apply zC | refine zE ?_ GE281.out) | exact HB.out)) hb); clear HB; have HB := n2_; clear n2_; (try clear hb); (try clear hb2); (try clear hk); (try clear hi); (try clear ho0)))
   go_ret2
   exact ⟨_, by first | rfl | (simp [zX, zY] <;> rfl) | (simp [*, zX, zY] <;> rfl), by first | exact Kd.R_nil _ _ _ _ _ | exact Kd.N_nil _ _ _ _ _ | exact Kd.V_nil _ _ _ _ _ | exact Kd.Q_nil _ _ _ _ _ | exact Kd.S_nil _ _ _ _ _, by repeat (first | (with_reducible first | exact HB.out | apply zD | apply zB | apply zC | refine zE ?_ GE281.out) | exact HB.out)⟩
  ·rw [if_neg c5] at H
   have c5b0 : decide (a1 < 0) = false := decide_eq_false c5
   clear c5
   by_cases c9 : a1 ≥ (l0_2.length : Int)
   ·rw [if_pos c9] at H
    have c9b0 : decide ((l0_2.length : Int) ≤ a1) = true := decide_eq_true c9
    clear c9
    simp only [Option.some.injEq, Prod.mk.injEq] at H
    obtain ⟨rfl, rfl⟩ := H
    go_enter Try.func22, Try.ntmps22
    go_wp2_with (first | ((with_reducible refine zr (N := 2) rfl ?_); (try (refine yK (by rfl) ?_; dsimp only)); refine zz ?hg (N := 2) ?hd (cs := #[.int .i64 a0_0, .int .i64 a0_1, .slice A0_2 l0_2.length c0_2, .slice A0_3 l0_3.length c0_3]) (t := 25) ?hr ?_; (case hd => rfl); (case hg => rfl); (case hr => first | (go_simp; done) | (go_simp; rfl)); intro gb281 hg w10 hbox hb; have n0_ := zA.mk (zL (by repeat (first | (with_reducible first | exact HB.out | apply zD | apply zB | apply zC) | exact HB.out)) hb); have n1_ := zA.mk (hbox); have n2_ := zA.mk ((by rw [hg]; exact (zN (by repeat (first | (with_reducible first | exact HB.out | apply zD | apply zB | apply zC) | exact HB.out))) : w.heap.size ≤ gb281)); have n3_ := zA.mk ((by rw [hg]; exact (zN (by repeat (first | (with_reducible first | exact HB.out | apply zD | apply zB | apply zC) | exact HB.out))) : w.heap.size ≤ gb281)); clear HB; have HB := n0_; have BK281 := n1_; have GW281 := n2_; have GE281 := n3_; clear n0_ n1_ n2_ n3_; clear hb hbox hg; have hcz11_0 : w10.cell? ⟨gb281, 0, none⟩ = some (.int .i64 a0_0) := (zG BK281.out 0).trans rfl; have hcz11_1 : w10.cell? ⟨gb281, 1, none⟩ = some (.int .i64 a0_1) := (zG BK281.out 1).trans rfl; have hcz11_2 : w10.cell? ⟨gb281, 2, none⟩ = some (.slice A0_2 l0_2.length c0_2) := (zG BK281.out 2).trans rfl; have hcz11_3 : w10.cell? ⟨gb281, 3, none⟩ = some (.slice A0_3 l0_3.length c0_3) := (zG BK281.out 3).trans rfl; have hfz11_0 := zF BK281.out 0; have hfz11_1 := zF BK281.out 1; have hfz11_2 := zF BK281.out 2; have hfz11_3 := zF BK281.out 3) | ((with_reducible refine zt (f := 18) rfl ?_); refine yM (some 10) rfl rfl Try.func18 (by kernel_rfl) rfl #[.agg #[.int .i64 a0_0, .int .i64 a0_1, .slice A0_2 l0_2.length c0_2, .slice A0_3 l0_3.length c0_3]] rfl (by (try simp only [List.map_toArray, List.map_cons, List.map_nil]); first | done | rfl | (simp only [List.length_drop, List.length_take]; rfl)) ?_; (with_reducible refine (zo.calls k a0_0 a0_1 _ _ l0_2 _ _ l0_3 t282 t285 _ ?side1 ?side2 ?side3 ?side4 A3.out).mono ?_); (case side1 => repeat (first | exact (Kd.C_below HR0_2.out HB.out) | (with_reducible refine Kd.C_alloc ?_ _) | (with_reducible refine Kd.C_drewN ?_ _) | (with_reducible refine Kd.C_drew ?_))); (case side2 => exact HC0_2.out); (case side3 => repeat (first | exact (Kd.C_below HR0_3.out HB.out) | (with_reducible refine Kd.C_alloc ?_ _) | (with_reducible refine Kd.C_drewN ?_ _) | (with_reducible refine Kd.C_drew ?_))); (case side4 => exact HC0_3.out); rintro e w12 ⟨v283, rfl, ho0, hb⟩; refine ⟨_, rfl, ?_⟩; have n1_ := zA.mk (zn (g := gb281) (o := .cells #[.int .i64 a0_0, .int .i64 a0_1, .slice A0_2 l0_2.length c0_2, .slice A0_3 l0_3.length c0_3] 25 (0, 0)) (by (with_reducible repeat (first | refine zI ?_ _ | refine zJ ?_ | refine zH ?_ _)); exact BK281.out) hb); have n2_ := zA.mk (zL (by repeat (first | (with_reducible first | exact HB.out | apply zD | apply zB | apply zC | refine zE ?_ GE281.out) | exact HB.out)) hb); clear BK281; clear HB; have BK281 := n1_; have HB := n2_; clear n1_ n2_; (try clear hb); (try clear hb2); (try clear hk); (try clear hi); (try clear ho0); have hcz13_0 : w12.cell? ⟨gb281, 0, none⟩ = some (.int .i64 a0_0) := (zG BK281.out 0).trans rfl; have hcz13_1 : w12.cell? ⟨gb281, 1, none⟩ = some (.int .i64 a0_1) := (zG BK281.out 1).trans rfl; have hcz13_2 : w12.cell? ⟨gb281, 2, none⟩ = some (.slice A0_2 l0_2.length c0_2) := (zG BK281.out 2).trans rfl; have hcz13_3 : w12.cell? ⟨gb281, 3, none⟩ = some (.slice A0_3 l0_3.length c0_3) := (zG BK281.out 3).trans rfl; have hfz13_0 := zF BK281.out 0; have hfz13_1 := zF BK281.out 1; have hfz13_2 := zF BK281.out 2; have hfz13_3 := zF BK281.out 3))
    go_ret2
    exact ⟨_, by first | rfl | (simp [zX, zY] <;> rfl) | (simp [*, zX, zY] <;> rfl), by first | exact Kd.R_nil _ _ _ _ _ | exact Kd.N_nil _ _ _ _ _ | exact Kd.V_nil _ _ _ _ _ | exact Kd.Q_nil _ _ _ _ _ | exact Kd.S_nil _ _ _ _ _, by repeat (first | (with_reducible first | exact HB.out | apply zD | apply zB | apply zC | refine zE ?_ GE281.out) | exact HB.out)⟩
   ·rw [if_neg c9] at H
    have c9b0 : decide ((l0_2.length : Int) ≤ a1) = false := decide_eq_false c9
    clear c9
    by_cases c14 : 0 ≤ a1
    ·rw [if_pos c14] at H
     have c14b0 : decide (0 ≤ a1) = true := decide_eq_true c14
     clear c14
     by_cases c15 : a1 < (t282.length : Int)
     ·rw [if_pos c15] at H
      have c15b0 : decide (a1 < (t282.length : Int)) = true := decide_eq_true c15
      clear c15
      replace H := Option.bind_eq_some_iff.mp H
      obtain ⟨t287, A160, H⟩ := H
      replace H : (some (zm t282 a1, t287)) = some (r1, r2) := H
      have A16 := zA.mk A160
      clear A160
      simp only [Option.some.injEq, Prod.mk.injEq] at H
      obtain ⟨rfl, rfl⟩ := H
      go_enter Try.func22, Try.ntmps22
      try go_wp2_with (first | ((with_reducible refine zr (N := 2) rfl ?_); (try (refine yK (by rfl) ?_; dsimp only)); refine zz ?hg (N := 2) ?hd (cs := #[.int .i64 a0_0, .int .i64 a0_1, .slice A0_2 l0_2.length c0_2, .slice A0_3 l0_3.length c0_3]) (t := 25) ?hr ?_; (case hd => rfl); (case hg => rfl); (case hr => first | (go_simp; done) | (go_simp; rfl)); intro gb281 hg w17 hbox hb; have n0_ := zA.mk (zL (by repeat (first | (with_reducible first | exact HB.out | apply zD | apply zB | apply zC) | exact HB.out)) hb); have n1_ := zA.mk (hbox); have n2_ := zA.mk ((by rw [hg]; exact (zN (by repeat (first | (with_reducible first | exact HB.out | apply zD | apply zB | apply zC) | exact HB.out))) : w.heap.size ≤ gb281)); have n3_ := zA.mk ((by rw [hg]; exact (zN (by repeat (first | (with_reducible first | exact HB.out | apply zD | apply zB | apply zC) | exact HB.out))) : w.heap.size ≤ gb281)); clear HB; have HB := n0_; have BK281 := n1_; have GW281 := n2_; have GE281 := n3_; clear n0_ n1_ n2_ n3_; clear hb hbox hg; have hcz18_0 : w17.cell? ⟨gb281, 0, none⟩ = some (.int .i64 a0_0) := (zG BK281.out 0).trans rfl; have hcz18_1 : w17.cell? ⟨gb281, 1, none⟩ = some (.int .i64 a0_1) := (zG BK281.out 1).trans rfl; have hcz18_2 : w17.cell? ⟨gb281, 2, none⟩ = some (.slice A0_2 l0_2.length c0_2) := (zG BK281.out 2).trans rfl; have hcz18_3 : w17.cell? ⟨gb281, 3, none⟩ = some (.slice A0_3 l0_3.length c0_3) := (zG BK281.out 3).trans rfl; have hfz18_0 := zF BK281.out 0; have hfz18_1 := zF BK281.out 1; have hfz18_2 := zF BK281.out 2; have hfz18_3 := zF BK281.out 3) | ((with_reducible refine zt (f := 18) rfl ?_); refine yM (some 10) rfl rfl Try.func18 (by kernel_rfl) rfl #[.agg #[.int .i64 a0_0, .int .i64 a0_1, .slice A0_2 l0_2.length c0_2, .slice A0_3 l0_3.length c0_3]] rfl (by (try simp only [List.map_toArray, List.map_cons, List.map_nil]); first | done | rfl | (simp only [List.length_drop, List.length_take]; rfl)) ?_; (with_reducible refine (zo.calls k a0_0 a0_1 _ _ l0_2 _ _ l0_3 t282 t285 _ ?side1 ?side2 ?side3 ?side4 A3.out).mono ?_); (case side1 => repeat (first | exact (Kd.C_below HR0_2.out HB.out) | (with_reducible refine Kd.C_alloc ?_ _) | (with_reducible refine Kd.C_drewN ?_ _) | (with_reducible refine Kd.C_drew ?_))); (case side2 => exact HC0_2.out); (case side3 => repeat (first | exact (Kd.C_below HR0_3.out HB.out) | (with_reducible refine Kd.C_alloc ?_ _) | (with_reducible refine Kd.C_drewN ?_ _) | (with_reducible refine Kd.C_drew ?_))); (case side4 => exact HC0_3.out); rintro e w19 ⟨v283, rfl, ho0, hb⟩; refine ⟨_, rfl, ?_⟩; have n0_ := zA.mk (Kd.S_lower ho0 (zN (by repeat (first | (with_reducible first | exact HB.out | apply zD | apply zB | apply zC | refine zE ?_ GE281.out) | exact HB.out)))); have n1_ := zA.mk (zn (g := gb281) (o := .cells #[.int .i64 a0_0, .int .i64 a0_1, .slice A0_2 l0_2.length c0_2, .slice A0_3 l0_3.length c0_3] 25 (0, 0)) (by (with_reducible repeat (first | refine zI ?_ _ | refine zJ ?_ | refine zH ?_ _)); exact BK281.out) hb); have n2_ := zA.mk (zL (by repeat (first | (with_reducible first | exact HB.out | apply zD | apply zB | apply zC | refine zE ?_ GE281.out) | exact HB.out)) hb); clear BK281; clear HB; have HO284 := n0_; have BK281 := n1_; have HB := n2_; clear n0_ n1_ n2_; (try clear hb); (try clear hb2); (try clear hk); (try clear hi); (try clear ho0); have hcz20_0 : w19.cell? ⟨gb281, 0, none⟩ = some (.int .i64 a0_0) := (zG BK281.out 0).trans rfl; have hcz20_1 : w19.cell? ⟨gb281, 1, none⟩ = some (.int .i64 a0_1) := (zG BK281.out 1).trans rfl; have hcz20_2 : w19.cell? ⟨gb281, 2, none⟩ = some (.slice A0_2 l0_2.length c0_2) := (zG BK281.out 2).trans rfl; have hcz20_3 : w19.cell? ⟨gb281, 3, none⟩ = some (.slice A0_3 l0_3.length c0_3) := (zG BK281.out 3).trans rfl; have hfz20_0 := zF BK281.out 0; have hfz20_1 := zF BK281.out 1; have hfz20_2 := zF BK281.out 2; have hfz20_3 := zF BK281.out 3))
      have n0_ := zA.mk (Kd.S_drew HO284.out)
      have n1_ := zA.mk (zJ BK281.out)
      have n2_ := zA.mk (zC HB.out)
      clear HO284
      clear BK281
      clear HB
      have HO284 := n0_
      have BK281 := n1_
      have HB := n2_
      clear n0_ n1_ n2_
      obtain ⟨Ao22, co22, eo22⟩ := Kd.S_slice HO284.out
      (first | subst eo22 | (injection eo22 with f1_ f2_ f3_; have f4_ := f1_.symm; have f5_ := f3_.symm; clear f1_ f2_ f3_; subst f4_; subst f5_))
      have p286 : 0 ≤ (a1 : Int) := of_decide_eq_true (by first | (with_reducible assumption) | assumption)
      have q286 : a1 < (t282.length : Int) := of_decide_eq_true (by first | (with_reducible assumption) | assumption)
      obtain ⟨ad286, A286_0, c286_0, e286, hx286_0, hl286_0, hi286_0⟩ := ZP (Kd.S_reads' HO284.out).2.2 a1 p286 q286
      cases e286
      obtain ⟨ce286, hce286, hMe286, hcc286⟩ := Kd.S_get HO284.out [] a1 p286 (by first | exact q286 | exact of_decide_eq_true (by first | (with_reducible assumption) | assumption) | (have e_ := (Kd.S_reads' HO284.out).1; omega))
      obtain ⟨ve286_0, rfl, ge286_0⟩ := hMe286
      have hv286_0 := hcc286 0 _ rfl
      rw [Nat.add_zero, show ((Kd.slice 9 Kd.string)).sz = 1 from rfl, Nat.mul_one] at hv286_0
      replace hv286_0 := Option.some.inj (hv286_0.symm.trans hx286_0)
      rw [hv286_0] at ge286_0
      have HL286_0 := zA.mk (show Kd.R Kd.string 9 _ _ _ _ (zm t282 a1) from ge286_0)
      clear hv286_0 ge286_0
      clear hcc286 hce286
      have HR286_0 := zA.mk hi286_0
      have HC286_0 := zA.mk hl286_0
      clear hi286_0 hl286_0
      replace p286 := eq_true p286
      replace q286 := eq_true q286
      refine Zr (n := 8) (S := fun w' => w'.cell? ⟨gb281, 0, none⟩ = some (.int .i64 a0_0) ∧ w'.cell? ⟨gb281, 1, none⟩ = some (.int .i64 a0_1) ∧ w'.cell? ⟨gb281, 2, none⟩ = some (.slice A0_2 l0_2.length c0_2) ∧ w'.cell? ⟨gb281, 3, none⟩ = some (.slice A0_3 l0_3.length c0_3) ∧ w'.cell? (ad286.add (a1).toNat) = some (.slice A286_0 (zm t282 a1).length c286_0)) (ds := []) #[false, false, false, false, false, false, false, false] (by kernel_rfl) rfl rfl ⟨(zG BK281.out 0).trans rfl, (zG BK281.out 1).trans rfl, (zG BK281.out 2).trans rfl, (zG BK281.out 3).trans rfl, hx286_0⟩ (fun hHeld => ?_); refine ZC yD.tab6 yD.bits6 (fun HT_ HW_ => ?_)
      generalize w19.drew = w21 at HO284 BK281 HB HL286_0 HR286_0 hx286_0 hHeld ⊢
      refine yF (i := 0) (N := some 25) (v := ?_) (a' := ?_) #[true, false, false, false, false, false, false, false] rfl rfl (zy HT_.out (by kernel_rfl)) (fun _ _ _ h => h) (Or.inl ⟨by rfl, ?_⟩) ?_ ?_
      rotate_left
      ·intro w'
       go_simp
       with_reducible rfl
      rotate_left
      ·simp only [Act.put, List.setIfInBounds_toArray, List.set_cons_zero, List.set_cons_succ, zv, zw]
       rfl
      refine yF (i := 1) (N := some 26) (v := ?_) (a' := ?_) #[true, true, false, false, false, false, false, false] rfl rfl (zy HT_.out (by kernel_rfl)) (fun _ _ _ h => h) (Or.inl ⟨by rfl, ?_⟩) ?_ ?_
      rotate_left
      ·intro w'
       go_simp
       with_reducible rfl
      rotate_left
      ·simp only [Act.put, List.setIfInBounds_toArray, List.set_cons_zero, List.set_cons_succ, zv, zw]
       rfl
      refine yF (i := 2) (N := some 27) (v := ?_) (a' := ?_) #[true, true, true, false, false, false, false, false] rfl rfl (zy HT_.out (by kernel_rfl)) (fun _ _ _ h => h) (Or.inl ⟨by rfl, ?_⟩) ?_ ?_
      rotate_left
      ·intro w'
       go_simp
       with_reducible rfl
      rotate_left
      ·simp only [Act.put, List.setIfInBounds_toArray, List.set_cons_zero, List.set_cons_succ, zv, zw]
       rfl
      refine take_ (i := 3) (N := some 28) (v := ?_) (a' := ?_) #[true, true, true, true, false, false, false, false] rfl rfl (ye HT_.out HW_.out (by kernel_rfl)) (fun _ _ _ h => h) (Or.inl ⟨by rfl, ?_⟩) hHeld ?_ ?_
      rotate_left
      ·rintro w' ⟨s0, s1, s2, s3, s4⟩
       go_simp
       with_reducible rfl
      rotate_left
      ·simp only [Act.put, List.setIfInBounds_toArray, List.set_cons_zero, List.set_cons_succ, zv, zw]
       rfl
      refine take_ (i := 4) (N := some 29) (v := ?_) (a' := ?_) #[true, true, true, true, true, false, false, false] rfl rfl (ye HT_.out HW_.out (by kernel_rfl)) (fun _ _ _ h => h) (Or.inl ⟨by rfl, ?_⟩) hHeld ?_ ?_
      rotate_left
      ·rintro w' ⟨s0, s1, s2, s3, s4⟩
       go_simp
       with_reducible rfl
      rotate_left
      ·simp only [Act.put, List.setIfInBounds_toArray, List.set_cons_zero, List.set_cons_succ, zv, zw]
       rfl
      refine one_ (i := 5) (N := some 30) #[true, true, true, true, true, true, false, false] rfl rfl (yf HT_.out (by kernel_rfl)) (by decide) (fun K hK => ?_)
      refine goes_ Try.func32 (by kernel_rfl) rfl #[.agg #[.int .i64 a0_0, .int .i64 a0_1, .slice A0_2 l0_2.length c0_2, .slice A0_3 l0_3.length c0_3]] (by rfl) rfl rfl (by (try simp only [List.map_toArray, List.map_cons, List.map_nil]); first | done | rfl | (simp only [List.length_drop, List.length_take]; rfl)) ?_
      with_reducible refine (yE.calls k a0_0 a0_1 _ _ l0_2 _ _ l0_3 t287 _ ?side1 ?side2 ?side3 ?side4 A16.out).mono ?_
      (case side1 => repeat (first | exact (Kd.C_below HR0_2.out HB.out) | (with_reducible refine Kd.C_alloc ?_ _) | (with_reducible refine Kd.C_drewN ?_ _) | (with_reducible refine Kd.C_drew ?_)))
      (case side2 => exact HC0_2.out)
      (case side3 => repeat (first | exact (Kd.C_below HR0_3.out HB.out) | (with_reducible refine Kd.C_alloc ?_ _) | (with_reducible refine Kd.C_drewN ?_ _) | (with_reducible refine Kd.C_drew ?_)))
      (case side4 => exact HC0_3.out)
      rintro e w23 ⟨rfl, hb⟩
      have HS4_ := (hb.cell (World.block_lt_of_cell? _ _ (hHeld.2.2.2.2))).trans (hHeld.2.2.2.2)
      refine ⟨_, rfl, ?_⟩
      have n0_ := zA.mk (Kd.S_below (by (with_reducible repeat (first | apply Kd.S_alloc | apply Kd.S_drewN | apply Kd.S_drew)); exact HO284.out) hb)
      have n1_ := zA.mk (Kd.R_below (by (with_reducible repeat (first | apply Kd.R_alloc | apply Kd.R_drewN | apply Kd.R_drew)); exact HL286_0.out) hb)
      have n2_ := zA.mk (zn (g := gb281) (o := .cells #[.int .i64 a0_0, .int .i64 a0_1, .slice A0_2 l0_2.length c0_2, .slice A0_3 l0_3.length c0_3] 25 (0, 0)) (by (with_reducible repeat (first | refine zI ?_ _ | refine zJ ?_ | refine zH ?_ _)); exact BK281.out) hb)
      have n3_ := zA.mk (Kd.C_below (by repeat (first | (with_reducible exact HR286_0.out) | (with_reducible refine Kd.C_alloc ?_ _) | (with_reducible refine Kd.C_drewN ?_ _) | (with_reducible refine Kd.C_drew ?_) | exact HR286_0.out)) hb)
      have n4_ := zA.mk (zL (by repeat (first | (with_reducible first | exact HB.out | apply zD | apply zB | apply zC | refine zE ?_ GE281.out) | exact HB.out)) hb)
      clear HO284
      clear HL286_0
      clear BK281
      clear HR286_0
      clear HB
      have HO284 := n0_
      have HL286_0 := n1_
      have BK281 := n2_
      have HR286_0 := n3_
      have HB := n4_
      clear n0_ n1_ n2_ n3_ n4_
      (try clear hb)
      (try clear hb2)
      (try clear hk)
      (try clear hi)
      refine hK.out _ _ ⟨(zG BK281.out 0).trans rfl, (zG BK281.out 1).trans rfl, (zG BK281.out 2).trans rfl, (zG BK281.out 3).trans rfl, HS4_⟩ (fun hHeld => ?_)
      clear hK K
      refine yX (a' := ?_) ?_ ?_
      rotate_left
      ·show Act.put _ (some 30) _ = _
       simp only [Act.put, List.setIfInBounds_toArray, List.set_cons_zero, List.set_cons_succ, zv, zw]
       rfl
      refine yF (i := 6) (N := some 4) (v := ?_) (a' := ?_) #[true, true, true, true, true, true, true, false] rfl rfl (zy HT_.out (by kernel_rfl)) (fun _ _ _ h => h) (Or.inl ⟨by rfl, ?_⟩) ?_ ?_
      rotate_left
      ·intro w'
       go_simp
       with_reducible rfl
      rotate_left
      ·simp only [Act.put, List.setIfInBounds_toArray, List.set_cons_zero, List.set_cons_succ, zv, zw]
       rfl
      refine yF (i := 7) (N := some 5) (v := ?_) (a' := ?_) #[true, true, true, true, true, true, true, true] rfl rfl (zy HT_.out (by kernel_rfl)) (fun _ _ _ h => h) (Or.inl ⟨by rfl, ?_⟩) ?_ ?_
      rotate_left
      ·intro w'
       go_simp
       with_reducible rfl
      rotate_left
      ·simp only [Act.put, List.setIfInBounds_toArray, List.set_cons_zero, List.set_cons_succ, zv, zw]
       rfl
      refine done_ (ZZ HT_.out (by kernel_rfl)) ?_
      try go_wp2
      go_ret2
      exact ⟨_, by first | rfl | (simp [zX, zY] <;> rfl) | (simp [*, zX, zY] <;> rfl), by (with_reducible repeat (first | apply Kd.R_alloc | apply Kd.R_drewN | apply Kd.R_drew)); exact Kd.R_mono HL286_0.out (fun _ hk => trivial), by repeat (first | (with_reducible first | exact HB.out | apply zD | apply zB | apply zC | refine zE ?_ GE281.out) | exact HB.out)⟩
     ·rw [if_neg c15] at H
      exact absurd H (by simp)
    ·rw [if_neg c14] at H
     exact absurd H (by simp)
 ·rw [if_neg c4] at H
  have c4b0 : (t285 == 0) = false := beq_eq_false_iff_ne.mpr c4
  have c4b1 : (t285 != 0) = true := bne_iff_ne.mpr c4
  simp only [Option.some.injEq, Prod.mk.injEq] at H
  obtain ⟨rfl, rfl⟩ := H
  go_enter Try.func22, Try.ntmps22
  go_wp2_with (first | ((with_reducible refine zr (N := 2) rfl ?_); (try (refine yK (by rfl) ?_; dsimp only)); refine zz ?hg (N := 2) ?hd (cs := #[.int .i64 a0_0, .int .i64 a0_1, .slice A0_2 l0_2.length c0_2, .slice A0_3 l0_3.length c0_3]) (t := 25) ?hr ?_; (case hd => rfl); (case hg => rfl); (case hr => first | (go_simp; done) | (go_simp; rfl)); intro gb281 hg w24 hbox hb; have n0_ := zA.mk (zL (by repeat (first | (with_reducible first | exact HB.out | apply zD | apply zB | apply zC) | exact HB.out)) hb); have n1_ := zA.mk (hbox); have n2_ := zA.mk ((by rw [hg]; exact (zN (by repeat (first | (with_reducible first | exact HB.out | apply zD | apply zB | apply zC) | exact HB.out))) : w.heap.size ≤ gb281)); have n3_ := zA.mk ((by rw [hg]; exact (zN (by repeat (first | (with_reducible first | exact HB.out | apply zD | apply zB | apply zC) | exact HB.out))) : w.heap.size ≤ gb281)); clear HB; have HB := n0_; have BK281 := n1_; have GW281 := n2_; have GE281 := n3_; clear n0_ n1_ n2_ n3_; clear hb hbox hg; have hcz25_0 : w24.cell? ⟨gb281, 0, none⟩ = some (.int .i64 a0_0) := (zG BK281.out 0).trans rfl; have hcz25_1 : w24.cell? ⟨gb281, 1, none⟩ = some (.int .i64 a0_1) := (zG BK281.out 1).trans rfl; have hcz25_2 : w24.cell? ⟨gb281, 2, none⟩ = some (.slice A0_2 l0_2.length c0_2) := (zG BK281.out 2).trans rfl; have hcz25_3 : w24.cell? ⟨gb281, 3, none⟩ = some (.slice A0_3 l0_3.length c0_3) := (zG BK281.out 3).trans rfl; have hfz25_0 := zF BK281.out 0; have hfz25_1 := zF BK281.out 1; have hfz25_2 := zF BK281.out 2; have hfz25_3 := zF BK281.out 3) | ((with_reducible refine zt (f := 18) rfl ?_); refine yM (some 10) rfl rfl Try.func18 (by kernel_rfl) rfl #[.agg #[.int .i64 a0_0, .int .i64 a0_1, .slice A0_2 l0_2.length c0_2, .slice A0_3 l0_3.length c0_3]] rfl (by (try simp only [List.map_toArray, List.map_cons, List.map_nil]); first | done | rfl | (simp only [List.length_drop, List.length_take]; rfl)) ?_; (with_reducible refine (zo.calls k a0_0 a0_1 _ _ l0_2 _ _ l0_3 t282 t285 _ ?side1 ?side2 ?side3 ?side4 A3.out).mono ?_); (case side1 => repeat (first | exact (Kd.C_below HR0_2.out HB.out) | (with_reducible refine Kd.C_alloc ?_ _) | (with_reducible refine Kd.C_drewN ?_ _) | (with_reducible refine Kd.C_drew ?_))); (case side2 => exact HC0_2.out); (case side3 => repeat (first | exact (Kd.C_below HR0_3.out HB.out) | (with_reducible refine Kd.C_alloc ?_ _) | (with_reducible refine Kd.C_drewN ?_ _) | (with_reducible refine Kd.C_drew ?_))); (case side4 => exact HC0_3.out); rintro e w26 ⟨v283, rfl, ho0, hb⟩; refine ⟨_, rfl, ?_⟩; have n2_ := zA.mk (zL (by repeat (first | (with_reducible first | exact HB.out | apply zD | apply zB | apply zC | refine zE ?_ GE281.out) | exact HB.out)) hb); clear HB; have HB := n2_; clear n2_; (try clear hb); (try clear hb2); (try clear hk); (try clear hi); (try clear ho0)))
  go_ret2
  exact ⟨_, by first | rfl | (simp [zX, zY] <;> rfl) | (simp [*, zX, zY] <;> rfl), by first | exact Kd.R_nil _ _ _ _ _ | exact Kd.N_nil _ _ _ _ _ | exact Kd.V_nil _ _ _ _ _ | exact Kd.Q_nil _ _ _ _ _ | exact Kd.S_nil _ _ _ _ _, by repeat (first | (with_reducible first | exact HB.out | apply zD | apply zB | apply zC | refine zE ?_ GE281.out) | exact HB.out)⟩
end Go.Proofs.Ytnihlieggknpaaa.HFollowOf
